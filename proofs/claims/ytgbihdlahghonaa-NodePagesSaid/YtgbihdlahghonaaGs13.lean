/- The plain mathematics of a tree's pages: the halves of a page. -/
import Derived.Test.YtgbihdlahghonaaGs12
namespace Nd
theorem decN_iff (lf : Bool) (rs : List ByteArray) : ∀ (n : Nat) (l : List (Entry × Int)), decN lf rs n = some l ↔ l.length = n ∧ ∀ j, j < n → decR lf ((rs[j]?).getD ⟨#[]⟩) = l[j]? := by
  intro n
  induction n with
  | zero =>
    intro l
    simp only [decN]
    constructor
    · intro h; injection h with h; subst h; exact ⟨rfl, fun j hj => by omega⟩
    · rintro ⟨h, _⟩; rw [List.eq_nil_of_length_eq_zero h]
  | succ n ih =>
    intro l
    constructor
    · intro h
      simp only [decN] at h
      split at h
      · cases h
      · rename_i l0 h0
        split at h
        · cases h
        · rename_i x hx
          injection h with h
          subst h
          obtain ⟨h1, h2⟩ := (ih l0).1 h0
          refine ⟨by simp [h1], fun j hj => ?_⟩
          rcases Nat.lt_or_eq_of_le (Nat.le_of_lt_succ hj) with h3 | h3
          · rw [h2 j h3, List.getElem?_append_left (by omega)]
          · subst h3; rw [hx, ← h1, List.getElem?_append_right (Nat.le_refl _), Nat.sub_self]; rfl
    · rintro ⟨h1, h2⟩
      have hx : l[n]? = some (l[n]'(by omega)) := List.getElem?_eq_getElem (by omega)
      have h0 : decN lf rs n = some (l.take n) := (ih _).2 ⟨by rw [List.length_take]; omega, fun j hj => by rw [h2 j (by omega), List.getElem?_take_of_lt hj]⟩
      have h3 := h2 n (by omega)
      rw [hx] at h3
      simp only [decN, h0, h3]
      congr 1
      rw [← List.take_succ_eq_append_getElem (by omega), List.take_of_length_le (by omega)]
theorem rises_take {l : List Entry} (h : rises l = true) (k : Nat) : rises (l.take k) = true := by
  rw [rises_iff] at h ⊢
  intro j hj
  rw [List.length_take] at hj
  rw [List.getElem_take, List.getElem_take]
  exact h j (by omega)
theorem rises_drop {l : List Entry} (h : rises l = true) (k : Nat) : rises (l.drop k) = true := by
  rw [rises_iff] at h ⊢
  intro j hj
  rw [List.length_drop] at hj
  have := h (k + j) (by omega)
  rw [List.getElem_drop, List.getElem_drop]
  exact this
theorem lookL_cases {lf : Bool} {rs : List ByteArray} {V : View} (h : lookL lf rs = some V) : ∃ l, decN lf rs rs.length = some l ∧ ¬ (lf = false ∧ l = []) ∧ rises (riseOf lf l) = true ∧ V = viewOf lf rs l := by
  cases hd : decN lf rs rs.length with
  | none => rw [lookL_none hd] at h; cases h
  | some l =>
    rw [lookL_some hd] at h
    split at h
    · cases h
    · rename_i h0
      split at h
      · rename_i hr
        injection h with h
        exact ⟨l, rfl, h0, hr, h.symm⟩
      · cases h
theorem lookL_mk {lf : Bool} {rs : List ByteArray} {l : List (Entry × Int)} (h1 : decN lf rs rs.length = some l) (h2 : ¬ (lf = false ∧ l = [])) (h3 : rises (riseOf lf l) = true) : lookL lf rs = some (viewOf lf rs l) := by
  rw [lookL_some h1, if_neg h2, if_pos h3]
theorem look_take {lf : Bool} {rs : List ByteArray} {V : View} (h : lookL lf rs = some V) {k : Nat} (h0 : 0 < k) (hk : k < rs.length) : lookL lf (rs.take k) = some ⟨lf, rs.take k, V.ents.take k, V.kids.take k⟩ := by
  obtain ⟨l, hd, hn, hr, rfl⟩ := lookL_cases h
  obtain ⟨hl, hj⟩ := (decN_iff lf rs _ _).1 hd
  have hlk : (rs.take k).length = k := by rw [List.length_take]; omega
  have hd2 : decN lf (rs.take k) (rs.take k).length = some (l.take k) := by
    rw [hlk, decN_iff]
    refine ⟨by rw [List.length_take]; omega, fun j hjk => ?_⟩
    rw [List.getElem?_take_of_lt hjk, List.getElem?_take_of_lt hjk]
    exact hj j (by omega)
  have hne : ¬ (lf = false ∧ l.take k = []) := by
    rintro ⟨_, h2⟩
    have := congrArg List.length h2
    rw [List.length_take, List.length_nil] at this
    omega
  have hr2 : rises (riseOf lf (l.take k)) = true := by
    unfold riseOf at hr ⊢
    split
    · rename_i hlf
      rw [if_pos hlf] at hr
      rw [List.map_take]; exact rises_take hr k
    · rename_i hlf
      rw [if_neg hlf] at hr
      rw [List.map_take, List.drop_take]; exact rises_take hr (k - 1)
  rw [lookL_mk hd2 hne hr2]
  unfold viewOf
  simp only [List.map_take]
theorem look_drop {lf : Bool} {rs : List ByteArray} {V : View} (h : lookL lf rs = some V) {k : Nat} (hk : k < rs.length) : lookL lf (rs.drop k) = some ⟨lf, rs.drop k, V.ents.drop k, V.kids.drop k⟩ := by
  obtain ⟨l, hd, hn, hr, rfl⟩ := lookL_cases h
  obtain ⟨hl, hj⟩ := (decN_iff lf rs _ _).1 hd
  have hlk : (rs.drop k).length = rs.length - k := by rw [List.length_drop]
  have hd2 : decN lf (rs.drop k) (rs.drop k).length = some (l.drop k) := by
    rw [hlk, decN_iff]
    refine ⟨by rw [List.length_drop]; omega, fun j hjk => ?_⟩
    rw [List.getElem?_drop, List.getElem?_drop]
    exact hj (k + j) (by omega)
  have hne : ¬ (lf = false ∧ l.drop k = []) := by
    rintro ⟨_, h2⟩
    have := congrArg List.length h2
    rw [List.length_drop, List.length_nil] at this
    omega
  have hr2 : rises (riseOf lf (l.drop k)) = true := by
    unfold riseOf at hr ⊢
    split
    · rename_i hlf
      rw [if_pos hlf] at hr
      rw [List.map_drop]; exact rises_drop hr k
    · rename_i hlf
      rw [if_neg hlf] at hr
      rw [List.map_drop, List.drop_drop, Nat.add_comm, ← List.drop_drop]; exact rises_drop hr k
  rw [lookL_mk hd2 hne hr2]
  unfold viewOf
  simp only [List.map_drop]
end Nd
namespace Go.Proofs.Ytgbihdlahghonaa
open Go.RowKit

theorem right_look {p : ByteArray} (h : rightP p = true) : Nd.lookL (viewP p).leaf (leafP p).recs = some (viewP p) ∧ (leafP p).kind = if (viewP p).leaf then 3 else 4 := by
  refine ⟨?_, view_kind h⟩
  have hk := view_kind h
  unfold rightP at h
  unfold viewP at hk ⊢
  cases hl : lookP p with
  | none => rw [hl] at h; cases h
  | some V =>
    rw [hl] at hk
    rw [show ((some V).getD ⟨false, [], [], []⟩) = V from rfl] at hk ⊢
    unfold lookP at hl
    split at hl
    · unfold Nd.lookR at hl
      split at hl
      · rename_i h3
        rw [h3] at hk
        cases hlf : V.leaf with
        | true => exact hl
        | false => rw [hlf] at hk; cases hk
      · split at hl
        · rename_i h4
          rw [h4] at hk
          cases hlf : V.leaf with
          | true => rw [hlf] at hk; cases hk
          | false => exact hl
        · cases hl
    · cases hl
theorem part_view {x : Pg.Leaf} (h : Sub x) {lf : Bool} (hk : x.kind = if lf then 3 else 4) {V : Nd.View} (hl : Nd.lookL lf x.recs = some V) : rightP (pageB x) = true ∧ viewP (pageB x) = V := by
  obtain ⟨h1, h2, _⟩ := h.page
  have hp : lookP (pageB x) = some V := by
    unfold lookP
    rw [if_pos h1, h2]
    unfold Nd.lookR
    cases lf with
    | true => rw [if_pos (show x.kind = 3 from hk)]; exact hl
    | false => rw [if_neg (by rw [show x.kind = 4 from hk]; decide), if_pos (show x.kind = 4 from hk)]; exact hl
  unfold rightP viewP
  rw [hp]
  exact ⟨rfl, rfl⟩
/-- The two halves of a page that is split. -/
structure Halves (p a b : ByteArray) (e : Nd.Entry) (K : Nat) : Prop where
  split : splitP p = (a, b, e, true)
  k : 0 < K ∧ K < (viewP p).ents.length
  sa : a.size = 512
  sb : b.size = 512
  ra : rightP a = true
  rb : rightP b = true
  ea : (viewP a).ents = (viewP p).ents.take K
  eb : (viewP b).ents = (viewP p).ents.drop K
  ka : kidsP a = (kidsP p).take K
  kb : kidsP b = (kidsP p).drop K
  he : (viewP p).ents[K]? = some e
  kind : (leafP a).kind = (leafP p).kind ∧ (leafP b).kind = (leafP p).kind
  link : (leafP a).link = (leafP p).link ∧ (leafP b).link = (leafP p).link
  lsn : (leafP a).lsn = (leafP p).lsn
theorem split_no {p : ByteArray} (h : (splitP p).2.2.2 = false) : splitP p = (⟨#[]⟩, ⟨#[]⟩, Nd.zero, false) ∧ (viewP p).ents.length < 2 := by
  unfold splitP at h ⊢
  by_cases hc : rightP p = false ∨ (viewP p).recs.length < 2
  · rw [if_pos hc]
    refine ⟨rfl, ?_⟩
    have hb := look_bound p
    rcases hc with h1 | h1
    · rw [(view_wrong h1).1]; decide
    · omega
  · rw [if_neg hc] at h
    cases h
theorem split_yes {p : ByteArray} (h : (splitP p).2.2.2 = true) : ∃ a b e K, Halves p a b e K := by
  by_cases hc : rightP p = false ∨ (viewP p).recs.length < 2
  · unfold splitP at h
    rw [if_pos hc] at h
    cases h
  · have hr : rightP p = true := by
      cases hr : rightP p with
      | true => rfl
      | false => exact absurd (.inl hr) hc
    have hn : 2 ≤ (viewP p).recs.length := by
      rcases Nat.lt_or_ge (viewP p).recs.length 2 with h1 | h1
      · exact absurd (.inr h1) hc
      · exact h1
    have hK := Nd.splitK_in hn
    have hb := look_bound p
    obtain ⟨hlook, hkind⟩ := right_look hr
    have hrec := (view_recs hr).2.1
    have hs := right_sub hr
    rw [hrec] at hK
    have hlk : Nd.splitK (leafP p).recs < (leafP p).recs.length := hK.2
    have hel : (viewP p).ents.length = (leafP p).recs.length := by rw [hb.2.1, hrec]
    have sA := hs.take (Nd.splitK (leafP p).recs)
    have sB := hs.drop (Nd.splitK (leafP p).recs)
    have vA := part_view sA hkind (Nd.look_take hlook (by omega) hlk)
    have vB := part_view sB hkind (Nd.look_drop hlook hlk)
    refine ⟨_, _, (viewP p).ents[Nd.splitK (leafP p).recs]'(by omega), Nd.splitK (leafP p).recs, ?_, ?_, sA.page.2.2, sB.page.2.2, vA.1, vB.1, by rw [vA.2], by rw [vB.2], ?_, ?_, List.getElem?_eq_getElem (by omega), ?_, ?_, ?_⟩
    · unfold splitP
      rw [if_neg hc, hrec]
      unfold splitV
      rw [List.getElem?_eq_getElem (by omega)]; rfl
    · exact ⟨by omega, by omega⟩
    · unfold kidsP
      rw [vA.1, vA.2, hr]
      simp only [true_and]
      split <;> simp
    · unfold kidsP
      rw [vB.1, vB.2, hr]
      simp only [true_and]
      split <;> simp
    · rw [sA.page.2.1, sB.page.2.1]; exact ⟨rfl, rfl⟩
    · rw [sA.page.2.1, sB.page.2.1]; exact ⟨rfl, rfl⟩
    · rw [sA.page.2.1]
end Go.Proofs.Ytgbihdlahghonaa
/- The walks over the reference's Same and Ints, of lists that are the same. -/
namespace Go.Proofs.Ytgbihdlahghonaa
open Go.RowKit

/-- The slice at A, of capacity c, reads as the numbers l. -/
def CellsI (w : World) (A : Option Addr) (c : Nat) (l : List Int) : Prop :=
  0 < l.length → ∃ b off, A = some ⟨b, off, none⟩ ∧ l.length ≤ c ∧ b < w.heap.size ∧ ∀ j (h : j < l.length), w.cell? ⟨b, off + j, none⟩ = some (.int .i64 l[j])
theorem CellsI.below {w w' : World} {A : Option Addr} {c : Nat} {l : List Int} (h : CellsI w A c l) (hb : Below w.heap.size w w') : CellsI w' A c l := fun h0 => by
  obtain ⟨b, off, hA, hc, hlt, hcell⟩ := h h0
  refine ⟨b, off, hA, hc, Nat.lt_of_lt_of_le hlt hb.size, fun j hj => ?_⟩
  rw [hb.cell (p := ⟨b, off + j, none⟩) hlt]; exact hcell j hj
theorem CellsI.at_ {w : World} {A : Option Addr} {c : Nat} {l : List Int} (h : CellsI w A c l) (h0 : 0 < l.length) : ∃ b off, A = some ⟨b, off, none⟩ ∧ l.length ≤ c ∧ b < w.heap.size ∧ ∀ j (h : j < l.length), w.cell? ⟨b, off + j, none⟩ = some (.int .i64 l[j]) := h h0
theorem ownIs_cells {B : Nat} {w : World} {v : Value} {l : List Int} (h : OwnIs B w v l) : ∃ A c, v = .slice A l.length c ∧ CellsI w A c l := by
  obtain ⟨h1, h2⟩ := h
  rcases h2 with ⟨rfl, h0⟩ | ⟨g, cap, cur, rfl, hg, hh, hn, hm, hs, ht⟩
  · exact ⟨none, 0, by rw [h0], fun h => absurd h (by omega)⟩
  · refine ⟨_, _, rfl, fun _ => ⟨g, 0, rfl, hn, heap_lt hh, fun j hj => ?_⟩⟩
    have k1 : (l.map (Value.int .i64))[j]? = some (.int .i64 l[j]) := by rw [List.getElem?_map, List.getElem?_eq_getElem hj]; rfl
    rw [← ht] at k1
    rw [List.getElem?_take, if_pos (by omega), Array.getElem?_toList] at k1
    rw [cell_of_blk hh, Nat.zero_add]; exact k1

set_option maxRecDepth 100000 in
set_option maxHeartbeats 2000000 in
theorem same_any (A A' : Option Addr) (c c' : Nat) (l : List Nd.Entry) (hl : l.length ≤ 4096) (w : World) (h : CellsE w A c l) (h' : CellsE w A' c' l) :
    Calls Try.prog 59 #[.slice A l.length c, .slice A' l.length c'] w fun e w' => e = .returned (.bool true) ∧ Below w.heap.size w w' := by
  have HC := Lib.hid h
  have HC' := Lib.hid h'
  clear h h'
  go_enter Try.func59, Try.ntmps59
  go_wp2_with fail
  go_loopw [5] (fun i wr => ∃ k : Nat, k ≤ l.length ∧ i = .int .i64 k ∧ Below w.heap.size w wr) (fun i _ => l.length - (intOf i).toNat)
  case atStart => exact ⟨0, Nat.zero_le _, rfl, Below.refl _ _⟩
  case round =>
    obtain ⟨k, hk, rfl, hb⟩ := hrel
    by_cases hlt : k < l.length
    · obtain ⟨g, off, rfl, hc, hgl, hE⟩ := (HC.out.below hb).at_ (by omega)
      obtain ⟨g', off', rfl, hc', hgl', hE'⟩ := (HC'.out.below hb).at_ (by omega)
      obtain ⟨q0, q1, q2⟩ := hE k hlt
      obtain ⟨r0, r1, r2⟩ := hE' k hlt
      have heq := fun W => (entry_equal l[k] l[k] W).trans (by rw [Nd.eqE_self])
      clear hE hE'
      generalize l[k] = x at q0 q1 q2 r0 r1 r2 heq
      obtain ⟨ak, ap, as_⟩ := x
      have hd : decide (k < l.length) = true := decide_eq_true hlt
      have hi1 : (0 : Int) ≤ (k : Int) := by omega
      have hi2 : (k : Int) < (l.length : Int) := by omega
      go_upto_region 4 with (fail)
      go_quiet (fail)
      go_wp2_with fail
      go_roundw
      case rel => exact ⟨k + 1, by omega, by go_num, andThen hb (below_drewN _ _)⟩
      case measure => simp [intOf]; omega
    · obtain rfl : k = l.length := by omega
      have hd : decide (l.length < l.length) = false := decide_eq_false (by omega)
      go_wp2_with fail
      go_ret
      exact ⟨rfl, hb⟩
set_option maxRecDepth 100000 in
set_option maxHeartbeats 2000000 in
theorem isame_any (A A' : Option Addr) (c c' : Nat) (l : List Int) (hl : l.length ≤ 4096) (w : World) (h : CellsI w A c l) (h' : CellsI w A' c' l) :
    Calls Try.prog 62 #[.slice A l.length c, .slice A' l.length c'] w fun e w' => e = .returned (.bool true) ∧ Below w.heap.size w w' := by
  have HC := Lib.hid h
  have HC' := Lib.hid h'
  clear h h'
  go_enter Try.func62, Try.ntmps62
  go_wp2_with fail
  go_loopw [5] (fun i wr => ∃ k : Nat, k ≤ l.length ∧ i = .int .i64 k ∧ Below w.heap.size w wr) (fun i _ => l.length - (intOf i).toNat)
  case atStart => exact ⟨0, Nat.zero_le _, rfl, Below.refl _ _⟩
  case round =>
    obtain ⟨k, hk, rfl, hb⟩ := hrel
    by_cases hlt : k < l.length
    · obtain ⟨g, off, rfl, hc, hgl, hE⟩ := (HC.out.below hb).at_ (by omega)
      obtain ⟨g', off', rfl, hc', hgl', hE'⟩ := (HC'.out.below hb).at_ (by omega)
      have q0 := hE k hlt
      have r0 := hE' k hlt
      clear hE hE'
      generalize l[k] = x at q0 r0
      have hd : decide (k < l.length) = true := decide_eq_true hlt
      have hi1 : (0 : Int) ≤ (k : Int) := by omega
      have hi2 : (k : Int) < (l.length : Int) := by omega
      go_upto_region 4 with (fail)
      go_quiet (fail)
      go_wp2_with fail
      go_roundw
      case rel => exact ⟨k + 1, by omega, by go_num, andThen hb (below_drewN _ _)⟩
      case measure => simp [intOf]; omega
    · obtain rfl : k = l.length := by omega
      have hd : decide (l.length < l.length) = false := decide_eq_false (by omega)
      go_wp2_with fail
      go_ret
      exact ⟨rfl, hb⟩
end Go.Proofs.Ytgbihdlahghonaa
/- Appending entries and numbers to a slice of the call's own. -/
namespace Go.Proofs.Ytgbihdlahghonaa
open Go.RowKit

theorem entsAt_cells {w : World} {b off : Nat} {l : List Nd.Entry} (h : EntsAt w b off l) : ∀ j u, (entCells l)[j]? = some u → w.cell? ⟨b, off + j, none⟩ = some u := by
  intro j u hu
  have hj : j < (entCells l).length := (List.getElem?_eq_some_iff.1 hu).1
  rw [entCells_length] at hj
  obtain ⟨q, r, hr, rfl⟩ : ∃ q r, r < 3 ∧ j = q * 3 + r := ⟨j / 3, j % 3, Nat.mod_lt _ (by omega), by omega⟩
  have hq : q < l.length := by omega
  obtain ⟨h1, h2, h3⟩ := h q hq
  obtain ⟨k1, k2, k3⟩ := entCells_get l q hq
  have hr3 : r = 0 ∨ r = 1 ∨ r = 2 := by omega
  rcases hr3 with rfl | rfl | rfl
  · rw [Nat.add_zero] at hu ⊢
    rw [k1] at hu; rw [← hu]; exact h1
  · rw [k2] at hu; rw [← hu, ← Nat.add_assoc]; exact h2
  · rw [k3] at hu; rw [← hu, ← Nat.add_assoc]; exact h3
/-- What is nothing is appended: nothing turns. -/
theorem run_append_nil {w : World} {t e ty : TypeId} {i0 : TypeInfo} {B n size : Nat} {v : Value} {xs : List Value} (ht : Try.prog.underlying t = some (.slice e)) (hi : Try.prog.info? e = some i0) (hown : w.ownsRow B e size v n xs) (c : Nat) :
    (Builtin.append_ #[t, t] ty #[v, .slice none 0 c]).run Try.prog w = .ok v w := by
  rcases hown.2 with ⟨rfl, hz⟩ | ⟨g, cap, cur, rfl, _, _, hnc, _⟩
  · simp [Builtin.append_, run_underlying ht, sizeOf, typeInfo, hi, Builtin.lenOf, Builtin.firstCells]
  · simp [Builtin.append_, run_underlying ht, sizeOf, typeInfo, hi, Builtin.lenOf, Builtin.firstCells, hnc, storeCells]
set_option maxRecDepth 100000 in
theorem wp_appE {o : Oper} {a : Act} {K : Act → World → Prop} {Q : Exit → Act → World → Prop} (w : World) (s x : Operand)
    (ho : o.op = .call { callee := .builtin .append, args := #[s, x], argTypes := #[51, 51] })
    (B : Nat) (v : Value) (xs : List Nd.Entry) (hs : a.eval s = v) (hown : OwnEs B w v xs) (A : Option Addr) (m c : Nat) (ys : List Nd.Entry) (hm : ys.length = m) (hx : a.eval x = .slice A m c) (hy : CellsE w A c ys)
    (hlen : xs.length + m ≤ 1048576) (hbase : B ≤ w.heap.size)
    (h : ∀ v' w', OwnEs B w' v' (xs ++ ys) → Below B w w' → K (a.put o.dst v') w') : o.wp Try.prog a w K Q := by
  subst hm
  obtain ⟨i0, hi, hz0, hz1, hz2⟩ := info_parts info_entry
  rcases A with _ | ad
  · have hn : ys = [] := by
      rcases Nat.eq_zero_or_pos ys.length with h0 | h0
      · exact List.eq_nil_of_length_eq_zero h0
      · obtain ⟨b, off, e, _⟩ := hy h0
        cases e
    subst hn
    have hrun := run_append_nil (ty := o.type) Try.underlying51 hi hown c
    unfold Oper.wp execOp
    have hx' : a.eval x = .slice none 0 c := hx
    simp only [ho, resolve, invoke, builtin, Sem.run_bind, Sem.run_pure, Result.andThen_ok, List.map_toArray, List.map_cons, List.map_nil, hs, hx', hrun]
    exact h v w (by simpa using hown) (Below.refl _ _)
  · refine wp_append_own w s x _ ho B 45 i0 _ 3 32 Try.underlying51 hi hz0 hz1 hz2 rfl (by omega) v xs.length (entCells xs) hs hown ad ys.length c (entCells ys) hx (by rw [entCells_length, Nat.mul_comm]) ?_ (entCells_one ys) (by simp only [maxLen]; omega) (by omega) hbase ?_
    · intro j u hu
      have hpos : 0 < ys.length := by
        have := (List.getElem?_eq_some_iff.1 hu).1
        rw [entCells_length] at this
        omega
      obtain ⟨b, off, e, _, _, hE⟩ := hy hpos
      injection e with e
      subst e
      rw [show (⟨b, off, none⟩ : Addr).add j = ⟨b, off + j, none⟩ from Addr.add_mid b off j]
      exact entsAt_cells hE j u hu
    · intro v' w' h1 h2 _
      refine h v' w' ?_ ((Below.refl _ _).grown h2 hbase (fun k hk => (hown.lt k hk).1))
      unfold OwnEs
      rw [List.length_append, entCells_append]; exact h1
set_option maxRecDepth 100000 in
theorem wp_appI {o : Oper} {a : Act} {K : Act → World → Prop} {Q : Exit → Act → World → Prop} (w : World) (s x : Operand)
    (ho : o.op = .call { callee := .builtin .append, args := #[s, x], argTypes := #[54, 54] })
    (B : Nat) (v : Value) (xs : List Int) (hs : a.eval s = v) (hown : OwnIs B w v xs) (A : Option Addr) (m c : Nat) (ys : List Int) (hm : ys.length = m) (hx : a.eval x = .slice A m c) (hy : CellsI w A c ys)
    (hlen : xs.length + m ≤ 1048576) (hbase : B ≤ w.heap.size)
    (h : ∀ v' w', OwnIs B w' v' (xs ++ ys) → Below B w w' → K (a.put o.dst v') w') : o.wp Try.prog a w K Q := by
  subst hm
  obtain ⟨i0, hi, hz0, hz1, hz2⟩ := info_parts info_int
  rcases A with _ | ad
  · have hn : ys = [] := by
      rcases Nat.eq_zero_or_pos ys.length with h0 | h0
      · exact List.eq_nil_of_length_eq_zero h0
      · obtain ⟨b, off, e, _⟩ := hy h0
        cases e
    subst hn
    have hrun := run_append_nil (ty := o.type) Try.underlying54 hi hown c
    unfold Oper.wp execOp
    have hx' : a.eval x = .slice none 0 c := hx
    simp only [ho, resolve, invoke, builtin, Sem.run_bind, Sem.run_pure, Result.andThen_ok, List.map_toArray, List.map_cons, List.map_nil, hs, hx', hrun]
    exact h v w (by simpa using hown) (Below.refl _ _)
  · refine wp_append_own w s x _ ho B 3 i0 _ 1 8 Try.underlying54 hi hz0 hz1 hz2 rfl (by omega) v xs.length (xs.map (Value.int .i64)) hs hown ad ys.length c (ys.map (Value.int .i64)) hx (by simp) ?_ ?_ (by simp only [maxLen]; omega) (by omega) hbase ?_
    · intro j u hu
      rw [List.getElem?_map] at hu
      obtain ⟨r, hr, rfl⟩ := Option.map_eq_some_iff.1 hu
      obtain ⟨hj, rfl⟩ := List.getElem?_eq_some_iff.1 hr
      obtain ⟨b, off, e, _, _, hE⟩ := hy (by omega)
      injection e with e
      subst e
      rw [show (⟨b, off, none⟩ : Addr).add j = ⟨b, off + j, none⟩ from Addr.add_mid b off j]
      exact hE j hj
    · intro u hu
      obtain ⟨r, _, rfl⟩ := List.mem_map.1 hu
      rfl
    · intro v' w' h1 h2 _
      refine h v' w' ?_ ((Below.refl _ _).grown h2 hbase (fun k hk => (hown.lt k hk).1))
      unfold OwnIs
      rw [List.length_append, List.map_append]; exact h1
/-- At an operation that is wanted. -/
theorem wpList_wants {P : Program} {ops : Array Oper} {Q : Exit → Act → World → Prop} {a : Act} {w : World} {rest : List Oper} {o : Oper} (hw : Region.wanted o (yielded ops a.tmps) = true) (h : ∀ K : Act → World → Prop, (∀ a w, wpList P ops Q rest a w → K a w) → o.wp P a w K Q) : wpList P ops Q (o :: rest) a w :=
  wpList_step fun K hK => by rw [if_pos hw]; exact h K hK
end Go.Proofs.Ytgbihdlahghonaa
/- The walk of NodeSplits. -/
namespace Go.Proofs.Ytgbihdlahghonaa
open Go.RowKit

theorem kids_form {l : List Int} {f : Nat} {args : Array Value} {W : World} (k : Calls Try.prog f args W fun e w' => ∃ v, e = .returned v ∧ OwnIs W.heap.size w' v l ∧ Below W.heap.size W w') :
    Calls Try.prog f args W fun e w' => ∃ a c, e = .returned (.slice a l.length c) ∧ CellsI w' a c l ∧ Below W.heap.size W w' :=
  k.mono fun e w' ⟨v, he, ho, hb⟩ => by
    obtain ⟨a, c, hv, hC⟩ := ownIs_cells ho
    exact ⟨a, c, by rw [he, hv], hC, hb⟩
theorem kids_bound (p : ByteArray) : (kidsP p).length ≤ 123 := by
  have h := look_bound p
  unfold kidsP
  split
  · omega
  · simp
theorem own_empty (w : World) (e : TypeId) (size : Nat) : (w.alloc (.cells #[] e)).ownsRow w.heap.size e size (.slice (some ⟨w.heap.size, 0, none⟩) 0 0) 0 [] := World.ownsRow_made w #[] 0 (Nat.le_refl _) (Nat.zero_le _) (by simp)
set_option maxRecDepth 100000 in
set_option maxHeartbeats 8000000 in
theorem splits_any (p : ByteArray) (hm : p.size ≤ 140737488355328) (w : World) :
    Calls Try.prog 11 #[.string p] w fun x w' => x = .returned (.bool true) ∧ Below w.heap.size w w' := by
  have HW := Lib.hid (fun W => nawake_any W)
  have HSp := Lib.hid (fun W => nsplit_any p hm W)
  have HE := Lib.hid (fun W => entries_form (nentries_any p hm W))
  cases hs : (splitP p).2.2.2 with
  | false =>
    obtain ⟨h1, h2⟩ := split_no hs
    rw [h1] at HSp
    unfold splitT at HSp
    simp only at HSp
    have heq := fun W => (entry_equal ⟨⟨#[]⟩, 0, 0⟩ ⟨⟨#[]⟩, 0, 0⟩ W).trans (by rw [Nd.eqE_self])
    have hlt : ((viewP p).ents.length : Int) < 2 := by omega
    generalize (viewP p).ents = l at HE hlt
    unfold Nd.zero at HSp
    clear hs h1 h2
    go_enter Try.func11, Try.ntmps11
    go_wp2_with (first
      | (go_at_call 54; refine (HSp.out _).mono ?_; rintro x w1 ⟨rfl, hb1⟩; have HB1 := Lib.hid hb1; clear hb1)
      | (go_at_call 60; refine (HE.out _).mono ?_; rintro x w2 ⟨a2, c2, rfl, -, hb2⟩; have HX2 := Lib.hid (blk_new hb2); have HB2 := Lib.hid (andThen HB1.out (below_past hb2)); clear hb2)
      | (go_at_call 56; refine (HW.out _).mono ?_; rintro x w3 ⟨rfl, hb3⟩; obtain ⟨x0, x1, x2, -, -, -⟩ := blkE (blk_old HX2.out hb3); have HB3 := Lib.hid (andThen HB2.out hb3); clear hb3))
    go_ret
    exact ⟨rfl, HB3.out⟩
  | true =>
    obtain ⟨a, b, e, K, H⟩ := split_yes hs
    have hsplit := H.split
    have hbd := look_bound p
    have hk := H.k
    have za : a.size ≤ 140737488355328 := by have := H.sa; omega
    have zb : b.size ≤ 140737488355328 := by have := H.sb; omega
    have HRa := Lib.hid (fun W => H.ra ▸ nright_any a za W)
    have HRb := Lib.hid (fun W => H.rb ▸ nright_any b zb W)
    have HEa := Lib.hid (fun W => entries_form (nentries_any a za W))
    have HEb := Lib.hid (fun W => entries_form (nentries_any b zb W))
    have HKa := Lib.hid (fun W => kids_form (nchildren_any a za W))
    have HKb := Lib.hid (fun W => kids_form (nchildren_any b zb W))
    have HKp := Lib.hid (fun W => kids_form (nchildren_any p hm W))
    have Hka := Lib.hid (fun W => H.kind.1 ▸ kind_any a za W)
    have Hkb := Lib.hid (fun W => H.kind.2 ▸ kind_any b zb W)
    have Hkp := Lib.hid (fun W => kind_any p hm W)
    have Hla := Lib.hid (fun W => H.link.1 ▸ link_any a za W)
    have Hlb := Lib.hid (fun W => H.link.2 ▸ link_any b zb W)
    have Hlp := Lib.hid (fun W => link_any p hm W)
    have Hna := Lib.hid (fun W => H.lsn ▸ lsn_any a za W)
    have Hnp := Lib.hid (fun W => lsn_any p hm W)
    have hea := H.ea
    have heb := H.eb
    have hka := H.ka
    have hkb := H.kb
    have hkl := kids_bound p
    have hhe := H.he
    rw [hsplit] at HSp
    unfold splitT at HSp
    simp only at HSp
    have hll : (viewP p).ents.length ≤ 123 := by omega
    rw [hea] at HEa
    rw [heb] at HEb
    rw [hka] at HKa
    rw [hkb] at HKb
    generalize (viewP p).ents = l at HE HEa HEb hhe hk hll
    generalize kidsP p = ks at HKa HKb HKp hkl
    generalize (leafP p).kind = kd at Hka Hkb Hkp
    generalize (leafP p).link = lk at Hla Hlb Hlp
    generalize (leafP p).lsn = ln at Hna Hnp
    have hTD := List.take_append_drop K l
    have hKD := List.take_append_drop K ks
    have h0 : (l.drop K)[0]? = some e := by rw [List.getElem?_drop]; exact hhe
    have hl1 : (l.take K).length + (l.drop K).length ≤ 123 := by rw [← List.length_append, hTD]; exact hll
    have hl2 : 0 < (l.take K).length ∧ 0 < (l.drop K).length := by rw [List.length_take, List.length_drop]; omega
    have hl3 : (ks.take K).length + (ks.drop K).length ≤ 123 := by rw [← List.length_append, hKD]; exact hkl
    generalize l.take K = la at HEa hTD hl1 hl2
    generalize l.drop K = lb at HEb hTD hl1 hl2 h0
    generalize ks.take K = ka at HKa hKD hl3
    generalize ks.drop K = kb at HKb hKD hl3
    have HTD := Lib.hid hTD
    have HKD := Lib.hid hKD
    obtain ⟨hla, hlb⟩ := hl2
    have e1 : ((la.length : Int) == 0) = false := by simp; exact fun h => by rw [h] at hla; simp at hla
    have e2 : ((lb.length : Int) == 0) = false := by simp; exact fun h => by rw [h] at hlb; simp at hlb
    have heq := fun W => (entry_equal e e W).trans (by rw [Nd.eqE_self])
    have H0 := Lib.hid h0
    clear hs hsplit hbd hk za zb hea heb hka hkb hhe hTD hKD h0 H
    obtain ⟨ek, ep, es⟩ := e
    go_enter Try.func11, Try.ntmps11
    go_upto_region 6 with (first
      | (go_at_call 54; refine (HSp.out _).mono ?_; rintro x w1 ⟨rfl, hb1⟩; have HB1 := Lib.hid hb1; clear hb1)
      | (go_at_call 60; ((with_reducible refine (HE.out _).mono ?_); rintro x w2 ⟨a2, c2, rfl, hC2, hb2⟩; have HX2 := Lib.hid (blk_new hb2); have HC2 := Lib.hid hC2; have HB2 := Lib.hid (andThen HB1.out (below_past hb2)); clear hb2 hC2))
      | (go_at_call 60; ((with_reducible refine (HEa.out _).mono ?_); rintro x w3 ⟨a3, c3, rfl, hC3, hb3⟩; have HX3 := Lib.hid (blk_old HX2.out hb3); have HC3 := Lib.hid hC3; have HC23 := Lib.hid (HC2.out.below hb3); have HB3 := Lib.hid (andThen HB2.out hb3); clear hb3 hC3))
      | (go_at_call 60; ((with_reducible refine (HEb.out _).mono ?_); rintro x w4 ⟨a4, c4, rfl, hC4, hb4⟩; have HX4 := Lib.hid (blk_old HX3.out hb4); have HC4 := Lib.hid hC4; have HC24 := Lib.hid (HC23.out.below hb4); have HC34 := Lib.hid (HC3.out.below hb4); have HB4 := Lib.hid (andThen HB3.out hb4); clear hb4 hC4)))
    obtain ⟨g, off, rfl, hc, hgl, hE⟩ := HC4.out.at_ hlb
    obtain ⟨X, hX⟩ : ∃ X, X = w1.heap.size := ⟨_, rfl⟩
    rw [← hX] at HX4 ⊢
    have hHE := heldN_of (b := ⟨ek, ep, es⟩) hE hgl hlb HX4.out
    have hb0 : lb[0] = ⟨ek, ep, es⟩ := by
      have h0 := H0.out
      rw [List.getElem?_eq_getElem hlb] at h0
      exact Option.some.inj h0
    rw [hb0, Nat.zero_mul, Nat.add_zero] at hHE
    have HSS := Lib.hid (hHE.step (Below.refl _ _).drew)
    have hi1 : (0 : Int) < (lb.length : Int) := by omega
    clear hE hHE hb0 HX2 HX3 HX4 hX HE HEa HEb HSp
    refine wp_region_held_drew (S := (fun we => HeldN g off X 0 ⟨ek, ep, es⟩ ⟨ek, ep, es⟩ w4 we)) (by kernel_rfl) ?_ (fun hHeld => ?_)
    · first | exact HSS.out | exact hSn
    refine wpAnyH_take (i := 0) (oi := { dst := some 45, op := _, type := _, pos := _, after := _, guard := _ }) (v := ?_) rfl (by kernel_rfl) (by kernel_rfl) (by kernel_rfl) (fun _ _ _ h => h) (Or.inl ⟨by rfl, ?_⟩) (by assumption) ?_
    rotate_left
    · intro w hSw; (try dsimp only at hSw); go_simp; (try with_reducible rfl)
    try simp only [Act.put, List.setIfInBounds_toArray, List.set_cons_zero, List.set_cons_succ]
    refine wpAnyH_ready (rs := [1]) (by kernel_rfl) (by simp) ?_
    refine AllReadyH.cons (o := { dst := some 46, op := _, type := _, pos := _, after := _, guard := _ }) rfl (fun K hK => ?_) ?_
    rotate_left
    · exact AllReadyH.nil
    go_simp
    refine (HRa.out _).mono ?_; rintro e w5 ⟨rfl, hb5⟩; have hSn := hHeld.step hb5; clear hHeld hb5; try go_simp
    refine hK.out _ _ ?_ (fun hHeld => ?_)
    · first | exact HSS.out | exact hSn
    clear hK K
    try simp only [Act.put, List.setIfInBounds_toArray, List.set_cons_zero, List.set_cons_succ]
    refine wpAnyH_take (i := 2) (oi := { dst := some 47, op := _, type := _, pos := _, after := _, guard := _ }) (v := ?_) rfl (by kernel_rfl) (by kernel_rfl) (by kernel_rfl) (fun _ _ _ h => h) (Or.inl ⟨by rfl, ?_⟩) (by assumption) ?_
    rotate_left
    · intro w hSw; (try dsimp only at hSw); go_simp; (try with_reducible rfl)
    try simp only [Act.put, List.setIfInBounds_toArray, List.set_cons_zero, List.set_cons_succ]
    refine wpAnyH_take (i := 3) (oi := { dst := some 48, op := _, type := _, pos := _, after := _, guard := _ }) (v := ?_) rfl (by kernel_rfl) (by kernel_rfl) (by kernel_rfl) (fun _ _ _ h => h) (Or.inl ⟨by rfl, ?_⟩) (by assumption) ?_
    rotate_left
    · intro w hSw; (try dsimp only at hSw); go_simp; (try with_reducible rfl)
    try simp only [Act.put, List.setIfInBounds_toArray, List.set_cons_zero, List.set_cons_succ]
    refine wpAnyH_take (i := 4) (oi := { dst := some 49, op := _, type := _, pos := _, after := _, guard := _ }) (v := ?_) rfl (by kernel_rfl) (by kernel_rfl) (by kernel_rfl) (fun _ _ _ h => h) (Or.inl ⟨by rfl, ?_⟩) (by assumption) ?_
    rotate_left
    · intro w hSw; (try dsimp only at hSw); go_simp; (try with_reducible rfl)
    try simp only [Act.put, List.setIfInBounds_toArray, List.set_cons_zero, List.set_cons_succ]
    refine wpAnyH_ready (rs := [5]) (by kernel_rfl) (by simp) ?_
    refine AllReadyH.cons (o := { dst := some 50, op := _, type := _, pos := _, after := _, guard := _ }) rfl (fun K hK => ?_) ?_
    rotate_left
    · exact AllReadyH.nil
    go_simp
    refine (HRb.out _).mono ?_; rintro e w5 ⟨rfl, hb5⟩; have hSn := hHeld.step hb5; clear hHeld hb5; try go_simp
    refine hK.out _ _ ?_ (fun hHeld => ?_)
    · first | exact HSS.out | exact hSn
    clear hK K
    try simp only [Act.put, List.setIfInBounds_toArray, List.set_cons_zero, List.set_cons_succ]
    refine wpAnyH_take (i := 6) (oi := { dst := some 51, op := _, type := _, pos := _, after := _, guard := _ }) (v := ?_) rfl (by kernel_rfl) (by kernel_rfl) (by kernel_rfl) (fun _ _ _ h => h) (Or.inl ⟨by rfl, ?_⟩) (by assumption) ?_
    rotate_left
    · intro w hSw; (try dsimp only at hSw); go_simp; (try with_reducible rfl)
    try simp only [Act.put, List.setIfInBounds_toArray, List.set_cons_zero, List.set_cons_succ]
    refine wpAnyH_take (i := 7) (oi := { dst := some 52, op := _, type := _, pos := _, after := _, guard := _ }) (v := ?_) rfl (by kernel_rfl) (by kernel_rfl) (by kernel_rfl) (fun _ _ _ h => h) (Or.inl ⟨by rfl, ?_⟩) (by assumption) ?_
    rotate_left
    · intro w hSw; (try dsimp only at hSw); go_simp; (try with_reducible rfl)
    try simp only [Act.put, List.setIfInBounds_toArray, List.set_cons_zero, List.set_cons_succ]
    refine wpAnyH_take (i := 8) (oi := { dst := some 53, op := _, type := _, pos := _, after := _, guard := _ }) (v := ?_) rfl (by kernel_rfl) (by kernel_rfl) (by kernel_rfl) (fun _ _ _ h => h) (Or.inl ⟨by rfl, ?_⟩) (by assumption) ?_
    rotate_left
    · intro w hSw; (try dsimp only at hSw); go_simp; (try with_reducible rfl)
    try simp only [Act.put, List.setIfInBounds_toArray, List.set_cons_zero, List.set_cons_succ]
    refine wpAnyH_take (i := 9) (oi := { dst := some 54, op := _, type := _, pos := _, after := _, guard := _ }) (v := ?_) rfl (by kernel_rfl) (by kernel_rfl) (by kernel_rfl) (fun _ _ _ h => h) (Or.inl ⟨by rfl, ?_⟩) (by assumption) ?_
    rotate_left
    · intro w hSw; (try dsimp only at hSw); go_simp; (try with_reducible rfl)
    try simp only [Act.put, List.setIfInBounds_toArray, List.set_cons_zero, List.set_cons_succ]
    refine wpAnyH_take (i := 10) (oi := { dst := some 55, op := _, type := _, pos := _, after := _, guard := _ }) (v := ?_) rfl (by kernel_rfl) (by kernel_rfl) (by kernel_rfl) (fun _ _ _ h => h) (Or.inl ⟨by rfl, ?_⟩) (by assumption) ?_
    rotate_left
    · intro w hSw; (try dsimp only at hSw); go_simp; (try with_reducible rfl)
    try simp only [Act.put, List.setIfInBounds_toArray, List.set_cons_zero, List.set_cons_succ]
    refine wpAnyH_take (i := 11) (oi := { dst := some 56, op := _, type := _, pos := _, after := _, guard := _ }) (v := ?_) rfl (by kernel_rfl) (by kernel_rfl) (by kernel_rfl) (fun _ _ _ h => h) (Or.inl ⟨by rfl, ?_⟩) (by assumption) ?_
    rotate_left
    · intro w hSw; (try dsimp only at hSw); go_simp; (try with_reducible rfl)
    try simp only [Act.put, List.setIfInBounds_toArray, List.set_cons_zero, List.set_cons_succ]
    refine wpAnyH_take (i := 12) (oi := { dst := some 57, op := _, type := _, pos := _, after := _, guard := _ }) (v := ?_) rfl (by kernel_rfl) (by kernel_rfl) (by kernel_rfl) (fun _ _ _ h => h) (Or.inl ⟨by rfl, ?_⟩) (by assumption) ?_
    rotate_left
    · intro w hSw; (try dsimp only at hSw); go_simp; (try with_reducible rfl)
    try simp only [Act.put, List.setIfInBounds_toArray, List.set_cons_zero, List.set_cons_succ]
    refine wpAnyH_take (i := 13) (oi := { dst := some 58, op := _, type := _, pos := _, after := _, guard := _ }) (v := ?_) rfl (by kernel_rfl) (by kernel_rfl) (by kernel_rfl) (fun _ _ _ h => h) (Or.inl ⟨by rfl, ?_⟩) (by assumption) ?_
    rotate_left
    · intro w hSw; (try dsimp only at hSw); go_simp; (try with_reducible rfl)
    try simp only [Act.put, List.setIfInBounds_toArray, List.set_cons_zero, List.set_cons_succ]
    refine wpAnyH_take (i := 14) (oi := { dst := some 59, op := _, type := _, pos := _, after := _, guard := _ }) (v := ?_) rfl (by kernel_rfl) (by kernel_rfl) (by kernel_rfl) (fun _ _ _ h => h) (Or.inl ⟨by rfl, ?_⟩) (by assumption) ?_
    rotate_left
    · intro w hSw; (try dsimp only at hSw); go_simp; (try with_reducible rfl)
    try simp only [Act.put, List.setIfInBounds_toArray, List.set_cons_zero, List.set_cons_succ]
    refine wpAnyH_take (i := 15) (oi := { dst := some 60, op := _, type := _, pos := _, after := _, guard := _ }) (v := ?_) rfl (by kernel_rfl) (by kernel_rfl) (by kernel_rfl) (fun _ _ _ h => h) (Or.inl ⟨by rfl, ?_⟩) (by assumption) ?_
    rotate_left
    · intro w hSw; (try dsimp only at hSw); go_simp; (try with_reducible rfl)
    try simp only [Act.put, List.setIfInBounds_toArray, List.set_cons_zero, List.set_cons_succ]
    refine wpAnyH_take (i := 16) (oi := { dst := some 61, op := _, type := _, pos := _, after := _, guard := _ }) (v := ?_) rfl (by kernel_rfl) (by kernel_rfl) (by kernel_rfl) (fun _ _ _ h => h) (Or.inl ⟨by rfl, ?_⟩) (by assumption) ?_
    rotate_left
    · intro w hSw; (try dsimp only at hSw); go_simp; (try with_reducible rfl)
    try simp only [Act.put, List.setIfInBounds_toArray, List.set_cons_zero, List.set_cons_succ]
    refine wpAnyH_take (i := 17) (oi := { dst := some 62, op := _, type := _, pos := _, after := _, guard := _ }) (v := ?_) rfl (by kernel_rfl) (by kernel_rfl) (by kernel_rfl) (fun _ _ _ h => h) (Or.inl ⟨by rfl, ?_⟩) (by assumption) ?_
    rotate_left
    · intro w hSw; (try dsimp only at hSw); go_simp; (try with_reducible rfl)
    try simp only [Act.put, List.setIfInBounds_toArray, List.set_cons_zero, List.set_cons_succ]
    refine wpAnyH_take (i := 18) (oi := { dst := some 63, op := _, type := _, pos := _, after := _, guard := _ }) (v := ?_) rfl (by kernel_rfl) (by kernel_rfl) (by kernel_rfl) (fun _ _ _ h => h) (Or.inl ⟨by rfl, ?_⟩) (by assumption) ?_
    rotate_left
    · intro w hSw; (try dsimp only at hSw); go_simp; (try with_reducible rfl)
    try simp only [Act.put, List.setIfInBounds_toArray, List.set_cons_zero, List.set_cons_succ]
    refine wpAnyH_take (i := 19) (oi := { dst := some 64, op := _, type := _, pos := _, after := _, guard := _ }) (v := ?_) rfl (by kernel_rfl) (by kernel_rfl) (by kernel_rfl) (fun _ _ _ h => h) (Or.inl ⟨by rfl, ?_⟩) (by assumption) ?_
    rotate_left
    · intro w hSw; (try dsimp only at hSw); go_simp; (try with_reducible rfl)
    try simp only [Act.put, List.setIfInBounds_toArray, List.set_cons_zero, List.set_cons_succ]
    refine wpAnyH_take (i := 20) (oi := { dst := some 65, op := _, type := _, pos := _, after := _, guard := _ }) (v := ?_) rfl (by kernel_rfl) (by kernel_rfl) (by kernel_rfl) (fun _ _ _ h => h) (Or.inl ⟨by rfl, ?_⟩) (by assumption) ?_
    rotate_left
    · intro w hSw; (try dsimp only at hSw); go_simp; (try with_reducible rfl)
    try simp only [Act.put, List.setIfInBounds_toArray, List.set_cons_zero, List.set_cons_succ]
    refine wpAnyH_take (i := 21) (oi := { dst := some 66, op := _, type := _, pos := _, after := _, guard := _ }) (v := ?_) rfl (by kernel_rfl) (by kernel_rfl) (by kernel_rfl) (fun _ _ _ h => h) (Or.inl ⟨by rfl, ?_⟩) (by assumption) ?_
    rotate_left
    · intro w hSw; (try dsimp only at hSw); go_simp; (try with_reducible rfl)
    try simp only [Act.put, List.setIfInBounds_toArray, List.set_cons_zero, List.set_cons_succ]
    refine wpAnyH_take (i := 22) (oi := { dst := some 67, op := _, type := _, pos := _, after := _, guard := _ }) (v := ?_) rfl (by kernel_rfl) (by kernel_rfl) (by kernel_rfl) (fun _ _ _ h => h) (Or.inl ⟨by rfl, ?_⟩) (by assumption) ?_
    rotate_left
    · intro w hSw; (try dsimp only at hSw); go_simp; (try with_reducible rfl)
    try simp only [Act.put, List.setIfInBounds_toArray, List.set_cons_zero, List.set_cons_succ]
    refine wpAnyH_take (i := 23) (oi := { dst := some 68, op := _, type := _, pos := _, after := _, guard := _ }) (v := ?_) rfl (by kernel_rfl) (by kernel_rfl) (by kernel_rfl) (fun _ _ _ h => h) (Or.inl ⟨by rfl, ?_⟩) (by assumption) ?_
    rotate_left
    · intro w hSw; (try dsimp only at hSw); go_simp; (try with_reducible rfl)
    try simp only [Act.put, List.setIfInBounds_toArray, List.set_cons_zero, List.set_cons_succ]
    refine wpAnyH_take (i := 24) (oi := { dst := some 69, op := _, type := _, pos := _, after := _, guard := _ }) (v := ?_) rfl (by kernel_rfl) (by kernel_rfl) (by kernel_rfl) (fun _ _ _ h => h) (Or.inl ⟨by rfl, ?_⟩) (by assumption) ?_
    rotate_left
    · intro w hSw; (try dsimp only at hSw); go_simp; (try with_reducible rfl)
    try simp only [Act.put, List.setIfInBounds_toArray, List.set_cons_zero, List.set_cons_succ]
    refine wpAnyH_done (by kernel_rfl) ?_ _
    have HH := Lib.hid hHeld
    clear hHeld HSS hSn
    have h45 := HH.out.2.2.2.2.2.2.2.2
    have HB5 := Lib.hid (andThen HB4.out h45)
    have HCl := Lib.hid (HC24.out.below h45)
    have HCa := Lib.hid (HC34.out.below h45)
    have HCb := Lib.hid (HC4.out.below h45)
    clear h45 HH HB1 HB2 HB3 HB4 HC2 HC3 HC4 HC23 HC24 HC34 H0
    go_upto_region 9 with (first
      | (go_at_call 63; ((with_reducible refine (HKa.out _).mono ?_); rintro x w7 ⟨a7, c7, rfl, hC7, hb7⟩; have HC7 := Lib.hid hC7; have HB7 := Lib.hid (below_past hb7); have HO7 := Lib.hid (ownsRow_below (own_empty w5 3 1) hb7); clear hb7 hC7))
      | (at_builtin; refine wpList_wants (by rfl) (fun KK hKK => wp_appI w7 (.tmp 70) (.tmp 72) rfl w5.heap.size _ [] rfl HO7.out a7 ka.length c7 ka rfl rfl HC7.out (by simp; omega) HB7.out.size ?_); intro v8 w8 ho8 hb8; have HO8 := Lib.hid ho8; have HB8 := Lib.hid (HB7.out.trans hb8); clear ho8 hb8; refine hKK _ _ ?_; clear hKK KK)
      | (go_at_call 63; ((with_reducible refine (HKb.out _).mono ?_); rintro x w9 ⟨a9, c9, rfl, hC9, hb9⟩; have HC9 := Lib.hid hC9; have HB9 := Lib.hid (HB8.out.trans (hb9.mono HB8.out.size)); have HO9 := Lib.hid (ownsRow_below HO8.out hb9); clear hb9 hC9))
      | (at_builtin; refine wpList_wants (by rfl) (fun KK hKK => wp_appI w9 (.tmp 73) (.tmp 75) rfl w5.heap.size _ ([] ++ ka) rfl HO9.out a9 kb.length c9 kb rfl rfl HC9.out (by simp; omega) HB9.out.size ?_); intro v10 w10 ho10 hb10; rw [List.nil_append, HKD.out] at ho10; have hcc := ownIs_cells ho10; obtain ⟨a10, c10, rfl, hC10⟩ := hcc; have HC10 := Lib.hid hC10; have HB10 := Lib.hid (HB9.out.trans hb10); clear ho10 hb10 hC10; refine hKK _ _ ?_; clear hKK KK))
    clear HKa HKb HC7 HC9 HO7 HO8 HO9 HB7 HB8 HB9
    have HBZ := Lib.hid (andThen HB5.out HB10.out)
    have HCl := Lib.hid (HCl.out.below HB10.out)
    have HCa := Lib.hid (HCa.out.below HB10.out)
    have HCb := Lib.hid (HCb.out.below HB10.out)
    go_wp2_with (first
      | (go_at_call 56; refine (HW.out _).mono ?_; rintro x w11 ⟨rfl, hb11⟩; have HC11 := Lib.hid (HC10.out.below hb11); have HCl := Lib.hid (HCl.out.below hb11); have HCa := Lib.hid (HCa.out.below hb11); have HCb := Lib.hid (HCb.out.below hb11); have HBZ := Lib.hid (andThen HBZ.out hb11); clear hb11)
      | (at_builtin; refine wpList_wants (by rfl) (fun KK hKK => wp_appE (w11.alloc (.cells #[] 45)) (.tmp 79) (.tmp 80) rfl w11.heap.size _ [] rfl (own_empty w11 45 3) a3 la.length c3 la rfl rfl (HCa.out.below (below_past_alloc (Below.refl _ _))) (by simp; omega) (by simp) ?_); intro v12 w12 ho12 hb12; have HO12 := Lib.hid ho12; have HB12 := Lib.hid ((below_past_alloc (Below.refl w11.heap.size w11)).trans hb12); clear ho12 hb12; refine hKK _ _ ?_; clear hKK KK)
      | (at_builtin; refine wpList_wants (by rfl) (fun KK hKK => wp_appE w12 (.tmp 81) (.tmp 82) rfl w11.heap.size _ ([] ++ la) rfl HO12.out (some ⟨g, off, none⟩) lb.length c4 lb rfl rfl (HCb.out.below HB12.out) (by simp; omega) HB12.out.size ?_); intro v13 w13 ho13 hb13; rw [List.nil_append, HTD.out] at ho13; have hcc := ownEs_cells ho13; obtain ⟨a13, c13, rfl, hC13⟩ := hcc; have HC13 := Lib.hid hC13; have HB13 := Lib.hid (HB12.out.trans hb13); clear ho13 hb13 hC13; refine hKK _ _ ?_; clear hKK KK)
      | (go_at_call 59; refine (same_any a13 a2 c13 c2 l (by omega) _ HC13.out (HCl.out.below HB13.out)).mono ?_; rintro x w14 ⟨rfl, hb14⟩; have HB14 := Lib.hid (andThen HB13.out hb14); have HBZ := Lib.hid (andThen HBZ.out HB14.out); clear hb14)
      | (go_at_call 63; refine (HKp.out _).mono ?_; rintro x w15 ⟨a15, c15, rfl, hC15, hb15⟩; have HC15 := Lib.hid hC15; have HB15 := Lib.hid (andThen HB14.out hb15); have HBZ := Lib.hid (andThen HBZ.out hb15); clear hb15 hC15)
      | (go_at_call 62; refine (isame_any a10 a15 c10 c15 ks (by omega) _ (HC11.out.below HB15.out) HC15.out).mono ?_; rintro x w16 ⟨rfl, hb16⟩; have HBZ := Lib.hid (andThen HBZ.out hb16); clear hb16)
      | (go_at_call 19; ((with_reducible refine (Hka.out _).mono ?_); rintro e wz ⟨rfl, hbz⟩; have HBZ := Lib.hid (andThen HBZ.out hbz); clear hbz))
      | (go_at_call 19; ((with_reducible refine (Hkb.out _).mono ?_); rintro e wz ⟨rfl, hbz⟩; have HBZ := Lib.hid (andThen HBZ.out hbz); clear hbz))
      | (go_at_call 19; ((with_reducible refine (Hkp.out _).mono ?_); rintro e wz ⟨rfl, hbz⟩; have HBZ := Lib.hid (andThen HBZ.out hbz); clear hbz))
      | (go_at_call 23; ((with_reducible refine (Hla.out _).mono ?_); rintro e wz ⟨rfl, hbz⟩; have HBZ := Lib.hid (andThen HBZ.out hbz); clear hbz))
      | (go_at_call 23; ((with_reducible refine (Hlb.out _).mono ?_); rintro e wz ⟨rfl, hbz⟩; have HBZ := Lib.hid (andThen HBZ.out hbz); clear hbz))
      | (go_at_call 23; ((with_reducible refine (Hlp.out _).mono ?_); rintro e wz ⟨rfl, hbz⟩; have HBZ := Lib.hid (andThen HBZ.out hbz); clear hbz))
      | (go_at_call 21; ((with_reducible refine (Hna.out _).mono ?_); rintro e wz ⟨rfl, hbz⟩; have HBZ := Lib.hid (andThen HBZ.out hbz); clear hbz))
      | (go_at_call 21; ((with_reducible refine (Hnp.out _).mono ?_); rintro e wz ⟨rfl, hbz⟩; have HBZ := Lib.hid (andThen HBZ.out hbz); clear hbz)))
    go_ret
    exact ⟨rfl, HBZ.out⟩
end Go.Proofs.Ytgbihdlahghonaa
