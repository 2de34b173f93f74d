/- Appending texts to a slice of the call's own; the records of a page with a slot turned, both sides. -/
import Derived.Test.YtgbihdlahghonaaPageR
import Derived.Maps.AppendAt
import Derived.Deep.AppendLies
import Derived.OwnWalk
import Derived.Deep.MidRow
namespace Go.Proofs.Ytgbihdlahghonaa
open Go.RowKit

/-- The slice v, which the call has made since block B, reads as the texts rs. -/
abbrev OwnT (B : Nat) (w : World) (v : Value) (rs : List ByteArray) : Prop := w.ownsRow B 9 1 v rs.length (rs.map Value.string)
theorem OwnT.nil (B : Nat) (w : World) : OwnT B w (.slice none 0 0) [] := ⟨rfl, .inl ⟨rfl, rfl⟩⟩
theorem OwnT.below {B : Nat} {w w' : World} {v : Value} {rs : List ByteArray} (h : OwnT B w v rs) (hb : Below w.heap.size w w') : OwnT B w' v rs := ownsRow_below h hb
theorem OwnT.form {B : Nat} {w : World} {v : Value} {rs : List ByteArray} (h : OwnT B w v rs) : ∃ A c, v = .slice A rs.length c ∧ OwnCells B w A c rs ∧ Cells w A c rs := by
  obtain ⟨A, c, rfl⟩ : ∃ A c, v = .slice A rs.length c := by
    rcases h.2 with ⟨hv, hz⟩ | ⟨g, cap, cur, hv, _⟩
    · exact ⟨none, 0, by rw [hv, hz]⟩
    · exact ⟨_, _, hv⟩
  have h1 := own_cells h rfl
  exact ⟨A, c, rfl, h1, h1.cells⟩
theorem OwnT.block {B : Nat} {w : World} {v : Value} {rs : List ByteArray} (h : OwnT B w v rs) : ∀ k, v.ownBlock = some k → B ≤ k := fun k hk => (h.lt k hk).1

set_option maxRecDepth 100000 in
theorem wpList_app {ops : Array Oper} {rest : List Oper} {o : Oper} {a : Act} {Q : Exit → Act → World → Prop} (w : World) (hgd : o.guard = none) (s x : Operand)
    (ho : o.op = .call { callee := .builtin .append, args := #[s, x], argTypes := #[40, 40] })
    (B : Nat) (v : Value) (xs : List ByteArray) (hs : a.eval s = v) (hown : OwnT B w v xs) (A : Option Addr) (c : Nat) (ys : List ByteArray) (hx : a.eval x = .slice A ys.length c) (hy : Cells w A c ys)
    (hlen : xs.length + ys.length ≤ 1048576) (hbase : B ≤ w.heap.size)
    (h : ∀ v' w', OwnT B w' v' (xs ++ ys) → w.grownBy w' v.ownBlock → Below B w w' → wpList Try.prog ops Q rest (a.put o.dst v') w') : wpList Try.prog ops Q (o :: rest) a w := by
  obtain ⟨i0, hi, hz0, hz1, hz2⟩ := info_parts info_string
  have hB : ∀ w' : World, w.grownBy w' v.ownBlock → Below B w w' := fun w' hg => (Below.refl _ _).grown hg hbase hown.block
  rcases A with _ | ad
  · have hn : ys = [] := by
      rcases Nat.eq_zero_or_pos ys.length with h0 | h0
      · exact List.eq_nil_of_length_eq_zero h0
      · obtain ⟨b, off, e, _⟩ := hy h0
        cases e
    subst hn
    refine wpList_plain hgd fun K hK => ?_
    have hrun : (Builtin.append_ #[40, 40] o.type #[v, .slice none 0 c]).run Try.prog w = .ok v w := by
      rcases hown.2 with ⟨rfl, hz⟩ | ⟨g, cap, cur, rfl, _, _, hnc, _⟩
      · simp [Builtin.append_, run_underlying Try.underlying40, sizeOf, typeInfo, hi, Builtin.lenOf, Builtin.firstCells]
      · simp [Builtin.append_, run_underlying Try.underlying40, sizeOf, typeInfo, hi, Builtin.lenOf, Builtin.firstCells, hnc, storeCells]
    unfold Oper.wp execOp
    have hx' : a.eval x = .slice none 0 c := hx
    simp only [ho, resolve, invoke, builtin, Sem.run_bind, Sem.run_pure, Result.andThen_ok, List.map_toArray, List.map_cons, List.map_nil, hs, hx', hrun]
    exact hK _ _ (h v w (by simpa using hown) (World.grownBy.refl w _) (Below.refl _ _))
  · refine wpList_append_own w hgd s x _ ho B 9 i0 (.string ⟨#[]⟩) 1 16 Try.underlying40 hi hz0 hz1 hz2 rfl (by omega) v xs.length (xs.map Value.string) hs hown ad ys.length c (ys.map Value.string) hx (by simp) ?_ ?_ (by simp only [maxLen]; omega) (by omega) hbase ?_
    · intro j u hu
      rw [List.getElem?_map] at hu
      obtain ⟨r, hr, rfl⟩ := Option.map_eq_some_iff.1 hu
      obtain ⟨hj, rfl⟩ := List.getElem?_eq_some_iff.1 hr
      obtain ⟨b, off, e, _, _, hcell⟩ := hy (by omega)
      injection e with e
      subst e
      rw [show (⟨b, off, none⟩ : Addr).add j = ⟨b, off + j, none⟩ from Addr.add_mid b off j]
      exact hcell j hj
    · intro u hu
      obtain ⟨r, _, rfl⟩ := List.mem_map.1 hu
      rfl
    · intro v' w' h1 h2 _
      exact h v' w' (by unfold OwnT; rw [List.length_append, List.map_append]; exact h1) h2 (hB w' h2)
/-- The same, the source's length spelt otherwise. -/
theorem wpList_appN {ops : Array Oper} {rest : List Oper} {o : Oper} {a : Act} {Q : Exit → Act → World → Prop} (w : World) (hgd : o.guard = none) (s x : Operand)
    (ho : o.op = .call { callee := .builtin .append, args := #[s, x], argTypes := #[40, 40] })
    (B : Nat) (v : Value) (xs : List ByteArray) (hs : a.eval s = v) (hown : OwnT B w v xs) (A : Option Addr) (m c : Nat) (ys : List ByteArray) (hm : ys.length = m) (hx : a.eval x = .slice A m c) (hy : Cells w A c ys)
    (hlen : xs.length + m ≤ 1048576) (hbase : B ≤ w.heap.size)
    (h : ∀ v' w', OwnT B w' v' (xs ++ ys) → w.grownBy w' v.ownBlock → Below B w w' → wpList Try.prog ops Q rest (a.put o.dst v') w') : wpList Try.prog ops Q (o :: rest) a w := by
  subst hm
  exact wpList_app w hgd s x ho B v xs hs hown A c ys hx hy hlen hbase h
theorem Cells.take_ {w : World} {A : Option Addr} {c : Nat} {rs : List ByteArray} (h : Cells w A c rs) (m : Nat) : Cells w A c (rs.take m) := fun h0 => by
  rw [List.length_take] at h0
  obtain ⟨b, off, hA, hc, hlt, hcell⟩ := h (by omega)
  refine ⟨b, off, hA, by rw [List.length_take]; omega, hlt, fun j hj => ?_⟩
  rw [List.length_take] at hj
  rw [List.getElem_take]
  exact hcell j (by omega)
theorem Cells.drop_ {w : World} {b off c : Nat} {rs : List ByteArray} (h : Cells w (some ⟨b, off, none⟩) c rs) (m : Nat) : Cells w (some ⟨b, off + m, none⟩) (c - m) (rs.drop m) := fun h0 => by
  rw [List.length_drop] at h0
  obtain ⟨b', off', hA, hc, hlt, hcell⟩ := h (by omega)
  injection hA with hA
  injection hA with hA1 hA2
  subst hA1
  subst hA2
  refine ⟨b, off + m, rfl, by rw [List.length_drop]; omega, hlt, fun j hj => ?_⟩
  rw [List.length_drop] at hj
  rw [List.getElem_drop, Nat.add_assoc]
  exact hcell (m + j) (by omega)
theorem Cells.nil_ (w : World) (A : Option Addr) (c : Nat) {rs : List ByteArray} (h : rs.length = 0) : Cells w A c rs := fun h0 => by omega
end Go.Proofs.Ytgbihdlahghonaa
