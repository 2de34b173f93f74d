/- The plain law of the log: what is opened behind a power cut. -/
import Derived.Test.YtojaagnfjenhoaaGs17
namespace Lg
open Rc
theorem many (l : List Rec) : l.length * 8 ≤ (bytes l).length := by
  induction l with
  | nil => simp
  | cons r l ih => rw [bytes_cons, List.length_append, putR_len, List.length_cons]; omega
/-- The log of the disk is opened as the row l. -/
structure Opens (d : Dk) (l : List Rec) : Prop where
  whole : Whole d.sectors
  len : d.sectors.length = 26
  opens : (openL (logS 1 24 d) (24 * 128 + 1) 0).1 = l
theorem opens_lies {d : Dk} {l : List Rec} (hw : Whole d.sectors) (hl : d.sectors.length = 26) (h : Lies (logS 1 24 d) l) : Opens d l := by
  refine ⟨hw, hl, ?_⟩
  have h1 := logS_len (F := 1) (N := 24) hw (by omega)
  have h2 := h.room
  have h3 := many l
  rw [h.opens (f := 24 * 128 + 1) (by omega)]
theorem opens_cut {d : Dk} {s n : List UInt8} {q : Nat} {r1 r2 : List Rec} (hw : Whole d.sectors) (hl : d.sectors.length = 26) (hs : Lies s r1) (hn : Lies n (r1 ++ r2)) (h2 : r2 ≠ []) (hsl : s.length = 24 * 128) (hnl : n.length = 24 * 128) (hq : logS 1 24 d = mix s n q) : Opens d r1 ∨ Opens d (r1 ++ r2) := by
  have h3 := many (r1 ++ r2)
  have h4 := hn.room
  rcases mix_opens (hsl.trans hnl.symm) hs hn h2 q (f := 24 * 128 + 1) (by omega) with h | h
  · exact .inl ⟨hw, hl, by rw [hq, h]⟩
  · exact .inr (opens_lies hw hl (by rw [hq, h]; exact hn))
theorem PL.armed {d : Dk} {g : Lo} {r1 r2 : List Rec} (h : PL d g r1 r2) {n : Int} (h0 : 0 ≤ n) (h1 : n ≤ 9223372036854775807) : PL (armD d n) g r1 r2 :=
  ⟨h.inv.disk rfl, h.up, by unfold armD; simp only; rw [if_neg (by omega)]; omega, h.len⟩
/-- Behind Start. -/
theorem Opens.start {d : Dk} {l : List Rec} (h : Opens d l) : ∃ o, openD (startD d) 1 24 = (o, l, 0) ∧ PL (startD d) o l [] ∧ o.safe = o.end_ := by
  have hw : Whole (startD d).sectors := h.whole
  have hl : (startD d).sectors.length = 26 := h.len
  obtain ⟨h1, h2⟩ := LInv.opened (F := 1) (N := 24) (d := startD d) rfl hw (by omega)
  have h3 : (openL (logS 1 24 (startD d)) (24 * 128 + 1) 0).1 = l := h.opens
  rw [h3] at h1 h2
  refine ⟨(openD (startD d) 1 24).1, ?_, ⟨h2, rfl, ⟨Int.le_refl _, by show (-1 : Int) ≤ _; omega⟩, hl⟩, ?_⟩
  · have e : openD (startD d) 1 24 = ((openD (startD d) 1 24).1, (openD (startD d) 1 24).2) := rfl
    have h4 : (openD (startD d) 1 24).2 = (l, 0) := h1
    rw [h4] at e
    exact e
  · have h5 := h2.safe
    have h6 := h2.end_
    rw [List.append_nil] at h6
    exact h5.trans h6.symm
/-- A log that was forced is opened as it is. -/
theorem PL.again {d : Dk} {g : Lo} {l : List Rec} (h : PL d g l []) (hl : Lies (logS 1 24 d) l) : openD d 1 24 = (g, l, 0) := by
  have hw := h.inv.whole
  have hlen := h.len
  obtain ⟨h1, h2⟩ := LInv.opened (F := 1) (N := 24) (d := d) h.up hw (by omega)
  have h3 := (opens_lies hw hlen hl).opens
  rw [h3] at h1 h2
  have h5 := h2.same h.inv
  have e : openD d 1 24 = ((openD d 1 24).1, (openD d 1 24).2) := rfl
  have h4 : (openD d 1 24).2 = (l, 0) := h1
  have h6 : (openD d 1 24).1 = g := h5
  rw [h4, h6] at e
  exact e
theorem lies_new : Lies (logS 1 24 (newD 26)) [] := by
  refine ⟨trivial, rfl, Nat.zero_le _, fun i _ _ hi => ?_⟩
  have h1 : ∀ L : List ByteArray, (∀ b ∈ L, b = zero128) → ∀ i, i < (flat L).length → (flat L)[i]? = some 0 := by
    intro L
    induction L with
    | nil => intro _ i hi; simp [flat] at hi
    | cons b L ih =>
      intro hb i hi
      have h0 : b.data.toList = List.replicate 128 0 := by rw [hb b (List.mem_cons_self ..)]; unfold zero128; rfl
      rw [flat_cons, h0] at hi ⊢
      rw [List.length_append, List.length_replicate] at hi
      by_cases h : i < 128
      · rw [List.getElem?_append_left (by rw [List.length_replicate]; exact h), List.getElem?_replicate, if_pos h]
      · rw [List.getElem?_append_right (by rw [List.length_replicate]; omega), List.length_replicate]
        exact ih (fun x hx => hb x (List.mem_cons_of_mem _ hx)) _ (by omega)
  refine h1 _ (fun b hb => ?_) i hi
  have h2 := List.mem_of_mem_drop (List.mem_of_mem_take hb)
  exact (List.mem_replicate.1 h2).2
end Lg
namespace Go.Proofs.Ytojaagnfjenhoaa
open Go.RowKit
/-- Some elements are appended to a row of the call's own. -/
theorem wp_appL {P : Program} {o : Oper} {a : Act} {K : Act → World → Prop} {Q : Exit → Act → World → Prop} (w : World) (s x : Operand) (t e : TypeId) {z : Value} {size bytes : Nat}
    (ht : P.underlying t = some (.slice e)) (hi : (P.info? e).map (fun i => (i.zero, i.size, i.bytes)) = some (some z, size, bytes)) (hzc : z.cells.size = size) (hpos : 0 < size) (hby : bytes ≤ 1024)
    (ho : o.op = .call { callee := .builtin .append, args := #[s, x], argTypes := #[t, t] })
    (B : Nat) (v : Value) (n : Nat) (xs : List Value) (hs : a.eval s = v) (hown : w.ownsRow B e size v n xs) (A : Option Addr) (m c : Nat) (ys : List Value) (hx : a.eval x = .slice A m c) (hy : Reads w A c m ys) (hyl : ys.length = m * size) (h1 : ∀ u ∈ ys, u.oneCell' = true)
    (hlen : n + m ≤ 1048576) (hbase : B ≤ w.heap.size)
    (h : ∀ v' w', w'.ownsRow B e size v' (n + m) (xs ++ ys) → w.grownBy w' v.ownBlock → Below B w w' → K (a.put o.dst v') w') : o.wp P a w K Q := by
  obtain ⟨i0, hi, hz0, hz1, hz2⟩ := info_parts hi
  exact wp_appR w s x t e i0 _ size bytes ht hi hz0 hz1 hz2 hzc hpos ho B v n xs hs hown A m c ys hx hy hyl h1 hlen hby hbase h
end Go.Proofs.Ytojaagnfjenhoaa
