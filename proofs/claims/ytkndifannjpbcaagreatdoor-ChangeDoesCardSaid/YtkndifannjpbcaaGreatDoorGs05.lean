/- The walks over package page and its reference: the reference's SetLsn, SetLink. -/
import Derived.Test.YtkndifannjpbcaaGreatDoorGs04
import Derived.IntWalk
import Derived.Maps.AppendAt
import Derived.Deep.AppendLies
import Derived.OwnWalk
import Derived.Deep.MidRow
import Derived.Test.YtkndifannjpbcaaGreatDoorGs01
namespace Go.Proofs.YtkndifannjpbcaaGreatDoor
open Go.RowKit

set_option maxRecDepth 100000 in
set_option maxHeartbeats 1000000 in
theorem rsetlsn_any (p : ByteArray) (n : Int) (hm : p.size ≤ 140737488355328) (w : World) :
    Calls Tryz.prog 38 #[.string p, .int .i64 n] w fun e w' => e = .returned (.string (lsnB p n)) ∧ Below w.heap.size w w' := by
  have HT := Lib.hid (fun W => rparts_leaf p hm W)
  have hfine := Pg.leafOf_fine p.data.toList
  cases hb : isPg p with
  | false =>
    rw [show lsnB p n = ⟨#[]⟩ from if_pos (.inl hb)]
    rw [hb] at HT
    generalize leafP p = x at HT
    clear hfine
    go_enter Tryz.func38, Tryz.ntmps38
    go_wp2_with (go_at_call 41; refine (HT.out _).mono ?_; rintro e w1 ⟨y, A, c, rfl, hcl, hb1⟩)
    go_ret
    exact ⟨rfl, below_past_alloc hb1⟩
  | true =>
    rw [hb] at HT
    by_cases h1 : n < 0
    · rw [show lsnB p n = ⟨#[]⟩ from if_pos (.inr (.inl h1))]
      generalize leafP p = x at HT
      clear hfine
      go_enter Tryz.func38, Tryz.ntmps38
      go_wp2_with (go_at_call 41; refine (HT.out _).mono ?_; rintro e w1 ⟨y, A, c, rfl, hcl, hb1⟩)
      go_ret
      exact ⟨rfl, below_past_alloc hb1⟩
    · by_cases h2 : 281474976710656 ≤ n
      · rw [show lsnB p n = ⟨#[]⟩ from if_pos (.inr (.inr h2))]
        generalize leafP p = x at HT
        clear hfine
        go_enter Tryz.func38, Tryz.ntmps38
        go_wp2_with (go_at_call 41; refine (HT.out _).mono ?_; rintro e w1 ⟨y, A, c, rfl, hcl, hb1⟩)
        go_ret
        exact ⟨rfl, below_past_alloc hb1⟩
      · have hnn : ((n.toNat : Nat) : Int) = n := by omega
        have hk : n.toNat < 281474976710656 := by omega
        rw [show lsnB p n = ⟨(Pg.layL ⟨n.toNat, (leafP p).kind, (leafP p).link, (leafP p).recs⟩).toArray⟩ by unfold lsnB; rw [if_neg (by rw [hb]; simp; omega)]]
        have h3 : (0 : Int) ≤ n := by omega
        have h4 : n < 281474976710656 := by omega
        clear h1 h2
        change Pg.Fine (leafP p) at hfine
        generalize leafP p = x at HT hfine ⊢
        have HM := Lib.hid (fun A c W hW => rlay_any ⟨n.toNat, x.kind, x.link, x.recs⟩ A c ⟨hk, hfine.small.2.1, hfine.small.2.2⟩ (by have := hfine.sizeN; show Pg.sizeN x.recs ≤ _; omega) W hW)
        clear hfine hk hb
        generalize (⟨(Pg.layL ⟨n.toNat, x.kind, x.link, x.recs⟩).toArray⟩ : ByteArray) = q at HM ⊢
        simp only [hnn] at HM
        clear hnn
        go_enter Tryz.func38, Tryz.ntmps38
        go_wp2_with (first | (go_at_call 41; refine (HT.out _).mono ?_; rintro e w1 ⟨y, A, c, rfl, hcl, hb1⟩; obtain ⟨hy, hco⟩ := hcl rfl; clear hcl; subst hy) | (go_at_call 63; refine (HM.out _ _ _ ((hco.cells).below ((Below.refl _ _).alloc (Nat.le_refl _) _))).mono ?_; rintro e w2 ⟨rfl, hb2⟩))
        go_ret
        exact ⟨rfl, andThen (below_past_alloc hb1) hb2⟩
set_option maxRecDepth 100000 in
set_option maxHeartbeats 1000000 in
theorem rsetlink_any (p : ByteArray) (n : Int) (hm : p.size ≤ 140737488355328) (w : World) :
    Calls Tryz.prog 35 #[.string p, .int .i64 n] w fun e w' => e = .returned (.string (linkB p n)) ∧ Below w.heap.size w w' := by
  have HT := Lib.hid (fun W => rparts_leaf p hm W)
  have hfine := Pg.leafOf_fine p.data.toList
  cases hb : isPg p with
  | false =>
    rw [show linkB p n = ⟨#[]⟩ from if_pos (.inl hb)]
    rw [hb] at HT
    generalize leafP p = x at HT
    clear hfine
    go_enter Tryz.func35, Tryz.ntmps35
    go_wp2_with (go_at_call 41; refine (HT.out _).mono ?_; rintro e w1 ⟨y, A, c, rfl, hcl, hb1⟩)
    go_ret
    exact ⟨rfl, below_past_alloc hb1⟩
  | true =>
    rw [hb] at HT
    by_cases h1 : n < 0
    · rw [show linkB p n = ⟨#[]⟩ from if_pos (.inr (.inl h1))]
      generalize leafP p = x at HT
      clear hfine
      go_enter Tryz.func35, Tryz.ntmps35
      go_wp2_with (go_at_call 41; refine (HT.out _).mono ?_; rintro e w1 ⟨y, A, c, rfl, hcl, hb1⟩)
      go_ret
      exact ⟨rfl, below_past_alloc hb1⟩
    · by_cases h2 : 16777216 ≤ n
      · rw [show linkB p n = ⟨#[]⟩ from if_pos (.inr (.inr h2))]
        generalize leafP p = x at HT
        clear hfine
        go_enter Tryz.func35, Tryz.ntmps35
        go_wp2_with (go_at_call 41; refine (HT.out _).mono ?_; rintro e w1 ⟨y, A, c, rfl, hcl, hb1⟩)
        go_ret
        exact ⟨rfl, below_past_alloc hb1⟩
      · have hnn : ((n.toNat : Nat) : Int) = n := by omega
        have hk : n.toNat < 16777216 := by omega
        rw [show linkB p n = ⟨(Pg.layL ⟨(leafP p).lsn, (leafP p).kind, n.toNat, (leafP p).recs⟩).toArray⟩ by unfold linkB; rw [if_neg (by rw [hb]; simp; omega)]]
        have h3 : (0 : Int) ≤ n := by omega
        have h4 : n < 16777216 := by omega
        clear h1 h2
        change Pg.Fine (leafP p) at hfine
        generalize leafP p = x at HT hfine ⊢
        have HM := Lib.hid (fun A c W hW => rlay_any ⟨x.lsn, x.kind, n.toNat, x.recs⟩ A c ⟨hfine.small.1, hfine.small.2.1, hk⟩ (by have := hfine.sizeN; show Pg.sizeN x.recs ≤ _; omega) W hW)
        clear hfine hk hb
        generalize (⟨(Pg.layL ⟨x.lsn, x.kind, n.toNat, x.recs⟩).toArray⟩ : ByteArray) = q at HM ⊢
        simp only [hnn] at HM
        clear hnn
        go_enter Tryz.func35, Tryz.ntmps35
        go_wp2_with (first | (go_at_call 41; refine (HT.out _).mono ?_; rintro e w1 ⟨y, A, c, rfl, hcl, hb1⟩; obtain ⟨hy, hco⟩ := hcl rfl; clear hcl; subst hy) | (go_at_call 63; refine (HM.out _ _ _ ((hco.cells).below ((Below.refl _ _).alloc (Nat.le_refl _) _))).mono ?_; rintro e w2 ⟨rfl, hb2⟩))
        go_ret
        exact ⟨rfl, andThen (below_past_alloc hb1) hb2⟩
end Go.Proofs.YtkndifannjpbcaaGreatDoor
/- The walks over package page and its reference: Seal, Sealed. -/
namespace Go.Proofs.YtkndifannjpbcaaGreatDoor
open Go.RowKit

/-- A text behind its sum. -/
def sealT (t : ByteArray) : ByteArray := Oct.putB (Oct.sumN t.data.toList : Nat) 4 ++ t
/-- A page with its sum; empty: it is none. -/
def sealB (p : ByteArray) : ByteArray := if isPg p then sealT (p.extract 4 512) else ⟨#[]⟩

theorem isPg_size {p : ByteArray} (h : isPg p = true) : p.size = 512 := by
  unfold isPg at h
  cases hr : Pg.right p.data.toList with
  | none => rw [hr] at h; cases h
  | some x =>
    have := (Pg.right_fine hr).2
    have h9 : p.data.toList.length = p.size := (by simp)
    omega

end Go.Proofs.YtkndifannjpbcaaGreatDoor
/- The walks over package page and its reference: the reference's Seal, and both Sealed. -/
namespace Go.Proofs.YtkndifannjpbcaaGreatDoor
open Go.RowKit

/-- Is it a page that has its sum? -/
def sealedP (p : ByteArray) : Bool := isPg p && decide (sealT (p.extract 4 512) = p)

theorem str_eq (a b : ByteArray) : (a.toList == b.toList) = decide (a = b) := by
  rw [ByteArray.toList_eq, ByteArray.toList_eq, Bool.beq_eq_decide_eq]
  by_cases h : a = b
  · simp [h]
  · have h1 : a.data.toList ≠ b.data.toList := fun e => h (ByteArray.ext (Array.toList_inj.1 e))
    simp [h, h1]

theorem rput_keeps (n size : Int) (h0 : 0 ≤ size) (h8 : size ≤ 8) (w0 u : World) (h : Below w0.heap.size w0 u) :
    Calls Tryz.prog 76 #[.int .i64 n, .int .i64 size] u fun e w' => e = .returned (.string (Oct.putB n size)) ∧ Below w0.heap.size w0 w' :=
  (rput_any n size h0 h8 u).mono fun _ _ ⟨h1, h2⟩ => ⟨h1, andThen h h2⟩
end Go.Proofs.YtkndifannjpbcaaGreatDoor
/- The walks over package page and its reference: Room. -/
namespace Go.Proofs.YtkndifannjpbcaaGreatDoor
open Go.RowKit

/-- The longest record that comes into the lowest free slot. -/
def roomI (rs : List ByteArray) : Int := max 0 (min (493 - 4 * (max (rs.length : Int) ((Pg.freeN rs : Int) + 1)) - (Pg.sumSizes rs : Int)) 400)
def roomP (p : ByteArray) : Int := if isPg p then roomI (leafP p).recs else 0

/-- A box that holds a page's parts, while nothing but new blocks is made. -/
theorem held_of (w1 : World) (x : Pg.Leaf) (A : Option Addr) (c : Nat) (T : TypeId) (hcl : Cells w1 A c x.recs) :
    Held w1.heap.size x A c (w1.alloc (.cells #[.int .i64 x.lsn, .int .i64 x.kind, .int .i64 x.link, .slice A x.recs.length c] T)) (w1.alloc (.cells #[.int .i64 x.lsn, .int .i64 x.kind, .int .i64 x.link, .slice A x.recs.length c] T)) := by
  have hh := heap_alloc_new w1 (.cells #[.int .i64 x.lsn, .int .i64 x.kind, .int .i64 x.link, .slice A x.recs.length c] T)
  refine ⟨?_, ?_, ?_, ?_, hcl.below ((Below.refl _ _).alloc (Nat.le_refl _) _), by simp, Below.refl _ _⟩
  · rw [cell_of_row _ _ _ _ _ _ hh]; rfl
  · rw [cell_of_row _ _ _ _ _ _ hh]; rfl
  · rw [cell_of_row _ _ _ _ _ _ hh]; rfl
  · rw [cell_of_row _ _ _ _ _ _ hh]; rfl
end Go.Proofs.YtkndifannjpbcaaGreatDoor
/- Appending texts to a slice of the call's own; the records of a page with a slot turned, both sides. -/
namespace Go.Proofs.YtkndifannjpbcaaGreatDoor
open Go.RowKit

/-- The slice v, which the call has made since block B, reads as the texts rs. -/
abbrev OwnT (B : Nat) (w : World) (v : Value) (rs : List ByteArray) : Prop := w.ownsRow B 9 1 v rs.length (rs.map Value.string)
theorem OwnT.nil (B : Nat) (w : World) : OwnT B w (.slice none 0 0) [] := ⟨rfl, .inl ⟨rfl, rfl⟩⟩
theorem OwnT.below {B : Nat} {w w' : World} {v : Value} {rs : List ByteArray} (h : OwnT B w v rs) (hb : Below w.heap.size w w') : OwnT B w' v rs := ownsRow_below h hb
theorem OwnT.form {B : Nat} {w : World} {v : Value} {rs : List ByteArray} (h : OwnT B w v rs) : ∃ A c, v = .slice A rs.length c ∧ OwnCells B w A c rs ∧ Cells w A c rs := by
  obtain ⟨A, c, rfl⟩ : ∃ A c, v = .slice A rs.length c := by
    rcases h.2 with ⟨hv, hz⟩ | ⟨g, cap, cur, hv, _⟩
    · exact ⟨none, 0, by rw [hv, hz]⟩
    · exact ⟨_, _, hv⟩
  have h1 := own_cells h rfl
  exact ⟨A, c, rfl, h1, h1.cells⟩
theorem OwnT.block {B : Nat} {w : World} {v : Value} {rs : List ByteArray} (h : OwnT B w v rs) : ∀ k, v.ownBlock = some k → B ≤ k := fun k hk => (h.lt k hk).1

set_option maxRecDepth 100000 in
theorem wpList_app {ops : Array Oper} {rest : List Oper} {o : Oper} {a : Act} {Q : Exit → Act → World → Prop} (w : World) (hgd : o.guard = none) (s x : Operand)
    (ho : o.op = .call { callee := .builtin .append, args := #[s, x], argTypes := #[36, 36] })
    (B : Nat) (v : Value) (xs : List ByteArray) (hs : a.eval s = v) (hown : OwnT B w v xs) (A : Option Addr) (c : Nat) (ys : List ByteArray) (hx : a.eval x = .slice A ys.length c) (hy : Cells w A c ys)
    (hlen : xs.length + ys.length ≤ 1048576) (hbase : B ≤ w.heap.size)
    (h : ∀ v' w', OwnT B w' v' (xs ++ ys) → w.grownBy w' v.ownBlock → Below B w w' → wpList Tryz.prog ops Q rest (a.put o.dst v') w') : wpList Tryz.prog ops Q (o :: rest) a w := by
  obtain ⟨i0, hi, hz0, hz1, hz2⟩ := info_parts info_string
  have hB : ∀ w' : World, w.grownBy w' v.ownBlock → Below B w w' := fun w' hg => (Below.refl _ _).grown hg hbase hown.block
  rcases A with _ | ad
  · have hn : ys = [] := by
      rcases Nat.eq_zero_or_pos ys.length with h0 | h0
      · exact List.eq_nil_of_length_eq_zero h0
      · obtain ⟨b, off, e, _⟩ := hy h0
        cases e
    subst hn
    refine wpList_plain hgd fun K hK => ?_
    have hrun : (Builtin.append_ #[36, 36] o.type #[v, .slice none 0 c]).run Tryz.prog w = .ok v w := by
      rcases hown.2 with ⟨rfl, hz⟩ | ⟨g, cap, cur, rfl, _, _, hnc, _⟩
      · simp [Builtin.append_, run_underlying Tryz.underlying36, sizeOf, typeInfo, hi, Builtin.lenOf, Builtin.firstCells]
      · simp [Builtin.append_, run_underlying Tryz.underlying36, sizeOf, typeInfo, hi, Builtin.lenOf, Builtin.firstCells, hnc, storeCells]
    unfold Oper.wp execOp
    have hx' : a.eval x = .slice none 0 c := hx
    simp only [ho, resolve, invoke, builtin, Sem.run_bind, Sem.run_pure, Result.andThen_ok, List.map_toArray, List.map_cons, List.map_nil, hs, hx', hrun]
    exact hK _ _ (h v w (by simpa using hown) (World.grownBy.refl w _) (Below.refl _ _))
  · refine wpList_append_own w hgd s x _ ho B 9 i0 (.string ⟨#[]⟩) 1 16 Tryz.underlying36 hi hz0 hz1 hz2 rfl (by omega) v xs.length (xs.map Value.string) hs hown ad ys.length c (ys.map Value.string) hx (by simp) ?_ ?_ (by simp only [maxLen]; omega) (by omega) hbase ?_
    · intro j u hu
      rw [List.getElem?_map] at hu
      obtain ⟨r, hr, rfl⟩ := Option.map_eq_some_iff.1 hu
      obtain ⟨hj, rfl⟩ := List.getElem?_eq_some_iff.1 hr
      obtain ⟨b, off, e, _, _, hcell⟩ := hy (by omega)
      injection e with e
      subst e
      rw [show (⟨b, off, none⟩ : Addr).add j = ⟨b, off + j, none⟩ from Addr.add_mid b off j]
      exact hcell j hj
    · intro u hu
      obtain ⟨r, _, rfl⟩ := List.mem_map.1 hu
      rfl
    · intro v' w' h1 h2 _
      exact h v' w' (by unfold OwnT; rw [List.length_append, List.map_append]; exact h1) h2 (hB w' h2)
/-- The same, the source's length spelt otherwise. -/
theorem wpList_appN {ops : Array Oper} {rest : List Oper} {o : Oper} {a : Act} {Q : Exit → Act → World → Prop} (w : World) (hgd : o.guard = none) (s x : Operand)
    (ho : o.op = .call { callee := .builtin .append, args := #[s, x], argTypes := #[36, 36] })
    (B : Nat) (v : Value) (xs : List ByteArray) (hs : a.eval s = v) (hown : OwnT B w v xs) (A : Option Addr) (m c : Nat) (ys : List ByteArray) (hm : ys.length = m) (hx : a.eval x = .slice A m c) (hy : Cells w A c ys)
    (hlen : xs.length + m ≤ 1048576) (hbase : B ≤ w.heap.size)
    (h : ∀ v' w', OwnT B w' v' (xs ++ ys) → w.grownBy w' v.ownBlock → Below B w w' → wpList Tryz.prog ops Q rest (a.put o.dst v') w') : wpList Tryz.prog ops Q (o :: rest) a w := by
  subst hm
  exact wpList_app w hgd s x ho B v xs hs hown A c ys hx hy hlen hbase h
theorem Cells.take_ {w : World} {A : Option Addr} {c : Nat} {rs : List ByteArray} (h : Cells w A c rs) (m : Nat) : Cells w A c (rs.take m) := fun h0 => by
  rw [List.length_take] at h0
  obtain ⟨b, off, hA, hc, hlt, hcell⟩ := h (by omega)
  refine ⟨b, off, hA, by rw [List.length_take]; omega, hlt, fun j hj => ?_⟩
  rw [List.length_take] at hj
  rw [List.getElem_take]
  exact hcell j (by omega)
theorem Cells.drop_ {w : World} {b off c : Nat} {rs : List ByteArray} (h : Cells w (some ⟨b, off, none⟩) c rs) (m : Nat) : Cells w (some ⟨b, off + m, none⟩) (c - m) (rs.drop m) := fun h0 => by
  rw [List.length_drop] at h0
  obtain ⟨b', off', hA, hc, hlt, hcell⟩ := h (by omega)
  injection hA with hA
  injection hA with hA1 hA2
  subst hA1
  subst hA2
  refine ⟨b, off + m, rfl, by rw [List.length_drop]; omega, hlt, fun j hj => ?_⟩
  rw [List.length_drop] at hj
  rw [List.getElem_drop, Nat.add_assoc]
  exact hcell (m + j) (by omega)
theorem Cells.nil_ (w : World) (A : Option Addr) (c : Nat) {rs : List ByteArray} (h : rs.length = 0) : Cells w A c rs := fun h0 => by omega
end Go.Proofs.YtkndifannjpbcaaGreatDoor
/- The records of a page with a slot turned: leaf.with. -/
namespace Pg
/-- The records with another one in a slot; the slots that lack ahead of it are free. -/
def putAt (rs : List ByteArray) (k : Nat) (r : ByteArray) : List ByteArray := (rs ++ List.replicate (k + 1 - rs.length) (⟨#[]⟩ : ByteArray)).set k r
/-- The records with enough free slots that one has the number k. -/
def upTo (rs : List ByteArray) (k : Nat) : List ByteArray := rs ++ List.replicate k (⟨#[]⟩ : ByteArray)
theorem upTo_length (rs : List ByteArray) (k : Nat) : (upTo rs k).length = rs.length + k := by simp [upTo]
theorem upTo_succ (rs : List ByteArray) (k : Nat) : upTo rs (k + 1) = upTo rs k ++ [⟨#[]⟩] := by
  unfold upTo
  rw [List.replicate_succ', List.append_assoc]
end Pg
namespace Go.Proofs.YtkndifannjpbcaaGreatDoor
open Go.RowKit

/-- A new block of one text. -/
theorem cells_one (w : World) (r : ByteArray) : Cells (w.alloc (.cells #[.string r] 9)) (some ⟨w.heap.size, 0, none⟩) 1 [r] := fun _ => by
  refine ⟨w.heap.size, 0, rfl, Nat.le_refl _, by simp, fun j hj => ?_⟩
  obtain rfl : j = 0 := by simpa using hj
  rw [cell_of_row _ _ _ _ _ _ (heap_alloc_new w (.cells #[.string r] 9))]; rfl
theorem own_some {B : Nat} {w : World} {v : Value} {rs : List ByteArray} (h : OwnT B w v rs) (h0 : 0 < rs.length) : ∃ g c, v = .slice (some ⟨g, 0, none⟩) rs.length c ∧ B ≤ g ∧ rs.length ≤ c ∧ g < w.heap.size ∧ (∀ j (hj : j < rs.length), w.cell? ⟨g, j, none⟩ = some (.string rs[j])) ∧ (∀ j, w.frozen? ⟨g, j, none⟩ = false) := by
  obtain ⟨A, c, rfl, ho, -⟩ := h.form
  obtain ⟨g, rfl, h1, h2, h3, h4⟩ := ho h0
  exact ⟨g, c, rfl, h1, h2, h3, h4, fun j => h.frozenAt j⟩
theorem own_stored {B : Nat} {w : World} {g c : Nat} {rs : List ByteArray} (h : OwnT B w (.slice (some ⟨g, 0, none⟩) rs.length c) rs) (k : Nat) (r : ByteArray) : OwnT B (w.setCell ⟨g, k, none⟩ (.string r)) (.slice (some ⟨g, 0, none⟩) (rs.set k r).length c) (rs.set k r) := by
  have h1 := (h.stored k (.string r)).1
  unfold OwnT
  rw [List.length_set, List.map_set]
  exact h1

def lenV (v : Value) : Nat := match v with | .slice _ n _ => n | _ => 0

set_option maxRecDepth 100000 in
set_option maxHeartbeats 2000000 in
theorem with_any (x : Pg.Leaf) (A : Option Addr) (c k : Nat) (r : ByteArray) (hl : x.recs.length ≤ 4096) (hk : k ≤ 4096) (w : World) (h : Cells w A c x.recs) :
    Calls Tryz.prog 51 #[leafV x A c, .int .i64 (k : Int), .string r] w fun e w' => ∃ A' c', e = .returned (leafV { x with recs := Pg.putAt x.recs k r } A' c') ∧ OwnCells w.heap.size w' A' c' (Pg.putAt x.recs k r) ∧ Below w.heap.size w w' := by
  go_enter Tryz.func51, Tryz.ntmps51
  go_wp2_with (at_builtin; refine wpList_app _ rfl _ _ rfl (w.heap.size + 2) (.slice none 0 0) [] rfl (OwnT.nil _ _) A c x.recs rfl ((h.below ((Below.refl _ _).alloc (Nat.le_refl _) _)).below ((Below.refl _ _).alloc (Nat.le_refl _) _)) (by simp; omega) (by simp) ?_; intro v1 w1 hown1 hg1 hb1)
  rw [List.nil_append] at hown1
  have hsz1 : w.heap.size + 2 ≤ w1.heap.size := by have := hb1.size; simp at this; omega
  have hX1 : w1.heap[w.heap.size]? = some (.cells #[.int .i64 x.lsn, .int .i64 x.kind, .int .i64 x.link, .slice A x.recs.length c] 38 (0, 0)) := by
    rw [hb1.block _ (by omega), Below.heap_alloc _ _ _ (by simp)]; exact heap_alloc_new w _
  have hY1 : w1.heap[w.heap.size + 1]? = some (.cells #[.int .i64 0, .int .i64 0, .int .i64 0, .slice none 0 0] 38 (0, 0)) := by
    rw [hb1.block _ (by omega)]
    have := heap_alloc_new (w.alloc (.cells #[.int .i64 x.lsn, .int .i64 x.kind, .int .i64 x.link, .slice A x.recs.length c] 38)) (.cells #[.int .i64 0, .int .i64 0, .int .i64 0, .slice none 0 0] 38)
    simpa using this
  have hbw : Below w.heap.size w w1 := (((Below.refl _ _).alloc (Nat.le_refl _) _).alloc (by simp) _).trans (hb1.mono (by omega))
  have HX := Lib.hid hX1
  have HY := Lib.hid hY1
  have HBW := Lib.hid hbw
  have HC := Lib.hid h
  clear hX1 hY1 hbw hb1 hg1 h
  go_loopw [7] (fun v wr => ∃ j, j ≤ k + 1 - x.recs.length ∧ OwnT (w.heap.size + 2) wr v (Pg.upTo x.recs j) ∧ Below (w.heap.size + 2) w1 wr) (fun v _ => 8193 - lenV v)
  case atStart => exact ⟨0, Nat.zero_le _, by simpa [Pg.upTo] using hown1, Below.refl _ _⟩
  case round =>
    obtain ⟨j, hj, hown, hb⟩ := hrel
    have hwr := hb.size
    have hln := Pg.upTo_length x.recs j
    have HS := Lib.hid (Pg.upTo_succ x.recs j)
    obtain ⟨L, hL⟩ : ∃ L, L = Pg.upTo x.recs j := ⟨_, rfl⟩
    rw [← hL] at hown hln HS
    have HL := Lib.hid hL
    have HLN := Lib.hid hln
    clear hL
    obtain ⟨Av, cv, rfl, hoc, -⟩ := hown.form
    by_cases hlt : L.length ≤ k
    · have hj2 : j + 1 ≤ k + 1 - x.recs.length := by omega
      clear hln hoc
      go_wp2_with (at_builtin; refine wpList_app _ rfl _ _ rfl (w.heap.size + 2) _ L rfl (hown.below ((Below.refl _ _).alloc (Nat.le_refl _) _)) _ 1 [⟨#[]⟩] rfl (cells_one wr _) (by simp; omega) (by simp; omega) ?_; intro v2 w2 hown2 hg2 hb2)
      have hb3 : Below (w.heap.size + 2) w1 w2 := hb.trans (((Below.refl _ _).alloc (by omega) _).trans hb2)
      rw [← HS.out] at hown2
      have hf : ∃ A' c', v2 = .slice A' (L.length + 1) c' := by
        obtain ⟨A', c', rfl, -⟩ := hown2.form
        exact ⟨A', c', by rw [HS.out, List.length_append]; rfl⟩
      obtain ⟨A', c', rfl⟩ := hf
      clear hg2
      go_roundw
      case rel => exact ⟨j + 1, hj2, hown2, hb3⟩
      case measure => simp [lenV]; omega
    · have hj3 : j = k + 1 - x.recs.length := by omega
      have hkl : k < L.length := by omega
      obtain ⟨g, cv', hv, hg, hcv, hgl, hcell, hfz⟩ := own_some hown (by omega)
      injection hv with hA hn hcc
      subst hA
      subst hcc
      have hck := hcell k hkl
      have hfk := hfz k
      have hst := own_stored hown k r
      have hset : L.set k r = Pg.putAt x.recs k r := by rw [HL.out, hj3]; rfl
      rw [hset] at hst
      have HST := Lib.hid hst
      have hLl : (Pg.putAt x.recs k r).length = L.length := by rw [← hset, List.length_set]
      have HSE := Lib.hid hLl
      obtain ⟨x0, x1, x2, x3, f0, f1, f2, f3⟩ := blk4 ((hb.block _ (by omega)).trans HX.out)
      obtain ⟨y0, y1, y2, y3, k0, k1, k2, k3⟩ := blk4 ((hb.block _ (by omega)).trans HY.out)
      have hb4 : Below w.heap.size w wr := HBW.out.trans (hb.mono (by omega))
      have hk0 : (0 : Int) ≤ (k : Int) := by omega
      have hk1 : (k : Int) < (L.length : Int) := by omega
      clear hcell hfz hst hset hLl hj3 hln hoc
      go_wp2_with fail
      have hne1 : g ≠ w.heap.size + 1 := by omega
      have hne2 : g ≠ w.heap.size := by omega
      refine bodyPost_ret (v := .agg #[.int .i64 x.lsn, .int .i64 x.kind, .int .i64 x.link, .slice (some ⟨g, 0, none⟩) L.length cv]) (by simp [results, Tryz.results51, go_sem, y0, y1, y2, y3]) rfl ?_
      refine ⟨some ⟨g, 0, none⟩, cv, by rw [← HSE.out], ?_, ?_⟩
      · have ho := own_cells HST.out rfl
        refine OwnCells.mono (B := w.heap.size + 2) ?_ (by omega)
        repeat (first | (with_reducible exact ho) | (with_reducible refine OwnCells.set ?_ _ (by simp; done) _))
      · repeat (first | (with_reducible exact hb4) | (with_reducible refine Below.setCell ?_ (by first | (simp; done) | (show w.heap.size ≤ g; omega)) _))
end Go.Proofs.YtkndifannjpbcaaGreatDoor
/- The records of a page with a slot turned: the reference's with. -/
namespace Go.Proofs.YtkndifannjpbcaaGreatDoor
open Go.RowKit

set_option maxRecDepth 100000 in
set_option maxHeartbeats 2000000 in
theorem rwith_far (A : Option Addr) (c n : Nat) (i : Int) (r : ByteArray) (h : 512 < i) (w : World) :
    Calls Tryz.prog 60 #[.slice A n c, .int .i64 i, .string r] w fun e w' => e = .returned (.tuple #[.slice none 0 0, .bool false]) ∧ w = w' := by
  go_enter Tryz.func60, Tryz.ntmps60
  go_wp2_with fail
  go_ret2
  exact ⟨rfl, rfl⟩

set_option maxRecDepth 100000 in
set_option maxHeartbeats 2000000 in
theorem rwith_any (rs : List ByteArray) (A : Option Addr) (c k : Nat) (r : ByteArray) (hl : rs.length ≤ 4096) (hk : k ≤ 512) (w : World) (h : Cells w A c rs) :
    Calls Tryz.prog 60 #[.slice A rs.length c, .int .i64 (k : Int), .string r] w fun e w' => ∃ A' c', e = .returned (.tuple #[.slice A' (Pg.putAt rs k r).length c', .bool true]) ∧ OwnCells w.heap.size w' A' c' (Pg.putAt rs k r) ∧ Below w.heap.size w w' := by
  have hk5 : (k : Int) ≤ 512 := by omega
  go_enter Tryz.func60, Tryz.ntmps60
  go_wp2_with (at_builtin; refine wpList_app _ rfl _ _ rfl w.heap.size (.slice none 0 0) [] rfl (OwnT.nil _ _) A c rs rfl h (by simp; omega) (Nat.le_refl _) ?_; intro v1 w1 hown1 hg1 hb1)
  rw [List.nil_append] at hown1
  have HC := Lib.hid h
  have HB := Lib.hid hb1
  clear hg1 h hk5 hb1
  go_loopw [8] (fun v wr => ∃ j, j ≤ k + 1 - rs.length ∧ OwnT w.heap.size wr v (Pg.upTo rs j) ∧ Below w.heap.size w wr) (fun v _ => 8193 - lenV v)
  case atStart => exact ⟨0, Nat.zero_le _, by simpa [Pg.upTo] using hown1, HB.out⟩
  case round =>
    obtain ⟨j, hj, hown, hb⟩ := hrel
    have hwr := hb.size
    have hln := Pg.upTo_length rs j
    have HS := Lib.hid (Pg.upTo_succ rs j)
    obtain ⟨L, hL⟩ : ∃ L, L = Pg.upTo rs j := ⟨_, rfl⟩
    rw [← hL] at hown hln HS
    have HL := Lib.hid hL
    have HLN := Lib.hid hln
    clear hL
    obtain ⟨Av, cv, rfl, hoc, -⟩ := hown.form
    by_cases hlt : L.length ≤ k
    · have hj2 : j + 1 ≤ k + 1 - rs.length := by omega
      clear hln hoc
      go_wp2_with (at_builtin; refine wpList_app _ rfl _ _ rfl w.heap.size _ L rfl (hown.below ((Below.refl _ _).alloc (Nat.le_refl _) _)) _ 1 [⟨#[]⟩] rfl (cells_one wr _) (by simp; omega) (by simp; omega) ?_; intro v2 w2 hown2 hg2 hb2)
      have hb3 : Below w.heap.size w w2 := hb.trans (((Below.refl _ _).alloc (by omega) _).trans hb2)
      rw [← HS.out] at hown2
      have hf : ∃ A' c', v2 = .slice A' (L.length + 1) c' := by
        obtain ⟨A', c', rfl, -⟩ := hown2.form
        exact ⟨A', c', by rw [HS.out, List.length_append]; rfl⟩
      obtain ⟨A', c', rfl⟩ := hf
      clear hg2
      go_roundw
      case rel => exact ⟨j + 1, hj2, hown2, hb3⟩
      case measure => simp [lenV]; omega
    · have hj3 : j = k + 1 - rs.length := by omega
      have hkl : k < L.length := by omega
      obtain ⟨g, cv', hv, hg, hcv, hgl, hcell, hfz⟩ := own_some hown (by omega)
      injection hv with hA hn hcc
      subst hA
      subst hcc
      have hck := hcell k hkl
      have hfk := hfz k
      have hst := own_stored hown k r
      have hset : L.set k r = Pg.putAt rs k r := by rw [HL.out, hj3]; rfl
      rw [hset] at hst
      have HST := Lib.hid hst
      have hLl : (Pg.putAt rs k r).length = L.length := by rw [← hset, List.length_set]
      have HSE := Lib.hid hLl
      have hk0 : (0 : Int) ≤ (k : Int) := by omega
      have hk1 : (k : Int) < (L.length : Int) := by omega
      clear hcell hfz hst hset hLl hj3 hln hoc
      go_wp2_with fail
      go_ret2
      exact ⟨some ⟨g, 0, none⟩, cv, (by rw [HSE.out]; rfl), own_cells HST.out rfl, hb.setCell hg _⟩
end Go.Proofs.YtkndifannjpbcaaGreatDoor
/- The walks over package page and its reference: full, laid. -/
namespace Pg
theorem trimN_eq_iff (rs : List ByteArray) : trim rs = rs ↔ trimN rs rs.length = rs.length := by
  unfold trim
  constructor
  · intro h
    have h1 := congrArg List.length h
    rw [List.length_take] at h1
    have := trimN_le rs rs.length
    omega
  · intro h; rw [h, List.take_length]
theorem sizeN_trim (rs : List ByteArray) : sizeN (trim rs) ≤ sizeN rs := by
  unfold sizeN trim
  have := sumSizes_take_le rs (trimN rs rs.length)
  have := List.length_take_le (trimN rs rs.length) rs
  have : (rs.take (trimN rs rs.length)).length ≤ rs.length := by rw [List.length_take]; omega
  omega
theorem layL_nil {x : Leaf} (h : 512 < sizeN (trim x.recs)) : layL x = [] := by unfold layL layR; rw [if_pos h]
theorem layL_length {x : Leaf} (h : sizeN (trim x.recs) ≤ 512) : (layL x).length = 512 := layR_length x _ (by omega)
theorem layL_nil_iff (x : Leaf) : layL x = [] ↔ 512 < sizeN (trim x.recs) := by
  constructor
  · intro h
    rcases Nat.lt_or_ge 512 (sizeN (trim x.recs)) with h1 | h1
    · exact h1
    · have := layL_length h1; rw [h] at this; cases this
  · exact layL_nil
/-- What comes of parts: the page; or that they do not fit. -/
def fullO (x : Leaf) : ByteArray × Int := if layL x = [] then (⟨#[]⟩, 18) else (⟨(layL x).toArray⟩, 0)
theorem fullO_yes {x : Leaf} (h : sizeN (trim x.recs) ≤ 512) : fullO x = (⟨(layL x).toArray⟩, 0) := by
  unfold fullO; rw [if_neg]; rw [layL_nil_iff]; omega
theorem fullO_no {x : Leaf} (h : 512 < sizeN (trim x.recs)) : fullO x = (⟨#[]⟩, 18) := by
  unfold fullO; rw [if_pos ((layL_nil_iff x).2 h)]
end Pg
namespace Go.Proofs.YtkndifannjpbcaaGreatDoor
open Go.RowKit

/-- A text and an error. -/
abbrev outV (o : ByteArray × Int) : Value := .tuple #[.string o.1, .int .i64 o.2]

set_option maxRecDepth 100000 in
set_option maxHeartbeats 1000000 in
theorem full_any (x : Pg.Leaf) (A : Option Addr) (c : Nat) (hx : Pg.Small x) (hb : Pg.sizeN x.recs ≤ 1099511627776) (w : World) (h : Cells w A c x.recs) :
    Calls Tryz.prog 50 #[leafV x A c] w fun e w' => e = .returned (outV (Pg.fullO x)) ∧ Below w.heap.size w w' := by
  have HM := Lib.hid (made_any x A c hx hb _ (h.below ((Below.refl w.heap.size w).alloc (Nat.le_refl _) (.cells #[.int .i64 x.lsn, .int .i64 x.kind, .int .i64 x.link, .slice A x.recs.length c] 38 (0, 0)))))
  clear h
  unfold Pg.fullO
  by_cases h0 : Pg.layL x = []
  · rw [if_pos h0]
    rw [h0] at HM
    clear h0
    go_enter Tryz.func50, Tryz.ntmps50
    go_wp2_with (go_at_call 18; refine (HM.out).mono ?_; rintro e w1 ⟨rfl, hb1⟩)
    go_ret2
    exact ⟨rfl, below_past hb1⟩
  · rw [if_neg h0]
    obtain ⟨q, hq⟩ : ∃ q : ByteArray, q = ⟨(Pg.layL x).toArray⟩ := ⟨_, rfl⟩
    rw [← hq] at HM ⊢
    have hie : q.toList.isEmpty = false := by
      rw [empty_iff, hq]
      refine decide_eq_false fun h1 => h0 ?_
      have h2 : (Pg.layL x).toArray.size = 0 := h1
      simpa using h2
    have hl : q.toList = Pg.layL x := by rw [ByteArray.toList_eq, hq]
    have hne : ¬ q.toList = [] := by rw [hl]; exact h0
    clear h0 hq hl
    go_enter Tryz.func50, Tryz.ntmps50
    go_wp2_with (go_at_call 18; refine (HM.out).mono ?_; rintro e w1 ⟨rfl, hb1⟩)
    go_ret2
    exact ⟨rfl, below_past hb1⟩

set_option maxRecDepth 100000 in
set_option maxHeartbeats 1000000 in
theorem laid_any (x : Pg.Leaf) (A : Option Addr) (c : Nat) (hx : Pg.Small x) (hb : Pg.sizeN x.recs ≤ 1099511627776) (ht : Pg.sizeN x.recs ≤ 512 ∨ Pg.trim x.recs = x.recs) (w : World) (h : Cells w A c x.recs) :
    Calls Tryz.prog 61 #[leafV x A c] w fun e w' => e = .returned (outV (Pg.fullO x)) ∧ Below w.heap.size w w' := by
  have HL := Lib.hid (fun W hW => rlay_any x A c hx hb W hW)
  have HC := Lib.hid (h.below ((Below.refl w.heap.size w).alloc (Nat.le_refl _) (.cells #[.int .i64 x.lsn, .int .i64 x.kind, .int .i64 x.link, .slice A x.recs.length c] 49 (0, 0))))
  clear h
  by_cases h5 : Pg.sizeN x.recs ≤ 512
  · rw [Pg.fullO_yes (Nat.le_trans (Pg.sizeN_trim _) h5)]
    have HF := Lib.hid (fun W hW => rfits_is x A c x.recs hb true (decide_eq_true h5) W hW)
    clear h5 hb ht
    generalize (⟨(Pg.layL x).toArray⟩ : ByteArray) = q at HL ⊢
    go_enter Tryz.func61, Tryz.ntmps61
    go_wp2_with (first | (go_at_call 74; refine (HF.out _ HC.out).mono ?_; rintro e w1 ⟨rfl, hb1⟩; obtain ⟨c0, c1, c2, c3, f0, f1, f2, f3⟩ := blk4 (blk_new hb1)) | (go_at_call 63; refine (HL.out _ (HC.out.below hb1)).mono ?_; rintro e w2 ⟨rfl, hb2⟩))
    go_ret2
    exact ⟨rfl, andThen (below_past hb1) hb2⟩
  · have ht2 : Pg.trim x.recs = x.recs := by rcases ht with h | h; exact absurd h h5; exact h
    rw [Pg.fullO_no (by rw [ht2]; omega)]
    have HF := Lib.hid (fun W hW => rfits_is x A c x.recs hb false (decide_eq_false h5) W hW)
    clear h5 hb ht ht2
    go_enter Tryz.func61, Tryz.ntmps61
    go_wp2_with (first | (go_at_call 74; refine (HF.out _ HC.out).mono ?_; rintro e w1 ⟨rfl, hb1⟩))
    go_ret2
    exact ⟨rfl, below_past hb1⟩
end Go.Proofs.YtkndifannjpbcaaGreatDoor
/- The plain mathematics of pages, fourth part: records put, cut, set, added, deleted. -/
namespace Pg

theorem sumSizes_replicate (n : Nat) : sumSizes (List.replicate n (⟨#[]⟩ : ByteArray)) = 0 := by
  induction n with
  | zero => rfl
  | succ n ih => rw [List.replicate_succ, sumSizes, ih]; rfl
theorem sumSizes_set (rs : List ByteArray) (k : Nat) (r : ByteArray) (h : k < rs.length) : sumSizes (rs.set k r) + rs[k].size = sumSizes rs + r.size := by
  have h1 := sumSizes_split rs k h
  rw [List.set_eq_take_append_cons_drop, if_pos h, sumSizes_append, sumSizes]
  omega
theorem putAt_length (rs : List ByteArray) (k : Nat) (r : ByteArray) : (putAt rs k r).length = max rs.length (k + 1) := by
  unfold putAt
  simp
  omega
theorem putAt_in {rs : List ByteArray} {k : Nat} (h : k < rs.length) (r : ByteArray) : putAt rs k r = rs.set k r := by
  unfold putAt
  rw [show k + 1 - rs.length = 0 by omega]; simp
theorem putAt_sum (rs : List ByteArray) (k : Nat) (r : ByteArray) : sumSizes (putAt rs k r) ≤ sumSizes rs + r.size := by
  unfold putAt
  have h : k < (rs ++ List.replicate (k + 1 - rs.length) (⟨#[]⟩ : ByteArray)).length := by simp; omega
  have h1 := sumSizes_set _ k r h
  rw [sumSizes_append, sumSizes_replicate] at h1
  omega
theorem putAt_mem {rs : List ByteArray} {k : Nat} {r : ByteArray} {m : Nat} (he : ∀ r ∈ rs, r.size ≤ m) (hr : r.size ≤ m) : ∀ q ∈ putAt rs k r, q.size ≤ m := by
  intro q hq
  unfold putAt at hq
  rcases List.mem_or_eq_of_mem_set hq with h | h
  · rw [List.mem_append] at h
    rcases h with h | h
    · exact he q h
    · rw [(List.mem_replicate.1 h).2]; exact Nat.zero_le _
  · rw [h]; exact hr
theorem putAt_get (rs : List ByteArray) (k : Nat) (r : ByteArray) (j : Nat) : ((putAt rs k r)[j]?).getD ⟨#[]⟩ = if j = k then r else (rs[j]?).getD ⟨#[]⟩ := by
  unfold putAt
  rw [List.getElem?_set]
  by_cases h : k = j
  · subst h
    rw [if_pos rfl, if_pos (by simp; omega), if_pos rfl]; rfl
  · rw [if_neg h, if_neg (fun e => h e.symm), List.getElem?_append]
    split
    · rfl
    · rename_i h1
      rw [List.getElem?_replicate, List.getElem?_eq_none (by omega)]
      split <;> rfl
theorem tight_of_last {rs : List ByteArray} (h : rs.length = 0 ∨ ((rs[rs.length - 1]?).getD ⟨#[]⟩).size ≠ 0) : Tight rs := by
  intro r hr
  rw [List.getLast?_eq_getElem?] at hr
  rcases h with h | h
  · rw [List.eq_nil_of_length_eq_zero h] at hr; simp at hr
  · rw [hr] at h; exact h
theorem tight_last {rs : List ByteArray} (h : Tight rs) : rs.length = 0 ∨ ((rs[rs.length - 1]?).getD ⟨#[]⟩).size ≠ 0 := by
  rcases Nat.eq_zero_or_pos rs.length with h0 | h0
  · exact .inl h0
  · right
    have hg : rs[rs.length - 1]? = some rs[rs.length - 1] := List.getElem?_eq_getElem (by omega)
    rw [hg]
    exact h _ (by rw [List.getLast?_eq_getElem?, hg]; rfl)
theorem putAt_tight {rs : List ByteArray} (h : Tight rs) (k : Nat) {r : ByteArray} (hr : r.size ≠ 0) : Tight (putAt rs k r) := by
  refine tight_of_last (.inr ?_)
  rw [putAt_get, putAt_length]
  split
  · exact hr
  · rcases tight_last h with h1 | h1
    · omega
    · rw [show max rs.length (k + 1) - 1 = rs.length - 1 by omega]; exact h1
theorem putAt_size (rs : List ByteArray) (k : Nat) (r : ByteArray) : sizeN (putAt rs k r) ≤ 19 + 4 * max rs.length (k + 1) + (sumSizes rs + r.size) := by
  have := putAt_sum rs k r
  unfold sizeN
  rw [putAt_length]; omega
theorem cutAt_size {rs : List ByteArray} {k : Nat} (h : k < rs.length) : sizeN (putAt rs k ⟨#[]⟩) ≤ sizeN rs := by
  have h1 := putAt_size rs k ⟨#[]⟩
  have h2 : (⟨#[]⟩ : ByteArray).size = 0 := rfl
  unfold sizeN at h1 ⊢; omega
/-- The records with one more at a place; those from there on move up. -/
def insAt (rs : List ByteArray) (k : Nat) (r : ByteArray) : List ByteArray := if rs.length ≤ k then putAt rs k r else rs.take k ++ [r] ++ rs.drop k
/-- The records without one; those behind it move down. -/
def delAt (rs : List ByteArray) (k : Nat) : List ByteArray := rs.take k ++ rs.drop (k + 1)
theorem insAt_sum (rs : List ByteArray) (k : Nat) (r : ByteArray) : sumSizes (insAt rs k r) ≤ sumSizes rs + r.size := by
  unfold insAt
  split
  · exact putAt_sum rs k r
  · have h := sumSizes_append (rs.take k) (rs.drop k)
    rw [List.take_append_drop] at h
    rw [sumSizes_append, sumSizes_append, sumSizes, sumSizes]; omega
theorem insAt_length (rs : List ByteArray) (k : Nat) (r : ByteArray) : (insAt rs k r).length = max (rs.length + 1) (k + 1) := by
  unfold insAt
  split
  · rw [putAt_length]; omega
  · simp; omega
theorem delAt_sum {rs : List ByteArray} {k : Nat} (h : k < rs.length) : sumSizes (delAt rs k) + rs[k].size = sumSizes rs := by
  have h1 := sumSizes_split rs k h
  unfold delAt
  rw [sumSizes_append]; omega
theorem delAt_length {rs : List ByteArray} {k : Nat} (h : k < rs.length) : (delAt rs k).length + 1 = rs.length := by
  unfold delAt; simp; omega
theorem delAt_size {rs : List ByteArray} {k : Nat} (h : k < rs.length) : sizeN (delAt rs k) ≤ sizeN rs := by
  have h1 := delAt_sum h
  have h2 := delAt_length h
  unfold sizeN; omega
theorem insAt_tight {rs : List ByteArray} (h : Tight rs) (k : Nat) {r : ByteArray} (hr : r.size ≠ 0) : Tight (insAt rs k r) := by
  unfold insAt
  split
  · exact putAt_tight h k hr
  · rename_i h1
    intro q hq
    rw [List.getLast?_append] at hq
    refine h q ?_
    rw [List.getLast?_drop, if_neg h1] at hq
    have hl : rs.getLast? = some (rs.getLast (by intro e; rw [e] at h1; simp at h1)) := List.getLast?_eq_some_getLast _
    rw [hl] at hq ⊢
    exact hq
theorem insAt_mem {rs : List ByteArray} {k : Nat} {r : ByteArray} {m : Nat} (he : ∀ r ∈ rs, r.size ≤ m) (hr : r.size ≤ m) : ∀ q ∈ insAt rs k r, q.size ≤ m := by
  unfold insAt
  split
  · exact putAt_mem he hr
  · intro q hq
    simp only [List.mem_append, List.mem_singleton] at hq
    rcases hq with (h | h) | h
    · exact he q (List.mem_of_mem_take h)
    · rw [h]; exact hr
    · exact he q (List.mem_of_mem_drop h)
theorem delAt_mem {rs : List ByteArray} {k : Nat} {m : Nat} (he : ∀ r ∈ rs, r.size ≤ m) : ∀ q ∈ delAt rs k, q.size ≤ m := by
  intro q hq
  unfold delAt at hq
  rw [List.mem_append] at hq
  rcases hq with h | h
  · exact he q (List.mem_of_mem_take h)
  · exact he q (List.mem_of_mem_drop h)
theorem slotAt_lt {rs : List ByteArray} {i : Int} (h : (slotAt rs i).size ≠ 0) : 0 ≤ i ∧ i < rs.length := by
  constructor
  · rcases Int.lt_or_le i 0 with h1 | h1
    · rw [slotAt_neg h1] at h; exact absurd rfl h
    · exact h1
  · rcases Int.lt_or_le i rs.length with h1 | h1
    · exact h1
    · rw [slotAt_past h1] at h; exact absurd rfl h

/-- A page's parts, of which it may be said what they are. -/
structure Good (x : Leaf) : Prop where
  fine : Fine x
  tight : Tight x.recs
  fits : sizeN x.recs ≤ 512
theorem right_good {p : List UInt8} {x : Leaf} (h : right p = some x) : Good x :=
  ⟨(right_fine h).1, (right_tight h).1, (right_tight h).2⟩
theorem leafOf_good (p : List UInt8) : Good (leafOf p) := by
  unfold leafOf
  cases h : right p with
  | none => exact ⟨zero_fine, (by intro r hr; cases hr), by decide⟩
  | some x => exact right_good h
end Pg
/- The walks over package page and its reference: Put, Cut, Set. -/
namespace Go.Proofs.YtkndifannjpbcaaGreatDoor
open Go.RowKit

/-- May a record be? -/
def mayB (r : ByteArray) : Bool := decide (1 ≤ r.size ∧ r.size ≤ 400)
theorem mayB_yes {r : ByteArray} (h : mayB r = true) : 1 ≤ r.size ∧ r.size ≤ 400 := by unfold mayB at h; exact of_decide_eq_true h
/-- A page's parts with other records. -/
def withRecs (p : ByteArray) (rs : List ByteArray) : Pg.Leaf := { leafP p with recs := rs }
theorem leafP_good (p : ByteArray) : Pg.Good (leafP p) := Pg.leafOf_good _
theorem withRecs_small (p : ByteArray) (rs : List ByteArray) : Pg.Small (withRecs p rs) := (leafP_good p).fine.small
/-- What Put, Cut, Set return. -/
def putO (p : ByteArray) (i : Int) (r : ByteArray) : ByteArray × Int :=
  if isPg p = false then (⟨#[]⟩, 1) else if i < 0 then (⟨#[]⟩, 1) else if (Pg.slotAt (leafP p).recs i).size ≠ 0 then (⟨#[]⟩, 1)
  else if mayB r = false then (⟨#[]⟩, 1) else if 512 < i then (⟨#[]⟩, 18) else Pg.fullO (withRecs p (Pg.putAt (leafP p).recs i.toNat r))
def cutO (p : ByteArray) (i : Int) : ByteArray × Int :=
  if isPg p = false then (⟨#[]⟩, 1) else if (Pg.slotAt (leafP p).recs i).size = 0 then (⟨#[]⟩, 21) else Pg.fullO (withRecs p (Pg.putAt (leafP p).recs i.toNat ⟨#[]⟩))
def setO (p : ByteArray) (i : Int) (r : ByteArray) : ByteArray × Int :=
  if isPg p = false then (⟨#[]⟩, 1) else if mayB r = false then (⟨#[]⟩, 1) else if (Pg.slotAt (leafP p).recs i).size = 0 then (⟨#[]⟩, 21)
  else Pg.fullO (withRecs p (Pg.putAt (leafP p).recs i.toNat r))

theorem empty_yes {q : ByteArray} (h : q.size = 0) : q = ⟨#[]⟩ := bytes_nil h
theorem empty_no {q : ByteArray} (h : ¬ q.size = 0) : q.toList.isEmpty = false ∧ ¬ q.toList = [] := by
  have h1 : q.toList.isEmpty = false := by rw [empty_iff]; exact decide_eq_false h
  exact ⟨h1, fun e => by rw [e] at h1; cases h1⟩
set_option maxRecDepth 100000 in
set_option maxHeartbeats 2000000 in
theorem pput_any (p : ByteArray) (i : Int) (r : ByteArray) (hm : p.size ≤ 140737488355328) (w : World) :
    Calls Tryz.prog 21 #[.string p, .int .i64 i, .string r] w fun e w' => e = .returned (outV (putO p i r)) ∧ Below w.heap.size w w' := by
  have HT := Lib.hid (fun W => take_leaf p hm W)
  have HA := Lib.hid (fun A c W hW => at_any (leafP p) A c i W hW)
  have HY := Lib.hid (fun W => may_any r W)
  change Hid (∀ W, Calls _ _ _ _ fun e w' => e = .returned (.bool (mayB r)) ∧ _) at HY
  have hgood := leafP_good p
  unfold putO
  cases hb : isPg p with
  | false =>
    rw [if_pos rfl]
    rw [hb] at HT
    generalize leafP p = x at HT
    clear hgood hb HA HY
    go_enter Tryz.func21, Tryz.ntmps21
    go_wp2_with (first | (go_at_call 19; refine (HT.out _).mono ?_; rintro e w1 ⟨A, c, rfl, hcl, hb1⟩))
    go_ret2
    exact ⟨rfl, below_past_alloc hb1⟩
  | true =>
    rw [hb] at HT
    rw [if_neg (by simp)]
    clear hb
    by_cases h1 : i < 0
    · rw [if_pos h1]
      generalize leafP p = x at HT
      clear hgood HA HY
      go_enter Tryz.func21, Tryz.ntmps21
      go_wp2_with (first | (go_at_call 19; refine (HT.out _).mono ?_; rintro e w1 ⟨A, c, rfl, hcl, hb1⟩))
      go_ret2
      exact ⟨rfl, below_past_alloc hb1⟩
    · rw [if_neg h1]
      obtain ⟨k, rfl⟩ := Int.eq_ofNat_of_zero_le (show 0 ≤ i by omega)
      have hk0 : (0 : Int) ≤ (k : Int) := by omega
      clear h1
      rw [show ((k : Int)).toNat = k from rfl]
      by_cases h2 : (Pg.slotAt (leafP p).recs (k : Int)).size ≠ 0
      · rw [if_pos h2]
        obtain ⟨hie, hne⟩ := empty_no h2
        clear h2
        generalize Pg.slotAt (leafP p).recs (k : Int) = q at HA hie hne
        generalize leafP p = x at HT HA
        clear hgood HY
        go_enter Tryz.func21, Tryz.ntmps21
        go_wp2_with (first | (go_at_call 19; refine (HT.out _).mono ?_; rintro e w1 ⟨A, c, rfl, hcl, hb1⟩) | (go_at_call 48; refine (HA.out _ _ _ (hcl.cells.below ((Below.refl _ _).alloc (Nat.le_refl _) _))).mono ?_; rintro e w2 ⟨rfl, hb2⟩; obtain ⟨c0, c1, c2, c3, f0, f1, f2, f3⟩ := blk4 (blk_new hb2)))
        go_ret2
        exact ⟨rfl, andThen hb1 (below_past hb2)⟩
      · rw [if_neg h2]
        rw [empty_yes (q := Pg.slotAt (leafP p).recs (k : Int)) (by omega)] at HA
        clear h2
        cases hy : mayB r with
        | false =>
          rw [if_pos rfl]
          rw [hy] at HY
          generalize leafP p = x at HT HA
          clear hgood hy
          go_enter Tryz.func21, Tryz.ntmps21
          go_wp2_with (first | (go_at_call 19; refine (HT.out _).mono ?_; rintro e w1 ⟨A, c, rfl, hcl, hb1⟩) | (go_at_call 48; refine (HA.out _ _ _ (hcl.cells.below ((Below.refl _ _).alloc (Nat.le_refl _) _))).mono ?_; rintro e w2 ⟨rfl, hb2⟩; obtain ⟨c0, c1, c2, c3, f0, f1, f2, f3⟩ := blk4 (blk_new hb2)) | (go_at_call 49; refine (HY.out _).mono ?_; rintro e w3 ⟨rfl, rfl⟩))
          go_ret2
          exact ⟨rfl, andThen hb1 (below_past hb2)⟩
        | true =>
          rw [if_neg (by simp)]
          rw [hy] at HY
          obtain ⟨hr1, hr2⟩ := mayB_yes hy
          clear hy
          by_cases h5 : (512 : Int) < (k : Int)
          · rw [if_pos h5]
            generalize leafP p = x at HT HA
            clear hgood
            go_enter Tryz.func21, Tryz.ntmps21
            go_wp2_with (first | (go_at_call 19; refine (HT.out _).mono ?_; rintro e w1 ⟨A, c, rfl, hcl, hb1⟩) | (go_at_call 48; refine (HA.out _ _ _ (hcl.cells.below ((Below.refl _ _).alloc (Nat.le_refl _) _))).mono ?_; rintro e w2 ⟨rfl, hb2⟩; obtain ⟨c0, c1, c2, c3, f0, f1, f2, f3⟩ := blk4 (blk_new hb2)) | (go_at_call 49; refine (HY.out _).mono ?_; rintro e w3 ⟨rfl, rfl⟩))
            go_ret2
            exact ⟨rfl, andThen hb1 (below_past hb2)⟩
          · rw [if_neg h5]
            have hln := hgood.fine.len
            have hsm := hgood.fine.sum
            have hps := Pg.putAt_size (leafP p).recs k r
            have HW := Lib.hid (fun A c W hW => with_any (leafP p) A c k r (by omega) (by omega) W hW)
            have HU := Lib.hid (fun A c W hW => full_any (withRecs p (Pg.putAt (leafP p).recs k r)) A c (withRecs_small p _) (by show Pg.sizeN (Pg.putAt _ _ _) ≤ _; omega) W hW)
            change Hid (∀ A c W, Cells W A c (leafP p).recs → Calls _ _ _ _ fun e w' => ∃ A' c', e = .returned (leafV (withRecs p (Pg.putAt (leafP p).recs k r)) A' c') ∧ OwnCells _ w' A' c' (withRecs p (Pg.putAt (leafP p).recs k r)).recs ∧ _) at HW
            clear hps hln hsm hr1 hr2 hgood
            generalize withRecs p (Pg.putAt (leafP p).recs k r) = y at HW HU ⊢
            generalize Pg.fullO y = o at HU ⊢
            generalize leafP p = x at HT HA HW
            go_enter Tryz.func21, Tryz.ntmps21
            go_wp2_with (first | (go_at_call 19; refine (HT.out _).mono ?_; rintro e w1 ⟨A, c, rfl, hcl, hb1⟩) | (go_at_call 48; refine (HA.out _ _ _ (hcl.cells.below ((Below.refl _ _).alloc (Nat.le_refl _) _))).mono ?_; rintro e w2 ⟨rfl, hb2⟩; obtain ⟨c0, c1, c2, c3, f0, f1, f2, f3⟩ := blk4 (blk_new hb2)) | (go_at_call 49; refine (HY.out _).mono ?_; rintro e w3 ⟨rfl, rfl⟩) | (go_at_call 51; refine (HW.out _ _ _ (hcl.cells.below (below_past hb2))).mono ?_; rintro e w4 ⟨A', c', rfl, ho4, hb4⟩) | (go_at_call 50; refine (HU.out _ _ _ ho4.cells).mono ?_; rintro e w5 ⟨rfl, hb5⟩))
            go_ret2
            exact ⟨rfl, andThen (andThen (andThen hb1 (below_past hb2)) hb4) hb5⟩
set_option maxRecDepth 100000 in
set_option maxHeartbeats 2000000 in
theorem pcut_any (p : ByteArray) (i : Int) (hm : p.size ≤ 140737488355328) (w : World) :
    Calls Tryz.prog 22 #[.string p, .int .i64 i] w fun e w' => e = .returned (outV (cutO p i)) ∧ Below w.heap.size w w' := by
  have HT := Lib.hid (fun W => take_leaf p hm W)
  have HA := Lib.hid (fun A c W hW => at_any (leafP p) A c i W hW)
  have hgood := leafP_good p
  unfold cutO
  cases hb : isPg p with
  | false =>
    rw [if_pos rfl]
    rw [hb] at HT
    generalize leafP p = x at HT
    clear hgood hb HA
    go_enter Tryz.func22, Tryz.ntmps22
    go_wp2_with (first | (go_at_call 19; refine (HT.out _).mono ?_; rintro e w1 ⟨A, c, rfl, hcl, hb1⟩))
    go_ret2
    exact ⟨rfl, below_past_alloc hb1⟩
  | true =>
    rw [hb] at HT
    rw [if_neg (by simp)]
    clear hb
    by_cases h2 : (Pg.slotAt (leafP p).recs i).size = 0
    · rw [if_pos h2]
      rw [empty_yes h2] at HA
      generalize leafP p = x at HT HA
      clear hgood h2
      go_enter Tryz.func22, Tryz.ntmps22
      go_wp2_with (first | (go_at_call 19; refine (HT.out _).mono ?_; rintro e w1 ⟨A, c, rfl, hcl, hb1⟩) | (go_at_call 48; refine (HA.out _ _ _ (hcl.cells.below ((Below.refl _ _).alloc (Nat.le_refl _) _))).mono ?_; rintro e w2 ⟨rfl, hb2⟩; obtain ⟨c0, c1, c2, c3, f0, f1, f2, f3⟩ := blk4 (blk_new hb2)))
      go_ret2
      exact ⟨rfl, andThen hb1 (below_past hb2)⟩
    · rw [if_neg h2]
      obtain ⟨hi0, hi1⟩ := Pg.slotAt_lt h2
      obtain ⟨hie, hne⟩ := empty_no h2
      clear h2
      obtain ⟨k, rfl⟩ := Int.eq_ofNat_of_zero_le hi0
      rw [show ((k : Int)).toNat = k from rfl]
      have hln := hgood.fine.len
      have hsm := hgood.fine.sum
      have hps := Pg.putAt_size (leafP p).recs k ⟨#[]⟩
      have hz : (⟨#[]⟩ : ByteArray).size = 0 := rfl
      have HW := Lib.hid (fun A c W hW => with_any (leafP p) A c k ⟨#[]⟩ (by omega) (by omega) W hW)
      have HU := Lib.hid (fun A c W hW => full_any (withRecs p (Pg.putAt (leafP p).recs k ⟨#[]⟩)) A c (withRecs_small p _) (by show Pg.sizeN (Pg.putAt _ _ _) ≤ _; omega) W hW)
      change Hid (∀ A c W, Cells W A c (leafP p).recs → Calls _ _ _ _ fun e w' => ∃ A' c', e = .returned (leafV (withRecs p (Pg.putAt (leafP p).recs k ⟨#[]⟩)) A' c') ∧ OwnCells _ w' A' c' (withRecs p (Pg.putAt (leafP p).recs k ⟨#[]⟩)).recs ∧ _) at HW
      clear hps hln hsm hgood hz hi1
      generalize withRecs p (Pg.putAt (leafP p).recs k ⟨#[]⟩) = y at HW HU ⊢
      generalize Pg.fullO y = o at HU ⊢
      generalize Pg.slotAt (leafP p).recs (k : Int) = q at HA hie hne
      generalize leafP p = x at HT HA HW
      go_enter Tryz.func22, Tryz.ntmps22
      go_wp2_with (first | (go_at_call 19; refine (HT.out _).mono ?_; rintro e w1 ⟨A, c, rfl, hcl, hb1⟩) | (go_at_call 48; refine (HA.out _ _ _ (hcl.cells.below ((Below.refl _ _).alloc (Nat.le_refl _) _))).mono ?_; rintro e w2 ⟨rfl, hb2⟩; obtain ⟨c0, c1, c2, c3, f0, f1, f2, f3⟩ := blk4 (blk_new hb2)) | (go_at_call 51; refine (HW.out _ _ _ (hcl.cells.below (below_past hb2))).mono ?_; rintro e w4 ⟨A', c', rfl, ho4, hb4⟩) | (go_at_call 50; refine (HU.out _ _ _ ho4.cells).mono ?_; rintro e w5 ⟨rfl, hb5⟩))
      go_ret2
      exact ⟨rfl, andThen (andThen (andThen hb1 (below_past hb2)) hb4) hb5⟩
set_option maxRecDepth 100000 in
set_option maxHeartbeats 2000000 in
theorem pset_any (p : ByteArray) (i : Int) (r : ByteArray) (hm : p.size ≤ 140737488355328) (w : World) :
    Calls Tryz.prog 23 #[.string p, .int .i64 i, .string r] w fun e w' => e = .returned (outV (setO p i r)) ∧ Below w.heap.size w w' := by
  have HT := Lib.hid (fun W => take_leaf p hm W)
  have HA := Lib.hid (fun A c W hW => at_any (leafP p) A c i W hW)
  have HY := Lib.hid (fun W => may_any r W)
  change Hid (∀ W, Calls _ _ _ _ fun e w' => e = .returned (.bool (mayB r)) ∧ _) at HY
  have hgood := leafP_good p
  unfold setO
  cases hb : isPg p with
  | false =>
    rw [if_pos rfl]
    rw [hb] at HT
    generalize leafP p = x at HT
    clear hgood hb HA HY
    go_enter Tryz.func23, Tryz.ntmps23
    go_wp2_with (first | (go_at_call 19; refine (HT.out _).mono ?_; rintro e w1 ⟨A, c, rfl, hcl, hb1⟩))
    go_ret2
    exact ⟨rfl, below_past_alloc hb1⟩
  | true =>
    rw [hb] at HT
    rw [if_neg (by simp)]
    clear hb
    cases hy : mayB r with
    | false =>
      rw [if_pos rfl]
      rw [hy] at HY
      generalize leafP p = x at HT
      clear hgood hy HA
      go_enter Tryz.func23, Tryz.ntmps23
      go_wp2_with (first | (go_at_call 19; refine (HT.out _).mono ?_; rintro e w1 ⟨A, c, rfl, hcl, hb1⟩) | (go_at_call 49; refine (HY.out _).mono ?_; rintro e w3 ⟨rfl, rfl⟩))
      go_ret2
      exact ⟨rfl, below_past_alloc hb1⟩
    | true =>
      rw [if_neg (by simp)]
      rw [hy] at HY
      obtain ⟨hr1, hr2⟩ := mayB_yes hy
      clear hy
      by_cases h2 : (Pg.slotAt (leafP p).recs i).size = 0
      · rw [if_pos h2]
        rw [empty_yes h2] at HA
        generalize leafP p = x at HT HA
        clear hgood h2
        go_enter Tryz.func23, Tryz.ntmps23
        go_wp2_with (first | (go_at_call 19; refine (HT.out _).mono ?_; rintro e w1 ⟨A, c, rfl, hcl, hb1⟩) | (go_at_call 49; refine (HY.out _).mono ?_; rintro e w3 ⟨rfl, rfl⟩) | (go_at_call 48; refine (HA.out _ _ _ (hcl.cells.below ((Below.refl _ _).alloc (Nat.le_refl _) _))).mono ?_; rintro e w2 ⟨rfl, hb2⟩; obtain ⟨c0, c1, c2, c3, f0, f1, f2, f3⟩ := blk4 (blk_new hb2)))
        go_ret2
        exact ⟨rfl, andThen hb1 (below_past hb2)⟩
      · rw [if_neg h2]
        obtain ⟨hi0, hi1⟩ := Pg.slotAt_lt h2
        obtain ⟨hie, hne⟩ := empty_no h2
        clear h2
        obtain ⟨k, rfl⟩ := Int.eq_ofNat_of_zero_le hi0
        rw [show ((k : Int)).toNat = k from rfl]
        have hln := hgood.fine.len
        have hsm := hgood.fine.sum
        have hps := Pg.putAt_size (leafP p).recs k r
        have HW := Lib.hid (fun A c W hW => with_any (leafP p) A c k r (by omega) (by omega) W hW)
        have HU := Lib.hid (fun A c W hW => full_any (withRecs p (Pg.putAt (leafP p).recs k r)) A c (withRecs_small p _) (by show Pg.sizeN (Pg.putAt _ _ _) ≤ _; omega) W hW)
        change Hid (∀ A c W, Cells W A c (leafP p).recs → Calls _ _ _ _ fun e w' => ∃ A' c', e = .returned (leafV (withRecs p (Pg.putAt (leafP p).recs k r)) A' c') ∧ OwnCells _ w' A' c' (withRecs p (Pg.putAt (leafP p).recs k r)).recs ∧ _) at HW
        clear hps hln hsm hr1 hr2 hgood hi1
        generalize withRecs p (Pg.putAt (leafP p).recs k r) = y at HW HU ⊢
        generalize Pg.fullO y = o at HU ⊢
        generalize Pg.slotAt (leafP p).recs (k : Int) = q at HA hie hne
        generalize leafP p = x at HT HA HW
        go_enter Tryz.func23, Tryz.ntmps23
        go_wp2_with (first | (go_at_call 19; refine (HT.out _).mono ?_; rintro e w1 ⟨A, c, rfl, hcl, hb1⟩) | (go_at_call 49; refine (HY.out _).mono ?_; rintro e w3 ⟨rfl, rfl⟩) | (go_at_call 48; refine (HA.out _ _ _ (hcl.cells.below ((Below.refl _ _).alloc (Nat.le_refl _) _))).mono ?_; rintro e w2 ⟨rfl, hb2⟩; obtain ⟨c0, c1, c2, c3, f0, f1, f2, f3⟩ := blk4 (blk_new hb2)) | (go_at_call 51; refine (HW.out _ _ _ (hcl.cells.below (below_past hb2))).mono ?_; rintro e w4 ⟨A', c', rfl, ho4, hb4⟩) | (go_at_call 50; refine (HU.out _ _ _ ho4.cells).mono ?_; rintro e w5 ⟨rfl, hb5⟩))
        go_ret2
        exact ⟨rfl, andThen (andThen (andThen hb1 (below_past hb2)) hb4) hb5⟩
end Go.Proofs.YtkndifannjpbcaaGreatDoor
/- The walks over the reference of package page: Put, Cut, Set. -/
namespace Go.Proofs.YtkndifannjpbcaaGreatDoor
open Go.RowKit

set_option maxRecDepth 100000 in
set_option maxHeartbeats 2000000 in
theorem rpput_any (p : ByteArray) (i : Int) (r : ByteArray) (hm : p.size ≤ 140737488355328) (w : World) :
    Calls Tryz.prog 29 #[.string p, .int .i64 i, .string r] w fun e w' => e = .returned (outV (putO p i r)) ∧ Below w.heap.size w w' := by
  have HT := Lib.hid (fun W => rparts_leaf p hm W)
  have HA := Lib.hid (fun W => rget_any_rec p i hm W)
  have HY := Lib.hid (fun W => rmay_any r W)
  change Hid (∀ W, Calls _ _ _ _ fun e w' => e = .returned (.bool (mayB r)) ∧ _) at HY
  have hgood := leafP_good p
  unfold putO
  cases hb : isPg p with
  | false =>
    rw [if_pos rfl]
    rw [hb] at HT
    generalize Pg.slotAt (leafP p).recs i = q at HA
    generalize (!decide (q.size = 0)) = b at HA
    generalize leafP p = x at HT
    clear hgood hb HY
    go_enter Tryz.func29, Tryz.ntmps29
    go_wp2_with (first | (go_at_call 41; refine (HT.out _).mono ?_; rintro e w1 ⟨y0, A, c, rfl, hcl, hb1⟩) | (go_at_call 28; refine (HA.out _).mono ?_; rintro e w2 ⟨rfl, hb2⟩))
    go_ret2
    exact ⟨rfl, andThen hb1 (below_past hb2)⟩
  | true =>
    rw [hb] at HT
    rw [if_neg (by simp)]
    clear hb
    by_cases h1 : i < 0
    · rw [if_pos h1]
      generalize Pg.slotAt (leafP p).recs i = q at HA
      generalize (!decide (q.size = 0)) = b at HA
      generalize leafP p = x at HT
      clear hgood HY
      go_enter Tryz.func29, Tryz.ntmps29
      go_wp2_with (first | (go_at_call 41; refine (HT.out _).mono ?_; rintro e w1 ⟨y0, A, c, rfl, hcl, hb1⟩; obtain ⟨hy, hco⟩ := hcl rfl; clear hcl; subst hy) | (go_at_call 28; refine (HA.out _).mono ?_; rintro e w2 ⟨rfl, hb2⟩; obtain ⟨c0, c1, c2, c3, f0, f1, f2, f3⟩ := blk4 (blk_new hb2); have hlt : w1.heap.size < w2.heap.size := (by have := hb2.size; simp at this; omega)))
      go_ret2
      exact ⟨rfl, andThen hb1 (below_past hb2)⟩
    · rw [if_neg h1]
      obtain ⟨k, rfl⟩ := Int.eq_ofNat_of_zero_le (show 0 ≤ i by omega)
      have hk0 : (0 : Int) ≤ (k : Int) := by omega
      clear h1
      rw [show ((k : Int)).toNat = k from rfl]
      by_cases h2 : (Pg.slotAt (leafP p).recs (k : Int)).size ≠ 0
      · rw [if_pos h2]
        rw [decide_eq_false h2] at HA
        clear h2
        generalize Pg.slotAt (leafP p).recs (k : Int) = q at HA
        generalize leafP p = x at HT
        clear hgood HY
        go_enter Tryz.func29, Tryz.ntmps29
        go_wp2_with (first | (go_at_call 41; refine (HT.out _).mono ?_; rintro e w1 ⟨y0, A, c, rfl, hcl, hb1⟩; obtain ⟨hy, hco⟩ := hcl rfl; clear hcl; subst hy) | (go_at_call 28; refine (HA.out _).mono ?_; rintro e w2 ⟨rfl, hb2⟩; obtain ⟨c0, c1, c2, c3, f0, f1, f2, f3⟩ := blk4 (blk_new hb2); have hlt : w1.heap.size < w2.heap.size := (by have := hb2.size; simp at this; omega)))
        go_ret2
        exact ⟨rfl, andThen hb1 (below_past hb2)⟩
      · rw [if_neg h2]
        rw [decide_eq_true (Decidable.not_not.1 h2)] at HA
        clear h2
        generalize Pg.slotAt (leafP p).recs (k : Int) = q at HA
        cases hy : mayB r with
        | false =>
          rw [if_pos rfl]
          rw [hy] at HY
          generalize leafP p = x at HT
          clear hgood hy
          go_enter Tryz.func29, Tryz.ntmps29
          go_wp2_with (first | (go_at_call 41; refine (HT.out _).mono ?_; rintro e w1 ⟨y0, A, c, rfl, hcl, hb1⟩; obtain ⟨hy, hco⟩ := hcl rfl; clear hcl; subst hy) | (go_at_call 28; refine (HA.out _).mono ?_; rintro e w2 ⟨rfl, hb2⟩; obtain ⟨c0, c1, c2, c3, f0, f1, f2, f3⟩ := blk4 (blk_new hb2); have hlt : w1.heap.size < w2.heap.size := (by have := hb2.size; simp at this; omega)) | (go_at_call 59; refine (HY.out _).mono ?_; rintro e w3 ⟨rfl, rfl⟩))
          go_ret2
          exact ⟨rfl, andThen hb1 (below_past hb2)⟩
        | true =>
          rw [if_neg (by simp)]
          rw [hy] at HY
          obtain ⟨hr1, hr2⟩ := mayB_yes hy
          clear hy
          by_cases h5 : (512 : Int) < (k : Int)
          · rw [if_pos h5]
            have HW := Lib.hid (fun A c n W => rwith_far A c n (k : Int) r h5 W)
            generalize leafP p = x at HT
            clear hgood
            go_enter Tryz.func29, Tryz.ntmps29
            go_wp2_with (first | (go_at_call 41; refine (HT.out _).mono ?_; rintro e w1 ⟨y0, A, c, rfl, hcl, hb1⟩; obtain ⟨hy, hco⟩ := hcl rfl; clear hcl; subst hy) | (go_at_call 28; refine (HA.out _).mono ?_; rintro e w2 ⟨rfl, hb2⟩; obtain ⟨c0, c1, c2, c3, f0, f1, f2, f3⟩ := blk4 (blk_new hb2); have hlt : w1.heap.size < w2.heap.size := (by have := hb2.size; simp at this; omega)) | (go_at_call 59; refine (HY.out _).mono ?_; rintro e w3 ⟨rfl, rfl⟩) | (go_at_call 60; refine (HW.out _ _ _ _).mono ?_; rintro e w4 ⟨rfl, rfl⟩))
            go_ret2
            exact ⟨rfl, andThen hb1 (below_past hb2)⟩
          · rw [if_neg h5]
            have hln := hgood.fine.len
            have hsm := hgood.fine.sum
            have hps := Pg.putAt_size (leafP p).recs k r
            have HW := Lib.hid (fun A c W hW => rwith_any (leafP p).recs A c k r (by omega) (by omega) W hW)
            have HU := Lib.hid (fun A c W hW => laid_any (withRecs p (Pg.putAt (leafP p).recs k r)) A c (withRecs_small p _) (by show Pg.sizeN (Pg.putAt _ _ _) ≤ _; omega) (.inr ((Pg.trim_tight _).2 (Pg.putAt_tight hgood.tight k (by omega)))) W hW)
            generalize Pg.fullO (withRecs p (Pg.putAt (leafP p).recs k r)) = o at HU ⊢
            change Hid (∀ A c W, Cells W A c (Pg.putAt (leafP p).recs k r) → Calls _ _ #[.agg #[.int .i64 (leafP p).lsn, .int .i64 (leafP p).kind, .int .i64 (leafP p).link, .slice A (Pg.putAt (leafP p).recs k r).length c]] _ _) at HU
            clear hps hln hsm hgood
            generalize Pg.putAt (leafP p).recs k r = rs at HW HU
            generalize leafP p = x at HT HW HU
            go_enter Tryz.func29, Tryz.ntmps29
            go_wp2_with (first | (go_at_call 41; refine (HT.out _).mono ?_; rintro e w1 ⟨y0, A, c, rfl, hcl, hb1⟩; obtain ⟨hy, hco⟩ := hcl rfl; clear hcl; subst hy) | (go_at_call 28; refine (HA.out _).mono ?_; rintro e w2 ⟨rfl, hb2⟩; obtain ⟨c0, c1, c2, c3, f0, f1, f2, f3⟩ := blk4 (blk_new hb2); have hlt : w1.heap.size < w2.heap.size := (by have := hb2.size; simp at this; omega)) | (go_at_call 59; refine (HY.out _).mono ?_; rintro e w3 ⟨rfl, rfl⟩) | (go_at_call 60; refine (HW.out _ _ _ (hco.cells.below (below_past hb2))).mono ?_; rintro e w4 ⟨A', c', rfl, ho4, hb4⟩; obtain ⟨d0, d1, d2, d3, g0, g1, g2, g3⟩ := blk4 (blk_old (blk_new hb2) hb4)) | (go_at_call 61; refine (HU.out _ _ _ (OwnCells.set ho4 _ hlt _).cells).mono ?_; rintro e w5 ⟨rfl, hb5⟩))
            go_ret2
            exact ⟨rfl, andThen ((andThen (andThen hb1 (below_past hb2)) hb4).setCell hb1.size _) hb5⟩
set_option maxRecDepth 100000 in
set_option maxHeartbeats 2000000 in
theorem rpcut_any (p : ByteArray) (i : Int) (hm : p.size ≤ 140737488355328) (w : World) :
    Calls Tryz.prog 30 #[.string p, .int .i64 i] w fun e w' => e = .returned (outV (cutO p i)) ∧ Below w.heap.size w w' := by
  have HT := Lib.hid (fun W => rparts_leaf p hm W)
  have HA := Lib.hid (fun W => rget_any_rec p i hm W)
  have hgood := leafP_good p
  unfold cutO
  cases hb : isPg p with
  | false =>
    rw [if_pos rfl]
    rw [hb] at HT
    generalize leafP p = x at HT
    clear hgood hb HA
    go_enter Tryz.func30, Tryz.ntmps30
    go_wp2_with (first | (go_at_call 41; refine (HT.out _).mono ?_; rintro e w1 ⟨y0, A, c, rfl, hcl, hb1⟩))
    go_ret2
    exact ⟨rfl, below_past_alloc hb1⟩
  | true =>
    rw [hb] at HT
    rw [if_neg (by simp)]
    clear hb
    by_cases h2 : (Pg.slotAt (leafP p).recs i).size = 0
    · rw [if_pos h2]
      rw [decide_eq_true h2] at HA
      generalize Pg.slotAt (leafP p).recs i = q at HA
      generalize leafP p = x at HT
      clear hgood h2
      go_enter Tryz.func30, Tryz.ntmps30
      go_wp2_with (first | (go_at_call 41; refine (HT.out _).mono ?_; rintro e w1 ⟨y0, A, c, rfl, hcl, hb1⟩; obtain ⟨hy, hco⟩ := hcl rfl; clear hcl; subst hy) | (go_at_call 28; refine (HA.out _).mono ?_; rintro e w2 ⟨rfl, hb2⟩; obtain ⟨c0, c1, c2, c3, f0, f1, f2, f3⟩ := blk4 (blk_new hb2); have hlt : w1.heap.size < w2.heap.size := (by have := hb2.size; simp at this; omega)))
      go_ret2
      exact ⟨rfl, andThen hb1 (below_past hb2)⟩
    · rw [if_neg h2]
      obtain ⟨hi0, hi1⟩ := Pg.slotAt_lt h2
      rw [decide_eq_false h2] at HA
      clear h2
      generalize Pg.slotAt (leafP p).recs i = q at HA
      obtain ⟨k, rfl⟩ := Int.eq_ofNat_of_zero_le hi0
      rw [show ((k : Int)).toNat = k from rfl]
      have hz : (⟨#[]⟩ : ByteArray).size = 0 := rfl
      have hln := hgood.fine.len
      have hsm := hgood.fine.sum
      have hps := Pg.putAt_size (leafP p).recs k ⟨#[]⟩
      have HW := Lib.hid (fun A c W hW => rwith_any (leafP p).recs A c k ⟨#[]⟩ (by omega) (by omega) W hW)
      have HU := Lib.hid (fun A c W hW => laid_any (withRecs p (Pg.putAt (leafP p).recs k ⟨#[]⟩)) A c (withRecs_small p _) (by show Pg.sizeN (Pg.putAt _ _ _) ≤ _; omega) (.inl (Nat.le_trans (Pg.cutAt_size (by omega)) hgood.fits)) W hW)
      generalize Pg.fullO (withRecs p (Pg.putAt (leafP p).recs k ⟨#[]⟩)) = o at HU ⊢
      change Hid (∀ A c W, Cells W A c (Pg.putAt (leafP p).recs k ⟨#[]⟩) → Calls _ _ #[.agg #[.int .i64 (leafP p).lsn, .int .i64 (leafP p).kind, .int .i64 (leafP p).link, .slice A (Pg.putAt (leafP p).recs k ⟨#[]⟩).length c]] _ _) at HU
      clear hps hln hsm hgood
      generalize Pg.putAt (leafP p).recs k ⟨#[]⟩ = rs at HW HU
      generalize leafP p = x at HT HW HU
      go_enter Tryz.func30, Tryz.ntmps30
      go_wp2_with (first | (go_at_call 41; refine (HT.out _).mono ?_; rintro e w1 ⟨y0, A, c, rfl, hcl, hb1⟩; obtain ⟨hy, hco⟩ := hcl rfl; clear hcl; subst hy) | (go_at_call 28; refine (HA.out _).mono ?_; rintro e w2 ⟨rfl, hb2⟩; obtain ⟨c0, c1, c2, c3, f0, f1, f2, f3⟩ := blk4 (blk_new hb2); have hlt : w1.heap.size < w2.heap.size := (by have := hb2.size; simp at this; omega)) | (go_at_call 60; refine (HW.out _ _ _ (hco.cells.below (below_past hb2))).mono ?_; rintro e w4 ⟨A', c', rfl, ho4, hb4⟩; obtain ⟨d0, d1, d2, d3, g0, g1, g2, g3⟩ := blk4 (blk_old (blk_new hb2) hb4)) | (go_at_call 61; refine (HU.out _ _ _ (OwnCells.set ho4 _ hlt _).cells).mono ?_; rintro e w5 ⟨rfl, hb5⟩))
      go_ret2
      exact ⟨rfl, andThen ((andThen (andThen hb1 (below_past hb2)) hb4).setCell hb1.size _) hb5⟩
set_option maxRecDepth 100000 in
set_option maxHeartbeats 2000000 in
theorem rpset_any (p : ByteArray) (i : Int) (r : ByteArray) (hm : p.size ≤ 140737488355328) (w : World) :
    Calls Tryz.prog 31 #[.string p, .int .i64 i, .string r] w fun e w' => e = .returned (outV (setO p i r)) ∧ Below w.heap.size w w' := by
  have HT := Lib.hid (fun W => rparts_leaf p hm W)
  have HA := Lib.hid (fun W => rget_any_rec p i hm W)
  have HY := Lib.hid (fun W => rmay_any r W)
  change Hid (∀ W, Calls _ _ _ _ fun e w' => e = .returned (.bool (mayB r)) ∧ _) at HY
  have hgood := leafP_good p
  unfold setO
  cases hb : isPg p with
  | false =>
    rw [if_pos rfl]
    rw [hb] at HT
    generalize leafP p = x at HT
    clear hgood hb HA HY
    go_enter Tryz.func31, Tryz.ntmps31
    go_wp2_with (first | (go_at_call 41; refine (HT.out _).mono ?_; rintro e w1 ⟨y0, A, c, rfl, hcl, hb1⟩))
    go_ret2
    exact ⟨rfl, below_past_alloc hb1⟩
  | true =>
    rw [hb] at HT
    rw [if_neg (by simp)]
    clear hb
    cases hy : mayB r with
    | false =>
      rw [if_pos rfl]
      rw [hy] at HY
      generalize leafP p = x at HT
      clear hgood hy HA
      go_enter Tryz.func31, Tryz.ntmps31
      go_wp2_with (first | (go_at_call 41; refine (HT.out _).mono ?_; rintro e w1 ⟨y0, A, c, rfl, hcl, hb1⟩; obtain ⟨hy, hco⟩ := hcl rfl; clear hcl; subst hy) | (go_at_call 59; refine (HY.out _).mono ?_; rintro e w3 ⟨rfl, rfl⟩))
      go_ret2
      exact ⟨rfl, below_past_alloc hb1⟩
    | true =>
      rw [if_neg (by simp)]
      rw [hy] at HY
      obtain ⟨hr1, hr2⟩ := mayB_yes hy
      clear hy
      by_cases h2 : (Pg.slotAt (leafP p).recs i).size = 0
      · rw [if_pos h2]
        rw [decide_eq_true h2] at HA
        generalize Pg.slotAt (leafP p).recs i = q at HA
        generalize leafP p = x at HT
        clear hgood h2
        go_enter Tryz.func31, Tryz.ntmps31
        go_wp2_with (first | (go_at_call 41; refine (HT.out _).mono ?_; rintro e w1 ⟨y0, A, c, rfl, hcl, hb1⟩; obtain ⟨hy, hco⟩ := hcl rfl; clear hcl; subst hy) | (go_at_call 59; refine (HY.out _).mono ?_; rintro e w3 ⟨rfl, rfl⟩) | (go_at_call 28; refine (HA.out _).mono ?_; rintro e w2 ⟨rfl, hb2⟩; obtain ⟨c0, c1, c2, c3, f0, f1, f2, f3⟩ := blk4 (blk_new hb2); have hlt : w1.heap.size < w2.heap.size := (by have := hb2.size; simp at this; omega)))
        go_ret2
        exact ⟨rfl, andThen hb1 (below_past hb2)⟩
      · rw [if_neg h2]
        obtain ⟨hi0, hi1⟩ := Pg.slotAt_lt h2
        rw [decide_eq_false h2] at HA
        clear h2
        generalize Pg.slotAt (leafP p).recs i = q at HA
        obtain ⟨k, rfl⟩ := Int.eq_ofNat_of_zero_le hi0
        rw [show ((k : Int)).toNat = k from rfl]
        have hln := hgood.fine.len
        have hsm := hgood.fine.sum
        have hps := Pg.putAt_size (leafP p).recs k r
        have HW := Lib.hid (fun A c W hW => rwith_any (leafP p).recs A c k r (by omega) (by omega) W hW)
        have HU := Lib.hid (fun A c W hW => laid_any (withRecs p (Pg.putAt (leafP p).recs k r)) A c (withRecs_small p _) (by show Pg.sizeN (Pg.putAt _ _ _) ≤ _; omega) (.inr ((Pg.trim_tight _).2 (Pg.putAt_tight hgood.tight k (by omega)))) W hW)
        generalize Pg.fullO (withRecs p (Pg.putAt (leafP p).recs k r)) = o at HU ⊢
        change Hid (∀ A c W, Cells W A c (Pg.putAt (leafP p).recs k r) → Calls _ _ #[.agg #[.int .i64 (leafP p).lsn, .int .i64 (leafP p).kind, .int .i64 (leafP p).link, .slice A (Pg.putAt (leafP p).recs k r).length c]] _ _) at HU
        clear hps hln hsm hgood
        generalize Pg.putAt (leafP p).recs k r = rs at HW HU
        generalize leafP p = x at HT HW HU
        go_enter Tryz.func31, Tryz.ntmps31
        go_wp2_with (first | (go_at_call 41; refine (HT.out _).mono ?_; rintro e w1 ⟨y0, A, c, rfl, hcl, hb1⟩; obtain ⟨hy, hco⟩ := hcl rfl; clear hcl; subst hy) | (go_at_call 59; refine (HY.out _).mono ?_; rintro e w3 ⟨rfl, rfl⟩) | (go_at_call 28; refine (HA.out _).mono ?_; rintro e w2 ⟨rfl, hb2⟩; obtain ⟨c0, c1, c2, c3, f0, f1, f2, f3⟩ := blk4 (blk_new hb2); have hlt : w1.heap.size < w2.heap.size := (by have := hb2.size; simp at this; omega)) | (go_at_call 60; refine (HW.out _ _ _ (hco.cells.below (below_past hb2))).mono ?_; rintro e w4 ⟨A', c', rfl, ho4, hb4⟩; obtain ⟨d0, d1, d2, d3, g0, g1, g2, g3⟩ := blk4 (blk_old (blk_new hb2) hb4)) | (go_at_call 61; refine (HU.out _ _ _ (OwnCells.set ho4 _ hlt _).cells).mono ?_; rintro e w5 ⟨rfl, hb5⟩))
        go_ret2
        exact ⟨rfl, andThen ((andThen (andThen hb1 (below_past hb2)) hb4).setCell hb1.size _) hb5⟩
end Go.Proofs.YtkndifannjpbcaaGreatDoor
