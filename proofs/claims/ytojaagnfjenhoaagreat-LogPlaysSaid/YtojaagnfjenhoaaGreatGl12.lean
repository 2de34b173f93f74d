/- The walks over the reference of records: its reader's changes. -/
import Derived.Test.YtojaagnfjenhoaaGreatGl11
import Derived.Test.YtojaagnfjenhoaaGreatGl04
import Derived.Test.YtojaagnfjenhoaaGreatGl05
namespace Rc
theorem numM_f {l : List UInt8} {st st' : St} {k : Nat} {n : Int} (h : numM false l st k = (n, st')) (ha : st.at_ ≤ l.length) : st'.at_ ≤ l.length := by
  unfold numM at h
  split at h
  · injection h with _ h; rw [← h]; assumption
  · injection h with _ h; rw [← h]; exact ha
theorem textM_f {l : List UInt8} {st st' : St} {t : ByteArray} (h : textM l st = (t, st')) (ha : st.at_ ≤ l.length) : st'.at_ ≤ l.length := by
  unfold textM at h
  split at h
  · injection h with _ h; rw [← h]; assumption
  · injection h with _ h; rw [← h]; exact ha
end Rc
namespace Go.Proofs.YtojaagnfjenhoaaGreat
open Go.RowKit
theorem KeptB.step {B b : Nat} {w u v : World} (h : KeptB B b w u) (_hB : B ≤ u.heap.size) (hb : Below B u v) : KeptB B b w v :=
  h.trans ⟨hb.os, hb.tape, hb.output, hb.size, fun k hk _ => hb.block k hk⟩
/-- The reader's box, and the boxes of the call, each at its place. -/
structure Ri (w : World) (b : Nat) (s : ByteArray) (st : Rc.St) (l : List (Nat × Array Value × TypeId)) (u : World) : Prop where
  rd : u.heap[b]? = some (.cells (iC s st.at_ st.bad) 140 (0, 0))
  bw : b < w.heap.size
  kept : KeptB w.heap.size b w u
  box : ∀ (i : Nat) (p : Nat × Array Value × TypeId), l[i]? = some p → u.heap[p.1]? = some (.cells p.2.1 p.2.2 (0, 0)) ∧ w.heap.size ≤ p.1
  dis : ∀ (i j : Nat) (p q : Nat × Array Value × TypeId), l[i]? = some p → l[j]? = some q → i ≠ j → p.1 ≠ q.1
section
variable {w u v : World} {b : Nat} {s : ByteArray} {st st' : Rc.St} {l : List (Nat × Array Value × TypeId)}
theorem Ri.start (hb : w.heap[b]? = some (.cells (iC s st.at_ st.bad) 140 (0, 0))) : Ri w b s st [] w :=
  ⟨hb, heapLt hb, KeptB.refl _ _ _, fun i p h => by simp at h, fun i j p q h => by simp at h⟩
theorem Ri.get0 {g : Nat} {cs : Array Value} {T : TypeId} (h : Ri w b s st ((g, cs, T) :: l) u) : u.heap[g]? = some (.cells cs T (0, 0)) := (h.box 0 _ rfl).1
theorem Ri.get1 {g : Nat} {cs : Array Value} {T : TypeId} {p : Nat × Array Value × TypeId} (h : Ri w b s st (p :: (g, cs, T) :: l) u) : u.heap[g]? = some (.cells cs T (0, 0)) := (h.box 1 _ rfl).1
theorem Ri.turn (h : Ri w b s st l u) (hr : v.heap[b]? = some (.cells (iC s st'.at_ st'.bad) 140 (0, 0))) (hk : KeptB u.heap.size b u v) : Ri w b s st' l v := by
  refine ⟨hr, h.bw, h.kept.trans ⟨hk.os, hk.tape, hk.output, hk.size, fun k h1 h2 => hk.block k (Nat.lt_of_lt_of_le h1 h.kept.size) h2⟩, fun i p hp => ?_, h.dis⟩
  obtain ⟨h1, h2⟩ := h.box i p hp
  have := h.bw
  exact ⟨(hk.block _ (heapLt h1) (by omega)).trans h1, h2⟩
theorem Ri.step (h : Ri w b s st l u) (hb : Below u.heap.size u v) : Ri w b s st l v :=
  h.turn (blkOld h.rd hb) ⟨hb.os, hb.tape, hb.output, hb.size, fun k hk _ => hb.block k hk⟩
theorem Ri.alloc (h : Ri w b s st l u) (cs : Array Value) (T : TypeId) : Ri w b s st (l ++ [(u.heap.size, cs, T)]) (u.alloc (.cells cs T)) := by
  have h1 := h.step (allocB u (.cells cs T))
  have hs := h.kept.size
  have old : ∀ (i : Nat) (p : Nat × Array Value × TypeId), (l ++ [(u.heap.size, cs, T)])[i]? = some p → (l[i]? = some p ∧ p.1 < u.heap.size) ∨ (i = l.length ∧ p = (u.heap.size, cs, T)) := fun i p hp => by
    by_cases hi : i < l.length
    · rw [List.getElem?_append_left hi] at hp
      exact .inl ⟨hp, heapLt (h.box i p hp).1⟩
    · rw [List.getElem?_append_right (by omega)] at hp
      have h0 : i - l.length = 0 := by
        have := (List.getElem?_eq_some_iff.1 hp).1
        simpa using this
      rw [h0] at hp
      simp only [List.getElem?_cons_zero, Option.some.injEq] at hp
      exact .inr ⟨by omega, hp.symm⟩
  refine ⟨h1.rd, h1.bw, h1.kept, fun i p hp => ?_, fun i j p q hp hq hij => ?_⟩
  · rcases old i p hp with ⟨h2, _⟩ | ⟨_, rfl⟩
    · exact h1.box i p h2
    · exact ⟨heap_alloc_new u _, hs⟩
  · rcases old i p hp with ⟨h2, h3⟩ | ⟨h2, rfl⟩
    · rcases old j q hq with ⟨h4, h5⟩ | ⟨h4, rfl⟩
      · exact h.dis i j p q h2 h4 hij
      · show p.1 ≠ u.heap.size; omega
    · rcases old j q hq with ⟨h4, h5⟩ | ⟨h4, rfl⟩
      · show u.heap.size ≠ q.1; omega
      · omega
theorem Ri.row (h : Ri w b s st l u) (i : Nat) (cs : Array Value) (p : Nat × Array Value × TypeId) (hi : l[i]? = some p) : Ri w b s st (l.set i (p.1, cs, p.2.2)) (u.setRow p.1 cs) := by
  have hil := (List.getElem?_eq_some_iff.1 hi).1
  obtain ⟨h1, h2⟩ := h.box i p hi
  have hbw := h.bw
  have hs := h.kept.size
  have hB : Below w.heap.size u (u.setRow p.1 cs) := ⟨rfl, rfl, rfl, by show _ ≤ (u.heap.modify _ _).size; simp, fun k hk => heap_setRow_other _ _ _ _ (by omega)⟩
  refine ⟨(heap_setRow_other _ _ _ _ (by omega)).trans h.rd, hbw, h.kept.step hs hB, fun j q hq => ?_, fun j k q r hq hr hjk => ?_⟩
  · by_cases hij : i = j
    · subst hij
      rw [List.getElem?_set_self hil] at hq
      injection hq with hq
      subst hq
      exact ⟨setRow_heap _ _ _ _ _ _ h1, h2⟩
    · rw [List.getElem?_set_ne hij] at hq
      obtain ⟨h3, h4⟩ := h.box j q hq
      exact ⟨(heap_setRow_other _ _ _ _ (h.dis j i q p hq hi (fun e => hij e.symm))).trans h3, h4⟩
  · have same : ∀ (j : Nat) (q : Nat × Array Value × TypeId), (l.set i (p.1, cs, p.2.2))[j]? = some q → ∃ q', l[j]? = some q' ∧ q'.1 = q.1 := fun j q hq => by
      by_cases hij : i = j
      · subst hij
        rw [List.getElem?_set_self hil] at hq
        injection hq with hq
        exact ⟨p, hi, by rw [← hq]⟩
      · rw [List.getElem?_set_ne hij] at hq
        exact ⟨q, hq, rfl⟩
    obtain ⟨q', hq1, hq2⟩ := same j q hq
    obtain ⟨r', hr1, hr2⟩ := same k r hr
    rw [← hq2, ← hr2]
    exact h.dis j k q' r' hq1 hr1 hjk
theorem Ri.set (h : Ri w b s st l u) (i j : Nat) (x : Value) (p : Nat × Array Value × TypeId) (hi : l[i]? = some p) : Ri w b s st (l.set i (p.1, p.2.1.setIfInBounds j x, p.2.2)) (u.setCell ⟨p.1, j, none⟩ x) := by
  rw [setCell_eq_setRow u p.1 j _ _ _ x (h.box i p hi).1]
  exact h.row i _ p hi
theorem Ri.num {n : Int} (h : Ri w b s st l u) (k : Nat) (h1 : 1 ≤ k) (h6 : k ≤ 6) (hn : Rc.numM false s.data.toList st k = (n, st')) (hm : s.size ≤ 1000000) (ha : st.at_ ≤ s.size) :
    Calls Tryz.prog 95 #[.pointer (some ⟨b, 0, none⟩), .int .i64 (k : Int)] u fun e v => e = .returned (.int .i64 n) ∧ Ri w b s st' l v := by
  refine (inum_any b s st k h1 h6 (by omega) (by omega) u h.rd).mono ?_
  rintro e v ⟨rfl, h2, h3⟩
  rw [hn] at h2 ⊢
  exact ⟨rfl, h.turn h2 h3⟩
theorem Ri.num1 {n : Int} (h : Ri w b s st l u) (hn : Rc.numM false s.data.toList st 1 = (n, st')) (hm : s.size ≤ 1000000) (ha : st.at_ ≤ s.size) :
    Calls Tryz.prog 95 #[.pointer (some ⟨b, 0, none⟩), .int .i64 1] u fun e v => e = .returned (.int .i64 n) ∧ Ri w b s st' l v := h.num 1 (by omega) (by omega) hn hm ha
theorem Ri.num2 {n : Int} (h : Ri w b s st l u) (hn : Rc.numM false s.data.toList st 2 = (n, st')) (hm : s.size ≤ 1000000) (ha : st.at_ ≤ s.size) :
    Calls Tryz.prog 95 #[.pointer (some ⟨b, 0, none⟩), .int .i64 2] u fun e v => e = .returned (.int .i64 n) ∧ Ri w b s st' l v := h.num 2 (by omega) (by omega) hn hm ha
theorem Ri.num3 {n : Int} (h : Ri w b s st l u) (hn : Rc.numM false s.data.toList st 3 = (n, st')) (hm : s.size ≤ 1000000) (ha : st.at_ ≤ s.size) :
    Calls Tryz.prog 95 #[.pointer (some ⟨b, 0, none⟩), .int .i64 3] u fun e v => e = .returned (.int .i64 n) ∧ Ri w b s st' l v := h.num 3 (by omega) (by omega) hn hm ha
theorem Ri.num6 {n : Int} (h : Ri w b s st l u) (hn : Rc.numM false s.data.toList st 6 = (n, st')) (hm : s.size ≤ 1000000) (ha : st.at_ ≤ s.size) :
    Calls Tryz.prog 95 #[.pointer (some ⟨b, 0, none⟩), .int .i64 6] u fun e v => e = .returned (.int .i64 n) ∧ Ri w b s st' l v := h.num 6 (by omega) (by omega) hn hm ha
theorem Ri.text {t : ByteArray} (h : Ri w b s st l u) (hn : Rc.textM s.data.toList st = (t, st')) (hm : s.size ≤ 1000000) (ha : st.at_ ≤ s.size) :
    Calls Tryz.prog 113 #[.pointer (some ⟨b, 0, none⟩)] u fun e v => e = .returned (.string t) ∧ Ri w b s st' l v := by
  refine (itext_any b s st (by omega) (by omega) u h.rd).mono ?_
  rintro e v ⟨rfl, h2, h3⟩
  rw [hn] at h2 ⊢
  exact ⟨rfl, h.turn h2 h3⟩
end
def IOpOut (s : ByteArray) (y : Rc.Op × Rc.St) (b : Nat) (w : World) (e : Ending) (w' : World) : Prop :=
  e = .returned (opV y.1) ∧ w'.heap[b]? = some (.cells (iC s y.2.at_ y.2.bad) 140 (0, 0)) ∧ KeptB w.heap.size b w w'
set_option maxRecDepth 100000 in
set_option maxHeartbeats 4000000 in
theorem iop_any (b : Nat) (s : ByteArray) (x : Rc.St) (hm : s.size ≤ 1000000) (ha : x.at_ ≤ s.size) (w : World) (hb : w.heap[b]? = some (.cells (iC s x.at_ x.bad) 140 (0, 0))) :
    Calls Tryz.prog 97 #[.pointer (some ⟨b, 0, none⟩)] w (IOpOut s (Rc.opM false s.data.toList x) b w) := by
  have hl : s.data.toList.length = s.size := by simp
  rcases h0 : Rc.numM false s.data.toList x 1 with ⟨k, s1⟩
  have a1 := Rc.numM_f h0 (by omega)
  rcases h1 : Rc.numM false s.data.toList s1 2 with ⟨sl, s2⟩
  have a2 := Rc.numM_f h1 a1
  rcases h2 : Rc.textM s.data.toList s2 with ⟨oo, s3⟩
  have a3 := Rc.textM_f h2 a2
  rcases h3 : Rc.textM s.data.toList s3 with ⟨on, s4⟩
  have e0 : Rc.opM false s.data.toList x = (⟨k, sl, oo, on⟩, s4) := by unfold Rc.opM; simp only [h0, h1, h2, h3]
  rw [e0]
  have C0 := Lib.hid (fun l u (hu : Ri w b s x l u) => hu.num1 h0 hm ha)
  have C1 := Lib.hid (fun l u (hu : Ri w b s s1 l u) => hu.num2 h1 hm (by omega))
  have C2 := Lib.hid (fun l u (hu : Ri w b s s2 l u) => hu.text h2 hm (by omega))
  have C3 := Lib.hid (fun l u (hu : Ri w b s s3 l u) => hu.text h3 hm (by omega))
  have H0 := Lib.hid ((Ri.start hb).alloc #[.int .i64 0, .int .i64 0, .string ⟨#[]⟩, .string ⟨#[]⟩] 34)
  clear h0 h1 h2 h3 a1 a2 a3 e0 hb
  go_enter Tryz.func97, Tryz.ntmps97
  go_upto_region 1 with fail
  obtain ⟨gr, hgr⟩ : ∃ g, g = w.heap.size := ⟨_, rfl⟩
  obtain ⟨W0, hW0⟩ : ∃ W, W = w.alloc (.cells #[.int .i64 0, .int .i64 0, .string ⟨#[]⟩, .string ⟨#[]⟩] 34) := ⟨_, rfl⟩
  rw [← hgr, ← hW0] at H0
  rw [← hgr, ← hW0]
  clear hgr hW0
  go_upto_region 2 with (first
    | (go_at_call 95; (with_reducible refine (C0.out _ _ H0.out).mono ?_); rintro e v1 ⟨rfl, h⟩; have H1 := Lib.hid h; clear h)
    | (go_at_call 95; (with_reducible refine (C1.out _ _ H1.out).mono ?_); rintro e v2 ⟨rfl, h⟩; have H2 := Lib.hid h; clear h)
    | (with_reducible refine wpList_store_new rfl 34 (.tmp 3) (.tmp 8) rfl #[.int .i64 k, .int .i64 sl, .string ⟨#[]⟩, .string ⟨#[]⟩] _ _ rfl (by kernel_rfl) (by kernel_rfl) (by kernel_rfl) (by kernel_rfl) ?_))
  have H3 := Lib.hid (H2.out.alloc #[.int .i64 k, .int .i64 sl, .string ⟨#[]⟩, .string ⟨#[]⟩] 34)
  obtain ⟨gx, hgx⟩ : ∃ g, g = v2.heap.size := ⟨_, rfl⟩
  obtain ⟨W3, hW3⟩ : ∃ W, W = v2.alloc (.cells #[.int .i64 k, .int .i64 sl, .string ⟨#[]⟩, .string ⟨#[]⟩] 34) := ⟨_, rfl⟩
  rw [← hgx, ← hW3] at H3
  rw [← hgx, ← hW3]
  clear hgx hW3 H0 H1 H2 C0 C1
  go_upto_region 3 with (go_at_call 113; (with_reducible refine (C2.out _ _ H3.out).mono ?_); rintro e v4 ⟨rfl, h⟩; have H4 := Lib.hid h; have hc4 := blkCell h.get1; have hz4 := blkFrozen h.get1; clear h)
  have H5 := Lib.hid (show Ri w b s s3 [(gr, #[.int .i64 0, .int .i64 0, .string ⟨#[]⟩, .string ⟨#[]⟩], 34), (gx, #[.int .i64 k, .int .i64 sl, .string oo, .string ⟨#[]⟩], 34)] (v4.setCell ⟨gx, 2, none⟩ (.string oo)) from by have h := H4.out.set 1 2 (.string oo) _ rfl; simpa using h)
  obtain ⟨W5, hW5⟩ : ∃ W, W = v4.setCell ⟨gx, 2, none⟩ (.string oo) := ⟨_, rfl⟩
  rw [← hW5] at H5
  rw [← hW5]
  clear hW5 H3 H4 hc4 hz4 C2
  go_upto_region 4 with (go_at_call 113; (with_reducible refine (C3.out _ _ H5.out).mono ?_); rintro e v6 ⟨rfl, h⟩; have H6 := Lib.hid h; have hc6 := blkCell h.get1; have hz6 := blkFrozen h.get1; clear h)
  have H7 := Lib.hid (show Ri w b s s4 [(gr, #[.int .i64 0, .int .i64 0, .string ⟨#[]⟩, .string ⟨#[]⟩], 34), (gx, #[.int .i64 k, .int .i64 sl, .string oo, .string on], 34)] (v6.setCell ⟨gx, 3, none⟩ (.string on)) from by have h := H6.out.set 1 3 (.string on) _ rfl; simpa using h)
  obtain ⟨W7, hW7⟩ : ∃ W, W = v6.setCell ⟨gx, 3, none⟩ (.string on) := ⟨_, rfl⟩
  rw [← hW7] at H7
  rw [← hW7]
  clear hW7 H5 H6 hc6 hz6 C3
  go_wp2_with (first
    | (with_reducible refine listLoad (by kernel_rfl) 34 (.tmp 3) rfl gx rfl #[.int .i64 k, .int .i64 sl, .string oo, .string on] _ H7.out.get1 _ Tryz.underlying34 (by kernel_rfl) (by kernel_rfl) ?_)
    | (with_reducible refine listStore (by kernel_rfl) 34 (.tmp 2) (.tmp 15) rfl gr #[.int .i64 k, .int .i64 sl, .string oo, .string on] _ _ rfl rfl H7.out.get0 (by kernel_rfl) (by kernel_rfl) (by kernel_rfl) ?_))
  refine bodyPost_ret (v := .agg #[.int .i64 k, .int .i64 sl, .string oo, .string on]) (results_cell rfl _ _ rfl (load_whole (setRow_heap _ _ _ _ _ _ H7.out.get0) Tryz.underlying34 (by kernel_rfl) (by kernel_rfl))) rfl ?_
  have h8 := H7.out.row 0 #[.int .i64 k, .int .i64 sl, .string oo, .string on] _ rfl
  exact ⟨rfl, h8.rd, h8.kept⟩
end Go.Proofs.YtojaagnfjenhoaaGreat
/- The walk over the reference of records: its reader's fields of a change. -/
namespace Rc
theorem opM_f {l : List UInt8} {st st' : St} {o : Op} (h : opM false l st = (o, st')) (ha : st.at_ ≤ l.length) : st'.at_ ≤ l.length := by
  unfold opM at h
  rcases h0 : numM false l st 1 with ⟨k, s1⟩
  have a1 := numM_f h0 ha
  rcases h1 : numM false l s1 2 with ⟨sl, s2⟩
  have a2 := numM_f h1 a1
  rcases h2 : textM l s2 with ⟨oo, s3⟩
  have a3 := textM_f h2 a2
  rcases h3 : textM l s3 with ⟨on, s4⟩
  have a4 := textM_f h3 a3
  simp only [h0, h1, h2, h3] at h
  injection h with _ h
  rw [← h]; exact a4
end Rc
namespace Go.Proofs.YtojaagnfjenhoaaGreat
open Go.RowKit
theorem Ri.op {w u : World} {b : Nat} {s : ByteArray} {st st' : Rc.St} {l : List (Nat × Array Value × TypeId)} {o : Rc.Op} (h : Ri w b s st l u) (hn : Rc.opM false s.data.toList st = (o, st')) (hm : s.size ≤ 1000000) (ha : st.at_ ≤ s.size) :
    Calls Tryz.prog 97 #[.pointer (some ⟨b, 0, none⟩)] u fun e v => e = .returned (opV o) ∧ Ri w b s st' l v := by
  refine (iop_any b s st hm ha u h.rd).mono ?_
  rintro e v ⟨rfl, h2, h3⟩
  rw [hn] at h2 ⊢
  exact ⟨rfl, h.turn h2 h3⟩
def IRecOut (s : ByteArray) (r : Rc.Rec) (st : Rc.St) (T D : Value) (b : Nat) (w : World) (e : Ending) (w' : World) : Prop :=
  e = .returned (recV r T D) ∧ w'.heap[b]? = some (.cells (iC s st.at_ st.bad) 140 (0, 0)) ∧ KeptB w.heap.size b w w'
set_option maxRecDepth 100000 in
set_option maxHeartbeats 4000000 in
theorem ichange_1 (b : Nat) (s : ByteArray) (st : Rc.St) (hm : s.size ≤ 1000000) (ha : st.at_ ≤ s.size) (lsn prev txn kind page next nu ok os how root ep es : Int) (oo on ek : ByteArray) (ts : List Rc.TxnAt) (ds : List Rc.DirtyAt) (PA PB : Option Addr) (n c m d : Nat) {pg : Int} {s1 s2 s3 : Rc.St} {o : Rc.Op} (h0 : Rc.numM false s.data.toList st 3 = (pg, s1)) (h1 : Rc.opM false s.data.toList s1 = (o, s2)) (h2 : Rc.numM false s.data.toList s2 1 = (1, s3)) (w : World) (hb : w.heap[b]? = some (.cells (iC s st.at_ st.bad) 140 (0, 0))) :
    Calls Tryz.prog 96 #[.pointer (some ⟨b, 0, none⟩), .agg (rcA lsn prev txn kind page next nu ok os oo on how root ek ep es (.slice PA n c) (.slice PB m d))] w (IRecOut s ⟨lsn, prev, txn, kind, pg, next, nu, ⟨o.kind, o.slot, o.old, o.new⟩, 1, root, ⟨ek, ep, es⟩, ts, ds⟩ s3 (.slice PA n c) (.slice PB m d) b w) := by
  have hl : s.data.toList.length = s.size := by simp
  have a1 := Rc.numM_f h0 (by omega)
  have a2 := Rc.opM_f h1 a1
  have a3 := Rc.numM_f h2 a2
  have C0 := Lib.hid (fun l u (hu : Ri w b s st l u) => hu.num3 h0 hm ha)
  have C1 := Lib.hid (fun l u (hu : Ri w b s s1 l u) => hu.op h1 hm (by omega))
  have C2 := Lib.hid (fun l u (hu : Ri w b s s2 l u) => hu.num1 h2 hm (by omega))
  clear h0 h1 h2 a1 a2 a3
  have H0 := Lib.hid (((Ri.start hb).alloc (rcA lsn prev txn kind page next nu ok os oo on how root ek ep es (.slice PA n c) (.slice PB m d)) 42).alloc zeroA 42)
  clear hb
  go_enter Tryz.func96, Tryz.ntmps96
  go_upto_region 1 with fail
  obtain ⟨g, hg⟩ : ∃ g, g = w.heap.size := ⟨_, rfl⟩
  obtain ⟨W0, hW0⟩ : ∃ W, W = (w.alloc (.cells (rcA lsn prev txn kind page next nu ok os oo on how root ek ep es (.slice PA n c) (.slice PB m d)) 42)).alloc (.cells zeroA 42) := ⟨_, rfl⟩
  have hs1 : (w.alloc (.cells (rcA lsn prev txn kind page next nu ok os oo on how root ek ep es (.slice PA n c) (.slice PB m d)) 42)).heap.size = w.heap.size + 1 := by simp
  simp only [List.nil_append, List.singleton_append, hs1] at H0
  rw [← hg, ← hW0] at H0
  rw [← hg, ← hW0]
  clear hg hW0 hs1
  go_upto_region 2 with (go_at_call 95; (with_reducible refine (C0.out _ _ H0.out).mono ?_); rintro e v0 ⟨rfl, h⟩; (try dsimp only [opV]); have K0 := Lib.hid h; have hc0 := blkCell h.get0; have hz0 := blkFrozen h.get0; clear h)
  have H1 := Lib.hid (show Ri w b s s1 [(g, (rcA lsn prev txn kind pg next nu ok os oo on how root ek ep es (.slice PA n c) (.slice PB m d)), 42), (g + 1, zeroA, 42)] (v0.setCell ⟨g, 4, none⟩ (.int .i64 pg)) from by have h := (K0.out.set 0 4 (.int .i64 pg) _ rfl); simpa using h)
  obtain ⟨W1, hW⟩ : ∃ W, W = (v0.setCell ⟨g, 4, none⟩ (.int .i64 pg)) := ⟨_, rfl⟩
  rw [← hW] at H1
  rw [← hW]
  clear hW H0 K0 hc0 hz0 C0
  go_upto_region 3 with (go_at_call 97; (with_reducible refine (C1.out _ _ H1.out).mono ?_); rintro e v1 ⟨rfl, h⟩; (try dsimp only [opV]); have K1 := Lib.hid h; have hc1 := blkCell h.get0; have hz1 := blkFrozen h.get0; clear h)
  have H2 := Lib.hid (show Ri w b s s2 [(g, (rcA lsn prev txn kind pg next nu o.kind o.slot o.old o.new how root ek ep es (.slice PA n c) (.slice PB m d)), 42), (g + 1, zeroA, 42)] ((((v1.setCell ⟨g, 7, none⟩ (.int .i64 o.kind)).setCell ⟨g, 8, none⟩ (.int .i64 o.slot)).setCell ⟨g, 9, none⟩ (.string o.old)).setCell ⟨g, 10, none⟩ (.string o.new)) from by have h := ((((K1.out.set 0 7 (.int .i64 o.kind) _ rfl).set 0 8 (.int .i64 o.slot) _ rfl).set 0 9 (.string o.old) _ rfl).set 0 10 (.string o.new) _ rfl); simpa using h)
  obtain ⟨W2, hW⟩ : ∃ W, W = ((((v1.setCell ⟨g, 7, none⟩ (.int .i64 o.kind)).setCell ⟨g, 8, none⟩ (.int .i64 o.slot)).setCell ⟨g, 9, none⟩ (.string o.old)).setCell ⟨g, 10, none⟩ (.string o.new)) := ⟨_, rfl⟩
  rw [← hW] at H2
  rw [← hW]
  clear hW H1 K1 hc1 hz1 C1
  go_upto_region 4 with (go_at_call 95; (with_reducible refine (C2.out _ _ H2.out).mono ?_); rintro e v2 ⟨rfl, h⟩; (try dsimp only [opV]); have K2 := Lib.hid h; have hc2 := blkCell h.get0; have hz2 := blkFrozen h.get0; clear h)
  have H3 := Lib.hid (show Ri w b s s3 [(g, (rcA lsn prev txn kind pg next nu o.kind o.slot o.old o.new 1 root ek ep es (.slice PA n c) (.slice PB m d)), 42), (g + 1, zeroA, 42)] (v2.setCell ⟨g, 11, none⟩ (.int .i64 1)) from by have h := (K2.out.set 0 11 (.int .i64 1) _ rfl); simpa using h)
  obtain ⟨W3, hW⟩ : ∃ W, W = (v2.setCell ⟨g, 11, none⟩ (.int .i64 1)) := ⟨_, rfl⟩
  rw [← hW] at H3
  rw [← hW]
  clear hW H2 K2 hc2 hz2 C2
  have hcq := blkCell H3.out.get0
  go_wp2_with (first
    | (with_reducible refine listLoad (by kernel_rfl) 42 (.tmp 3) rfl g rfl (rcA lsn prev txn kind pg next nu o.kind o.slot o.old o.new 1 root ek ep es (.slice PA n c) (.slice PB m d)) _ H3.out.get0 _ Tryz.underlying42 (by kernel_rfl) (by kernel_rfl) ?_)
    | (with_reducible refine listStore (by kernel_rfl) 42 (.tmp 4) (.tmp 34) rfl (g + 1) (rcA lsn prev txn kind pg next nu o.kind o.slot o.old o.new 1 root ek ep es (.slice PA n c) (.slice PB m d)) _ _ rfl rfl H3.out.get1 (by kernel_rfl) (by kernel_rfl) (by kernel_rfl) ?_))
  refine bodyPost_ret (v := .agg (rcA lsn prev txn kind pg next nu o.kind o.slot o.old o.new 1 root ek ep es (.slice PA n c) (.slice PB m d))) (results_cell rfl _ _ rfl (load_whole (setRow_heap _ _ _ _ _ _ H3.out.get1) Tryz.underlying42 (by kernel_rfl) (by kernel_rfl))) rfl ?_
  have h8 := H3.out.row 1 (rcA lsn prev txn kind pg next nu o.kind o.slot o.old o.new 1 root ek ep es (.slice PA n c) (.slice PB m d)) _ rfl
  exact ⟨rfl, h8.rd, h8.kept⟩
set_option maxRecDepth 100000 in
set_option maxHeartbeats 4000000 in
theorem ichange_2 (b : Nat) (s : ByteArray) (st : Rc.St) (hm : s.size ≤ 1000000) (ha : st.at_ ≤ s.size) (lsn prev txn kind page next nu ok os how root ep es : Int) (oo on ek : ByteArray) (ts : List Rc.TxnAt) (ds : List Rc.DirtyAt) (PA PB : Option Addr) (n c m d : Nat) {pg : Int} {s1 s2 s3 : Rc.St} {o : Rc.Op} {hw : Int} (h0 : Rc.numM false s.data.toList st 3 = (pg, s1)) (h1 : Rc.opM false s.data.toList s1 = (o, s2)) (h2 : Rc.numM false s.data.toList s2 1 = (hw, s3)) {rt pg2 sl2 : Int} {tx : ByteArray} {s4 s5 s6 s7 : Rc.St} (h3 : Rc.numM false s.data.toList s3 3 = (rt, s4)) (h4 : Rc.numM false s.data.toList s4 3 = (pg2, s5)) (h5 : Rc.numM false s.data.toList s5 2 = (sl2, s6)) (h6 : Rc.textM s.data.toList s6 = (tx, s7)) (hh : ¬ hw = 1) (w : World) (hb : w.heap[b]? = some (.cells (iC s st.at_ st.bad) 140 (0, 0))) :
    Calls Tryz.prog 96 #[.pointer (some ⟨b, 0, none⟩), .agg (rcA lsn prev txn kind page next nu ok os oo on how root ek ep es (.slice PA n c) (.slice PB m d))] w (IRecOut s ⟨lsn, prev, txn, kind, pg, next, nu, ⟨o.kind, o.slot, o.old, o.new⟩, hw, rt, ⟨tx, pg2, sl2⟩, ts, ds⟩ s7 (.slice PA n c) (.slice PB m d) b w) := by
  have hl : s.data.toList.length = s.size := by simp
  have a1 := Rc.numM_f h0 (by omega)
  have a2 := Rc.opM_f h1 a1
  have a3 := Rc.numM_f h2 a2
  have C0 := Lib.hid (fun l u (hu : Ri w b s st l u) => hu.num3 h0 hm ha)
  have C1 := Lib.hid (fun l u (hu : Ri w b s s1 l u) => hu.op h1 hm (by omega))
  have C2 := Lib.hid (fun l u (hu : Ri w b s s2 l u) => hu.num1 h2 hm (by omega))
  have a4 := Rc.numM_f h3 a3
  have a5 := Rc.numM_f h4 a4
  have a6 := Rc.numM_f h5 a5
  have C3 := Lib.hid (fun l u (hu : Ri w b s s3 l u) => hu.num3 h3 hm (by omega))
  have C4 := Lib.hid (fun l u (hu : Ri w b s s4 l u) => hu.num3 h4 hm (by omega))
  have C5 := Lib.hid (fun l u (hu : Ri w b s s5 l u) => hu.num2 h5 hm (by omega))
  have C6 := Lib.hid (fun l u (hu : Ri w b s s6 l u) => hu.text h6 hm (by omega))
  have hw1 : (hw == 1) = false := by simpa using hh
  have hw2 : (hw != 1) = true := by simpa using hh
  clear h0 h1 h2 h3 h4 h5 h6 a1 a2 a3 a4 a5 a6
  have H0 := Lib.hid (((Ri.start hb).alloc (rcA lsn prev txn kind page next nu ok os oo on how root ek ep es (.slice PA n c) (.slice PB m d)) 42).alloc zeroA 42)
  clear hb
  go_enter Tryz.func96, Tryz.ntmps96
  go_upto_region 1 with fail
  obtain ⟨g, hg⟩ : ∃ g, g = w.heap.size := ⟨_, rfl⟩
  obtain ⟨W0, hW0⟩ : ∃ W, W = (w.alloc (.cells (rcA lsn prev txn kind page next nu ok os oo on how root ek ep es (.slice PA n c) (.slice PB m d)) 42)).alloc (.cells zeroA 42) := ⟨_, rfl⟩
  have hs1 : (w.alloc (.cells (rcA lsn prev txn kind page next nu ok os oo on how root ek ep es (.slice PA n c) (.slice PB m d)) 42)).heap.size = w.heap.size + 1 := by simp
  simp only [List.nil_append, List.singleton_append, hs1] at H0
  rw [← hg, ← hW0] at H0
  rw [← hg, ← hW0]
  clear hg hW0 hs1
  go_upto_region 2 with (go_at_call 95; (with_reducible refine (C0.out _ _ H0.out).mono ?_); rintro e v0 ⟨rfl, h⟩; (try dsimp only [opV]); have K0 := Lib.hid h; have hc0 := blkCell h.get0; have hz0 := blkFrozen h.get0; clear h)
  have H1 := Lib.hid (show Ri w b s s1 [(g, (rcA lsn prev txn kind pg next nu ok os oo on how root ek ep es (.slice PA n c) (.slice PB m d)), 42), (g + 1, zeroA, 42)] (v0.setCell ⟨g, 4, none⟩ (.int .i64 pg)) from by have h := (K0.out.set 0 4 (.int .i64 pg) _ rfl); simpa using h)
  obtain ⟨W1, hW⟩ : ∃ W, W = (v0.setCell ⟨g, 4, none⟩ (.int .i64 pg)) := ⟨_, rfl⟩
  rw [← hW] at H1
  rw [← hW]
  clear hW H0 K0 hc0 hz0 C0
  go_upto_region 3 with (go_at_call 97; (with_reducible refine (C1.out _ _ H1.out).mono ?_); rintro e v1 ⟨rfl, h⟩; (try dsimp only [opV]); have K1 := Lib.hid h; have hc1 := blkCell h.get0; have hz1 := blkFrozen h.get0; clear h)
  have H2 := Lib.hid (show Ri w b s s2 [(g, (rcA lsn prev txn kind pg next nu o.kind o.slot o.old o.new how root ek ep es (.slice PA n c) (.slice PB m d)), 42), (g + 1, zeroA, 42)] ((((v1.setCell ⟨g, 7, none⟩ (.int .i64 o.kind)).setCell ⟨g, 8, none⟩ (.int .i64 o.slot)).setCell ⟨g, 9, none⟩ (.string o.old)).setCell ⟨g, 10, none⟩ (.string o.new)) from by have h := ((((K1.out.set 0 7 (.int .i64 o.kind) _ rfl).set 0 8 (.int .i64 o.slot) _ rfl).set 0 9 (.string o.old) _ rfl).set 0 10 (.string o.new) _ rfl); simpa using h)
  obtain ⟨W2, hW⟩ : ∃ W, W = ((((v1.setCell ⟨g, 7, none⟩ (.int .i64 o.kind)).setCell ⟨g, 8, none⟩ (.int .i64 o.slot)).setCell ⟨g, 9, none⟩ (.string o.old)).setCell ⟨g, 10, none⟩ (.string o.new)) := ⟨_, rfl⟩
  rw [← hW] at H2
  rw [← hW]
  clear hW H1 K1 hc1 hz1 C1
  go_upto_region 4 with (go_at_call 95; (with_reducible refine (C2.out _ _ H2.out).mono ?_); rintro e v2 ⟨rfl, h⟩; (try dsimp only [opV]); have K2 := Lib.hid h; have hc2 := blkCell h.get0; have hz2 := blkFrozen h.get0; clear h)
  have H3 := Lib.hid (show Ri w b s s3 [(g, (rcA lsn prev txn kind pg next nu o.kind o.slot o.old o.new hw root ek ep es (.slice PA n c) (.slice PB m d)), 42), (g + 1, zeroA, 42)] (v2.setCell ⟨g, 11, none⟩ (.int .i64 hw)) from by have h := (K2.out.set 0 11 (.int .i64 hw) _ rfl); simpa using h)
  obtain ⟨W3, hW⟩ : ∃ W, W = (v2.setCell ⟨g, 11, none⟩ (.int .i64 hw)) := ⟨_, rfl⟩
  rw [← hW] at H3
  rw [← hW]
  clear hW H2 K2 hc2 hz2 C2
  have hcq := blkCell H3.out.get0
  clear hh
  go_upto_region 6 with (go_at_call 95; (with_reducible refine (C3.out _ _ H3.out).mono ?_); rintro e v3 ⟨rfl, h⟩; (try dsimp only [opV]); have K3 := Lib.hid h; have hc3 := blkCell h.get0; have hz3 := blkFrozen h.get0; clear h)
  have H4 := Lib.hid (show Ri w b s s4 [(g, (rcA lsn prev txn kind pg next nu o.kind o.slot o.old o.new hw rt ek ep es (.slice PA n c) (.slice PB m d)), 42), (g + 1, zeroA, 42)] (v3.setCell ⟨g, 12, none⟩ (.int .i64 rt)) from by have h := (K3.out.set 0 12 (.int .i64 rt) _ rfl); simpa using h)
  obtain ⟨W4, hW⟩ : ∃ W, W = (v3.setCell ⟨g, 12, none⟩ (.int .i64 rt)) := ⟨_, rfl⟩
  rw [← hW] at H4
  rw [← hW]
  clear hW H3 K3 hc3 hz3 C3
  go_upto_region 7 with (go_at_call 95; (with_reducible refine (C4.out _ _ H4.out).mono ?_); rintro e v4 ⟨rfl, h⟩; (try dsimp only [opV]); have K4 := Lib.hid h; have hc4 := blkCell h.get0; have hz4 := blkFrozen h.get0; clear h)
  have H5 := Lib.hid (show Ri w b s s5 [(g, (rcA lsn prev txn kind pg next nu o.kind o.slot o.old o.new hw rt ek pg2 es (.slice PA n c) (.slice PB m d)), 42), (g + 1, zeroA, 42)] (v4.setCell ⟨g, 14, none⟩ (.int .i64 pg2)) from by have h := (K4.out.set 0 14 (.int .i64 pg2) _ rfl); simpa using h)
  obtain ⟨W5, hW⟩ : ∃ W, W = (v4.setCell ⟨g, 14, none⟩ (.int .i64 pg2)) := ⟨_, rfl⟩
  rw [← hW] at H5
  rw [← hW]
  clear hW H4 K4 hc4 hz4 C4
  go_upto_region 8 with (go_at_call 95; (with_reducible refine (C5.out _ _ H5.out).mono ?_); rintro e v5 ⟨rfl, h⟩; (try dsimp only [opV]); have K5 := Lib.hid h; have hc5 := blkCell h.get0; have hz5 := blkFrozen h.get0; clear h)
  have H6 := Lib.hid (show Ri w b s s6 [(g, (rcA lsn prev txn kind pg next nu o.kind o.slot o.old o.new hw rt ek pg2 sl2 (.slice PA n c) (.slice PB m d)), 42), (g + 1, zeroA, 42)] (v5.setCell ⟨g, 15, none⟩ (.int .i64 sl2)) from by have h := (K5.out.set 0 15 (.int .i64 sl2) _ rfl); simpa using h)
  obtain ⟨W6, hW⟩ : ∃ W, W = (v5.setCell ⟨g, 15, none⟩ (.int .i64 sl2)) := ⟨_, rfl⟩
  rw [← hW] at H6
  rw [← hW]
  clear hW H5 K5 hc5 hz5 C5
  go_upto_region 9 with (go_at_call 113; (with_reducible refine (C6.out _ _ H6.out).mono ?_); rintro e v6 ⟨rfl, h⟩; (try dsimp only [opV]); have K6 := Lib.hid h; have hc6 := blkCell h.get0; have hz6 := blkFrozen h.get0; clear h)
  have H7 := Lib.hid (show Ri w b s s7 [(g, (rcA lsn prev txn kind pg next nu o.kind o.slot o.old o.new hw rt tx pg2 sl2 (.slice PA n c) (.slice PB m d)), 42), (g + 1, zeroA, 42)] (v6.setCell ⟨g, 13, none⟩ (.string tx)) from by have h := (K6.out.set 0 13 (.string tx) _ rfl); simpa using h)
  obtain ⟨W7, hW⟩ : ∃ W, W = (v6.setCell ⟨g, 13, none⟩ (.string tx)) := ⟨_, rfl⟩
  rw [← hW] at H7
  rw [← hW]
  clear hW H6 K6 hc6 hz6 C6
  go_wp2_with (first
    | (with_reducible refine listLoad (by kernel_rfl) 42 (.tmp 3) rfl g rfl (rcA lsn prev txn kind pg next nu o.kind o.slot o.old o.new hw rt tx pg2 sl2 (.slice PA n c) (.slice PB m d)) _ H7.out.get0 _ Tryz.underlying42 (by kernel_rfl) (by kernel_rfl) ?_)
    | (with_reducible refine listStore (by kernel_rfl) 42 (.tmp 4) (.tmp 34) rfl (g + 1) (rcA lsn prev txn kind pg next nu o.kind o.slot o.old o.new hw rt tx pg2 sl2 (.slice PA n c) (.slice PB m d)) _ _ rfl rfl H7.out.get1 (by kernel_rfl) (by kernel_rfl) (by kernel_rfl) ?_))
  refine bodyPost_ret (v := .agg (rcA lsn prev txn kind pg next nu o.kind o.slot o.old o.new hw rt tx pg2 sl2 (.slice PA n c) (.slice PB m d))) (results_cell rfl _ _ rfl (load_whole (setRow_heap _ _ _ _ _ _ H7.out.get1) Tryz.underlying42 (by kernel_rfl) (by kernel_rfl))) rfl ?_
  have h8 := H7.out.row 1 (rcA lsn prev txn kind pg next nu o.kind o.slot o.old o.new hw rt tx pg2 sl2 (.slice PA n c) (.slice PB m d)) _ rfl
  exact ⟨rfl, h8.rd, h8.kept⟩
end Go.Proofs.YtojaagnfjenhoaaGreat
/- The walk over the reference of records: its reader's checkpoint: words. -/
namespace Rc
theorem txn_stepF {l : List UInt8} {st : St} (h : st.at_ ≤ l.length) : (txnM false l st).2.at_ ≤ l.length := by
  rcases h1 : numM false l st 6 with ⟨a, s1⟩
  rcases h2 : numM false l s1 6 with ⟨b, s2⟩
  rcases h3 : numM false l s2 6 with ⟨c, s3⟩
  rcases h4 : numM false l s3 1 with ⟨d, s4⟩
  have e : (txnM false l st).2 = s4 := by unfold txnM; simp only [h1, h2, h3, h4]
  rw [e]
  exact numM_f h4 (numM_f h3 (numM_f h2 (numM_f h1 h)))
theorem dirty_stepF {l : List UInt8} {st : St} (h : st.at_ ≤ l.length) : (dirtyM false l st).2.at_ ≤ l.length := by
  rcases h1 : numM false l st 3 with ⟨a, s1⟩
  rcases h2 : numM false l s1 6 with ⟨b, s2⟩
  have e : (dirtyM false l st).2 = s2 := by unfold dirtyM; simp only [h1, h2]
  rw [e]
  exact numM_f h2 (numM_f h1 h)
theorem many_leF {α : Type} {one : St → α × St} {l : List UInt8} (hs : ∀ st, st.at_ ≤ l.length → (one st).2.at_ ≤ l.length) :
    ∀ (m : Nat) (st : St), st.at_ ≤ l.length → (manyM one m st).2.at_ ≤ l.length ∧ (manyM one m st).1.length ≤ m := by
  intro m
  induction m with
  | zero => intro st h1; exact ⟨h1, Nat.le_refl _⟩
  | succ m ih =>
    intro st h1
    cases hb : st.bad with
    | true => rw [many_bad hb]; exact ⟨h1, Nat.zero_le _⟩
    | false =>
      have h4 := ih (one st).2 (hs st h1)
      unfold manyM
      rw [if_neg (by rw [hb]; simp)]
      exact ⟨h4.1, by simpa using h4.2⟩
end Rc
namespace Go.Proofs.YtojaagnfjenhoaaGreat
open Go.RowKit
theorem KeptB.old {B C b : Nat} {w u : World} (h : KeptB B b w u) (hC : C ≤ B) : KeptB C b w u :=
  ⟨h.os, h.tape, h.output, h.size, fun k hk hne => h.block k (Nat.lt_of_lt_of_le hk hC) hne⟩
section
variable {w u v : World} {b : Nat} {s : ByteArray} {st st' : Rc.St} {l : List (Nat × Array Value × TypeId)}
theorem Ri.numK {n : Int} (h : Ri w b s st l u) (k : Nat) (h1 : 1 ≤ k) (h6 : k ≤ 6) (hn : Rc.numM false s.data.toList st k = (n, st')) (hm : s.size ≤ 1000000) (ha : st.at_ ≤ s.size) :
    Calls Tryz.prog 95 #[.pointer (some ⟨b, 0, none⟩), .int .i64 (k : Int)] u fun e v => e = .returned (.int .i64 n) ∧ Ri w b s st' l v ∧ KeptB u.heap.size b u v := by
  refine (inum_any b s st k h1 h6 (by omega) (by omega) u h.rd).mono ?_
  rintro e v ⟨rfl, h2, h3⟩
  rw [hn] at h2 ⊢
  exact ⟨rfl, h.turn h2 h3, h3⟩
theorem Ri.numK1 {n : Int} (h : Ri w b s st l u) (hn : Rc.numM false s.data.toList st 1 = (n, st')) (hm : s.size ≤ 1000000) (ha : st.at_ ≤ s.size) :
    Calls Tryz.prog 95 #[.pointer (some ⟨b, 0, none⟩), .int .i64 1] u fun e v => e = .returned (.int .i64 n) ∧ Ri w b s st' l v ∧ KeptB u.heap.size b u v := h.numK 1 (by omega) (by omega) hn hm ha
theorem Ri.numK2 {n : Int} (h : Ri w b s st l u) (hn : Rc.numM false s.data.toList st 2 = (n, st')) (hm : s.size ≤ 1000000) (ha : st.at_ ≤ s.size) :
    Calls Tryz.prog 95 #[.pointer (some ⟨b, 0, none⟩), .int .i64 2] u fun e v => e = .returned (.int .i64 n) ∧ Ri w b s st' l v ∧ KeptB u.heap.size b u v := h.numK 2 (by omega) (by omega) hn hm ha
theorem Ri.numK3 {n : Int} (h : Ri w b s st l u) (hn : Rc.numM false s.data.toList st 3 = (n, st')) (hm : s.size ≤ 1000000) (ha : st.at_ ≤ s.size) :
    Calls Tryz.prog 95 #[.pointer (some ⟨b, 0, none⟩), .int .i64 3] u fun e v => e = .returned (.int .i64 n) ∧ Ri w b s st' l v ∧ KeptB u.heap.size b u v := h.numK 3 (by omega) (by omega) hn hm ha
theorem Ri.numK6 {n : Int} (h : Ri w b s st l u) (hn : Rc.numM false s.data.toList st 6 = (n, st')) (hm : s.size ≤ 1000000) (ha : st.at_ ≤ s.size) :
    Calls Tryz.prog 95 #[.pointer (some ⟨b, 0, none⟩), .int .i64 6] u fun e v => e = .returned (.int .i64 n) ∧ Ri w b s st' l v ∧ KeptB u.heap.size b u v := h.numK 6 (by omega) (by omega) hn hm ha
theorem Ri.under (h : Ri w b s st l u) {M : Nat} (hw : w.heap.size ≤ M) (hl : ∀ p ∈ l, p.1 < M) (hb : Below M u v) : Ri w b s st l v := by
  have hbw := h.bw
  refine ⟨(hb.block _ (by omega)).trans h.rd, hbw, h.kept.trans ⟨hb.os, hb.tape, hb.output, hb.size, fun k hk _ => hb.block k (by omega)⟩, fun i p hp => ?_, h.dis⟩
  obtain ⟨h1, h2⟩ := h.box i p hp
  exact ⟨(hb.block _ (hl p (List.mem_of_getElem? hp))).trans h1, h2⟩
theorem Ri.two {p q : Nat × Array Value × TypeId} (h : Ri w b s st (p :: q :: l) u) : Ri w b s st [p, q] u := by
  have hi : ∀ (i : Nat) (x : Nat × Array Value × TypeId), [p, q][i]? = some x → (p :: q :: l)[i]? = some x := fun i x hx => by
    rcases i with _ | _ | i
    · simpa using hx
    · simpa using hx
    · simp at hx
  exact ⟨h.rd, h.bw, h.kept, fun i x hx => h.box i x (hi i x hx), fun i j x y hx hy => h.dis i j x y (hi i x hx) (hi j y hy)⟩
theorem Ri.size1 {p q : Nat × Array Value × TypeId} (h : Ri w b s st (q :: p :: l) u) : p.1 < u.heap.size ∧ w.heap.size ≤ p.1 := by
  obtain ⟨h1, h2⟩ := h.box 1 p rfl
  exact ⟨heapLt h1, h2⟩
theorem Ri.get2 {g : Nat} {cs : Array Value} {T : TypeId} {p q : Nat × Array Value × TypeId} (h : Ri w b s st (p :: q :: (g, cs, T) :: l) u) : u.heap[g]? = some (.cells cs T (0, 0)) := (h.box 2 _ rfl).1
end
end Go.Proofs.YtojaagnfjenhoaaGreat
/- The walk over the reference of records: its reader's checkpoint. -/
namespace Go.Proofs.YtojaagnfjenhoaaGreat
open Go.RowKit
set_option maxRecDepth 100000 in
set_option maxHeartbeats 4000000 in
theorem icheck_any (b : Nat) (s : ByteArray) (st : Rc.St) (hm : s.size ≤ 1000000) (ha : st.at_ ≤ s.size) (lsn prev txn : Int) (w : World) (hb : w.heap[b]? = some (.cells (iC s st.at_ st.bad) 140 (0, 0))) :
    Calls Tryz.prog 98 #[.pointer (some ⟨b, 0, none⟩), .agg (rcA lsn prev txn 9 0 0 0 0 0 ⟨#[]⟩ ⟨#[]⟩ 0 0 ⟨#[]⟩ 0 0 (.slice none 0 0) (.slice none 0 0))] w (RecOut (Rc.listsM false s.data.toList (Rc.bare 9 lsn prev txn) st) b w) := by
  have hl : s.data.toList.length = s.size := by simp
  rcases h4 : Rc.numM false s.data.toList st 6 with ⟨nu, s5⟩
  have a5 := Rc.numM_f h4 (by omega)
  have C4 := Lib.hid (fun l u (hu : Ri w b s st l u) => hu.numK6 h4 hm ha)
  rcases h5 : Rc.numM false s.data.toList s5 2 with ⟨n1, s6⟩
  have a6 := Rc.numM_f h5 a5
  have C5 := Lib.hid (fun l u (hu : Ri w b s s5 l u) => hu.numK2 h5 hm (by omega))
  have p5 := Rc.numM_nat h5
  obtain ⟨m1, rfl⟩ := Int.eq_ofNat_of_zero_le p5.1
  have hm1 : m1 ≤ 65535 := by have := p5.2; omega
  rcases hT : Rc.manyM (Rc.txnM false s.data.toList) m1 s6 with ⟨TS, sT⟩
  have bT := Rc.many_leF (one := Rc.txnM false s.data.toList) (l := s.data.toList) (fun st h => Rc.txn_stepF h) m1 s6 a6
  have hR0 : Rc.Rest (Rc.txnM false s.data.toList) s.data.toList.length TS sT [] m1 s6 := ⟨by rw [hT]; rfl, by rw [hT], fun _ => a6, by omega⟩
  rw [hT] at bT
  have bT2 : sT.at_ ≤ s.data.toList.length := bT.1
  rcases h6 : Rc.numM false s.data.toList sT 2 with ⟨n2, s7⟩
  have a7 := Rc.numM_f h6 bT2
  have C6 := Lib.hid (fun l u (hu : Ri w b s sT l u) => hu.numK2 h6 hm (by omega))
  have p6 := Rc.numM_nat h6
  obtain ⟨m2, rfl⟩ := Int.eq_ofNat_of_zero_le p6.1
  have hm2 : m2 ≤ 65535 := by have := p6.2; omega
  rcases hD : Rc.manyM (Rc.dirtyM false s.data.toList) m2 s7 with ⟨DS, sD⟩
  have bD := Rc.many_leF (one := Rc.dirtyM false s.data.toList) (l := s.data.toList) (fun st h => Rc.dirty_stepF h) m2 s7 a7
  have hR1 : Rc.Rest (Rc.dirtyM false s.data.toList) s.data.toList.length DS sD [] m2 s7 := ⟨by rw [hD]; rfl, by rw [hD], fun _ => a7, by omega⟩
  rw [hD] at bD
  have hTS : TS.length ≤ 65535 := by have := bT.2; simp only at this; omega
  have hDS : DS.length ≤ 65535 := by have := bD.2; simp only at this; omega
  have RD : Rc.listsM false s.data.toList (Rc.bare 9 lsn prev txn) st = ⟨lsn, prev, txn, 9, 0, 0, nu, Rc.noOp, 0, 0, Rc.noKey, TS, DS⟩ := by
    unfold Rc.listsM
    simp only [h4, h5, Int.toNat_natCast, hT, h6, hD]
    rfl
  have RDH := Lib.hid RD
  have HR0 := Lib.hid hR0
  have HR1 := Lib.hid hR1
  have H0 := Lib.hid (((Ri.start hb).alloc (rcA lsn prev txn 9 0 0 0 0 0 ⟨#[]⟩ ⟨#[]⟩ 0 0 ⟨#[]⟩ 0 0 (.slice none 0 0) (.slice none 0 0)) 42).alloc zeroA 42)
  clear RD hT bT p5 p6 hD bD a5 a7 h6 hR0 hR1 hb h4 h5
  go_enter Tryz.func98, Tryz.ntmps98
  go_upto_region 1 with fail
  obtain ⟨g, hg⟩ : ∃ g, g = w.heap.size := ⟨_, rfl⟩
  obtain ⟨W0, hW0⟩ : ∃ W, W = (w.alloc (.cells (rcA lsn prev txn 9 0 0 0 0 0 ⟨#[]⟩ ⟨#[]⟩ 0 0 ⟨#[]⟩ 0 0 (.slice none 0 0) (.slice none 0 0)) 42)).alloc (.cells zeroA 42) := ⟨_, rfl⟩
  have hs1 : (w.alloc (.cells (rcA lsn prev txn 9 0 0 0 0 0 ⟨#[]⟩ ⟨#[]⟩ 0 0 ⟨#[]⟩ 0 0 (.slice none 0 0) (.slice none 0 0)) 42)).heap.size = w.heap.size + 1 := by simp
  simp only [List.nil_append, List.singleton_append, hs1] at H0
  rw [← hg, ← hW0] at H0
  rw [← hg, ← hW0]
  have hgw : w.heap.size ≤ g := by omega
  clear hg hW0 hs1
  go_upto_region 2 with (go_at_call 95; (with_reducible refine (C4.out _ _ H0.out).mono ?_); rintro e v0 ⟨rfl, h, hk⟩; have K0 := Lib.hid h; have hc0 := blkCell h.get0; have hz0 := blkFrozen h.get0; clear h hk)
  have H1 := Lib.hid (show Ri w b s s5 [(g, (rcA lsn prev txn 9 0 0 nu 0 0 ⟨#[]⟩ ⟨#[]⟩ 0 0 ⟨#[]⟩ 0 0 (.slice none 0 0) (.slice none 0 0)), 42), (g + 1, zeroA, 42)] (v0.setCell ⟨g, 6, none⟩ (.int .i64 nu)) from by have h := K0.out.set 0 6 (.int .i64 nu) _ rfl; simpa using h)
  obtain ⟨W1, hW⟩ : ∃ W, W = v0.setCell ⟨g, 6, none⟩ (.int .i64 nu) := ⟨_, rfl⟩
  rw [← hW] at H1
  rw [← hW]
  clear hW H0 K0 hc0 hz0 C4
  go_upto_block 0 with (go_at_call 95; (with_reducible refine (C5.out _ _ H1.out).mono ?_); rintro e w8 ⟨rfl, hS8, hk⟩; clear hk)
  have HS8 := Lib.hid hS8
  clear hS8 H1 C5
  go_cut [] (fun wc => ∃ v, Ri w b s sT [(g, (rcA lsn prev txn 9 0 0 nu 0 0 ⟨#[]⟩ ⟨#[]⟩ 0 0 ⟨#[]⟩ 0 0 (v) (.slice none 0 0)), 42), (g + 1, zeroA, 42)] wc ∧ OwnL txC 4 106 (g + 2) wc v TS)
  case first =>
    go_wp2_with fail
    go_loopw [6] (fun i wr => ∃ (k m : Nat) (ts : List Rc.TxnAt) (st : Rc.St) (v : Value), i = .int .i64 (k : Int) ∧ k + m = m1 ∧ ts.length ≤ k ∧ Rc.Rest (Rc.txnM false s.data.toList) s.data.toList.length TS sT ts m st ∧ Ri w b s st [(g, (rcA lsn prev txn 9 0 0 nu 0 0 ⟨#[]⟩ ⟨#[]⟩ 0 0 ⟨#[]⟩ 0 0 (v) (.slice none 0 0)), 42), (g + 1, zeroA, 42)] wr ∧ OwnL txC 4 106 (g + 2) wr v ts) (fun i _ => m1 - (intOf i).toNat)
    case atStart => exact ⟨0, m1, [], s6, .slice none 0 0, rfl, by omega, by simp, HR0.out, HS8.out, ownNil _ _ _ _⟩
    case round =>
      obtain ⟨k, m, ts, st, v, rfl, hkm, hlen, hR, hS, hO⟩ := hrel
      have HR := Lib.hid hR
      have HS := Lib.hid hS
      have HO := Lib.hid hO
      clear hR hS hO
      by_cases h0 : m = 0
      · subst h0
        obtain ⟨e1, e2⟩ := HR.out.stop
        subst e1 e2
        have hnk : ¬ (k : Int) < (m1 : Int) := by omega
        go_wp2_with fail
        go_meet
        case rel => exact ⟨v, HS.out, HO.out⟩
      have hm0 : (k : Int) < (m1 : Int) := by omega
      have hmN : 0 < m := by omega
      cases hbad : st.bad with
      | true =>
        obtain ⟨e1, e2⟩ := HR.out.bad hbad
        have hcr := blkCell HS.out.rd
        rw [hbad] at hcr
        have HBD := Lib.hid hbad
        subst e1 e2
        clear hbad h0 hmN
        go_wp2_with fail
        go_meet
        case rel => exact ⟨v, HS.out, HO.out⟩
      | false =>
        have hin := HR.out.inn hbad
        have hcr := blkCell HS.out.rd
        rw [hbad] at hcr
        rcases hta : Rc.numM false s.data.toList st 6 with ⟨ta, sta⟩
        have ata := Rc.numM_f hta hin
        have Cta := Lib.hid (fun l u (hu : Ri w b s st l u) => hu.numK6 hta hm (by omega))
        rcases htb : Rc.numM false s.data.toList sta 6 with ⟨tb, stb⟩
        have atb := Rc.numM_f htb ata
        have Ctb := Lib.hid (fun l u (hu : Ri w b s sta l u) => hu.numK6 htb hm (by omega))
        rcases htc : Rc.numM false s.data.toList stb 6 with ⟨tc, stc⟩
        have atc := Rc.numM_f htc atb
        have Ctc := Lib.hid (fun l u (hu : Ri w b s stb l u) => hu.numK6 htc hm (by omega))
        rcases htd : Rc.numM false s.data.toList stc 1 with ⟨td, std⟩
        have atd := Rc.numM_f htd atc
        have Ctd := Lib.hid (fun l u (hu : Ri w b s stc l u) => hu.numK1 htd hm (by omega))
        have hone : Rc.txnM false s.data.toList st = (⟨ta, tb, tc, td == 1⟩, std) := by unfold Rc.txnM; simp only [hta, htb, htc, htd]
        have HN := Lib.hid (HR.out.next hmN hbad hone (fun _ => atd) (by omega))
        clear hone hbad hin h0 HR hta ata htb atb htc atc htd atd
        obtain ⟨A, c, rfl⟩ := ownLen HO.out
        have hbg : b < g + 2 := by have := HS.out.bw; omega
        go_upto_region 6 with fail
        clear hcr
        go_upto_region 7 with (first | (go_at_call 95; (with_reducible refine (Cta.out _ _ HS.out).mono ?_); rintro e w1 ⟨rfl, hS1, hk1⟩; have hO1 := ownKept HO.out hbg hk1) | (go_at_call 95; (with_reducible refine (Ctb.out _ _ hS1).mono ?_); rintro e w2 ⟨rfl, hS2, hk2⟩; have hO2 := ownKept hO1 hbg hk2) | (go_at_call 95; (with_reducible refine (Ctc.out _ _ hS2).mono ?_); rintro e w3 ⟨rfl, hS3, hk3⟩; have hO3 := ownKept hO2 hbg hk3) | (with_reducible refine wpList_store_new rfl 106 (.tmp 7) (.tmp 33) rfl #[.int .i64 ta, .int .i64 tb, .int .i64 tc, .bool false] _ _ rfl (by kernel_rfl) (by kernel_rfl) (by kernel_rfl) (by kernel_rfl) ?_))
        have HS4 := Lib.hid (hS3.alloc #[.int .i64 ta, .int .i64 tb, .int .i64 tc, .bool false] 106)
        have KK := KeptB.of_below (b := b) (Nat.le_refl _) (allocB w3 (.cells #[.int .i64 ta, .int .i64 tb, .int .i64 tc, .bool false] 106))
        have HO3 := Lib.hid hO3
        obtain ⟨gx, hgx⟩ : ∃ g, g = w3.heap.size := ⟨_, rfl⟩
        obtain ⟨W4, hW4⟩ : ∃ W, W = w3.alloc (.cells #[.int .i64 ta, .int .i64 tb, .int .i64 tc, .bool false] 106) := ⟨_, rfl⟩
        have hs4 : W4.heap.size = gx + 1 := by rw [hW4, hgx]; simp
        have hg3 : g + 2 ≤ gx := by have := hS3.size1; simp only at this; omega
        simp only [List.cons_append, List.nil_append] at HS4
        rw [← hgx, ← hW4] at HS4
        rw [← hW4] at KK
        have KKs := Lib.hid KK.size
        have KK := Lib.hid KK
        rw [← hgx, ← hW4]
        have HGX := Lib.hid hgx
        clear hgx hs4 hW4 hS1 hS2 hS3 hk1 hk2 hk3 hO1 hO2 hO3 HS HO Cta Ctb Ctc
        go_upto_region 8 with (go_at_call 95; (with_reducible refine (Ctd.out _ _ HS4.out).mono ?_); rintro e w5 ⟨rfl, hS5, hk5⟩; have hc5 := blkCell hS5.get2; have hz5 := blkFrozen hS5.get2)
        have HS6 := Lib.hid (show Ri w b s std [(g, (rcA lsn prev txn 9 0 0 nu 0 0 ⟨#[]⟩ ⟨#[]⟩ 0 0 ⟨#[]⟩ 0 0 ((.slice A ts.length c)) (.slice none 0 0)), 42), (g + 1, zeroA, 42), (gx, #[.int .i64 ta, .int .i64 tb, .int .i64 tc, .bool (td == 1)], 106)] (w5.setCell ⟨gx, 3, none⟩ (.bool (td == 1))) from by have h := hS5.set 2 3 (.bool (td == 1)) _ rfl; simpa using h)
        have hB5 : Below w3.heap.size w5 (w5.setCell ⟨gx, 3, none⟩ (.bool (td == 1))) := ⟨rfl, rfl, rfl, by simp [World.setCell], fun k hk => Below.heap_setCell _ _ _ _ (by show k ≠ gx; have := HGX.out; omega)⟩
        have HO6 := Lib.hid (ownKept HO3.out hbg ((KK.out.trans (hk5.old KKs.out)).step (by have := hk5.size; have := KKs.out; omega) hB5))
        obtain ⟨W6, hW6⟩ : ∃ W, W = w5.setCell ⟨gx, 3, none⟩ (.bool (td == 1)) := ⟨_, rfl⟩
        rw [← hW6] at HS6 HO6
        rw [← hW6]
        clear hW6 hB5 KK KKs HO3 hc5 hz5 hS5 hk5 HS4 HGX Ctd
        have hc6 := blkCell HS6.out.get0
        have hwk : IntKind.i64.wrap ((k : Int) + 1) = (k : Int) + 1 := IntWalk.i64_in _ (by omega)
        go_wp2_with (first | (with_reducible refine listLoad (by kernel_rfl) 106 (.tmp 7) rfl gx rfl #[.int .i64 ta, .int .i64 tb, .int .i64 tc, .bool (td == 1)] _ HS6.out.get2 _ Tryz.underlying106 (by kernel_rfl) (by kernel_rfl) ?_) | (at_builtin; refine wpList_push (by kernel_rfl) (.tmp 39) (.tmp 41) 39 106 Tryz.underlying39 info_txn rfl (by omega) (by omega) rfl (g + 2) _ ts.length (ts.flatMap txC) rfl (ownBelow HO6.out (allocB W6 (.cells #[.int .i64 ta, .int .i64 tb, .int .i64 tc, .bool (td == 1)] 106))) W6.heap.size (txC ⟨ta, tb, tc, td == 1⟩) 106 rfl (heap_alloc_new W6 _) rfl (by simp [txC, Value.oneCell']) (by omega) (by have h1 := HS6.out.size1; simp only at h1; simp; omega) ?_; intro v7 w7 ho hg7 hb7; obtain ⟨A7, c7, rfl⟩ := ownLen ho; have hS7 := (HS6.out.step (allocB W6 (.cells #[.int .i64 ta, .int .i64 tb, .int .i64 tc, .bool (td == 1)] 106))).two.under (M := g + 2) (by omega) (by simp) hb7; have hcx7 := blkCell hS7.get0; have hz7 := blkFrozen hS7.get0))
        have HS8x := Lib.hid (hS7.set 0 16 (.slice A7 (ts.length + 1) c7) _ rfl)
        have HO8x := Lib.hid (ownSet (OwnL.push (enc := txC) ho) ⟨g, 16, none⟩ (.slice A7 (ts.length + 1) c7) (by show g < g + 2; omega))
        go_roundw
        case rel => exact ⟨k + 1, m - 1, ts ++ [⟨ta, tb, tc, td == 1⟩], std, _, rfl, by omega, by rw [List.length_append, List.length_singleton]; omega, HN.out, (by have h := HS8x.out; first | exact h | simpa using h), (by have h := HO8x.out; first | exact h | simpa using h)⟩
        case measure => simp [intOf]; omega
  case rest =>
  obtain ⟨v, hS, hO⟩ := hcut
  obtain ⟨AT, cT, rfl⟩ := ownLen hO
  obtain ⟨wa, rfl⟩ : ∃ wm : World, wm = wc := ⟨_, rfl⟩
  have HSa := Lib.hid hS
  have HOa := Lib.hid hO
  clear hS hO HS8 HR0
  go_upto_block 2 with (go_at_call 95; (with_reducible refine (C6.out _ _ HSa.out).mono ?_); rintro e wb ⟨rfl, hSb, hkb⟩)
  have HSb := Lib.hid hSb
  have HOb := Lib.hid (ownKept HOa.out (by have := HSa.out.bw; omega) hkb)
  clear hSb hkb HSa HOa C6
  go_cut [] (fun wc => ∃ v, Ri w b s sD [(g, (rcA lsn prev txn 9 0 0 nu 0 0 ⟨#[]⟩ ⟨#[]⟩ 0 0 ⟨#[]⟩ 0 0 (.slice AT TS.length cT) (v)), 42), (g + 1, zeroA, 42)] wc ∧ OwnL diC 2 108 (g + 2) wc v DS ∧ OwnL txC 4 106 (g + 2) wc (.slice AT TS.length cT) TS)
  case first =>
    go_wp2_with fail
    go_loopw [8] (fun i wr => ∃ (k m : Nat) (ts : List Rc.DirtyAt) (st : Rc.St) (v : Value), i = .int .i64 (k : Int) ∧ k + m = m2 ∧ ts.length ≤ k ∧ Rc.Rest (Rc.dirtyM false s.data.toList) s.data.toList.length DS sD ts m st ∧ Ri w b s st [(g, (rcA lsn prev txn 9 0 0 nu 0 0 ⟨#[]⟩ ⟨#[]⟩ 0 0 ⟨#[]⟩ 0 0 (.slice AT TS.length cT) (v)), 42), (g + 1, zeroA, 42)] wr ∧ OwnL diC 2 108 (g + 2) wr v ts ∧ OwnL txC 4 106 (g + 2) wr (.slice AT TS.length cT) TS) (fun i _ => m2 - (intOf i).toNat)
    case atStart => exact ⟨0, m2, [], s7, .slice none 0 0, rfl, by omega, by simp, HR1.out, HSb.out, ownNil _ _ _ _, HOb.out⟩
    case round =>
      obtain ⟨k, m, ts, st, v, rfl, hkm, hlen, hR, hS, hO, hE⟩ := hrel
      have HR := Lib.hid hR
      have HS := Lib.hid hS
      have HO := Lib.hid hO
      have HE := Lib.hid hE
      clear hR hS hO hE
      by_cases h0 : m = 0
      · subst h0
        obtain ⟨e1, e2⟩ := HR.out.stop
        subst e1 e2
        have hnk : ¬ (k : Int) < (m2 : Int) := by omega
        go_wp2_with fail
        go_meet
        case rel => exact ⟨v, HS.out, HO.out, HE.out⟩
      have hm0 : (k : Int) < (m2 : Int) := by omega
      have hmN : 0 < m := by omega
      cases hbad : st.bad with
      | true =>
        obtain ⟨e1, e2⟩ := HR.out.bad hbad
        have hcr := blkCell HS.out.rd
        rw [hbad] at hcr
        have HBD := Lib.hid hbad
        subst e1 e2
        clear hbad h0 hmN
        go_wp2_with fail
        go_meet
        case rel => exact ⟨v, HS.out, HO.out, HE.out⟩
      | false =>
        have hin := HR.out.inn hbad
        have hcr := blkCell HS.out.rd
        rw [hbad] at hcr
        rcases hda : Rc.numM false s.data.toList st 3 with ⟨da, sda⟩
        have ada := Rc.numM_f hda hin
        have Cda := Lib.hid (fun l u (hu : Ri w b s st l u) => hu.numK3 hda hm (by omega))
        rcases hdb : Rc.numM false s.data.toList sda 6 with ⟨db, sdb⟩
        have adb := Rc.numM_f hdb ada
        have Cdb := Lib.hid (fun l u (hu : Ri w b s sda l u) => hu.numK6 hdb hm (by omega))
        have hone : Rc.dirtyM false s.data.toList st = (⟨da, db⟩, sdb) := by unfold Rc.dirtyM; simp only [hda, hdb]
        have HN := Lib.hid (HR.out.next hmN hbad hone (fun _ => adb) (by omega))
        clear hone hbad hin h0 HR hda ada hdb adb
        obtain ⟨A, c, rfl⟩ := ownLen HO.out
        have hbg : b < g + 2 := by have := HS.out.bw; omega
        go_upto_region 14 with (go_at_call 95; (with_reducible refine (Cda.out _ _ HS.out).mono ?_); rintro e w1 ⟨rfl, hS1, hk1⟩; have hO1 := ownKept HO.out hbg hk1; have hE1 := ownKept HE.out hbg hk1)
        have HSd := Lib.hid (hS1.step (Below.refl _ w1).drew)
        have hO0 := ownBelow hO1 (Below.refl _ w1).drew
        have hE0 := ownBelow hE1 (Below.refl _ w1).drew
        refine wp_region_Z (S := (fun u => u.heap[g]? = some (.cells (rcA lsn prev txn 9 0 0 nu 0 0 ⟨#[]⟩ ⟨#[]⟩ 0 0 ⟨#[]⟩ 0 0 (.slice AT TS.length cT) ((.slice A ts.length c))) 42 (0, 0)))) 7 (by kernel_rfl) ?_ (fun hHeld => ?_)
        · first | exact hSn | exact HSd.out.get0
        refine wpAnyZ_take (i := 0) (oi := { dst := some 60, op := _, type := _, pos := _, after := _, guard := _ }) (v := ?_) (p := [1, 7]) rfl (by kernel_rfl) (by kernel_rfl) (by kernel_rfl) (by kernel_rfl) (by kernel_rfl) (by kernel_rfl) (fun _ _ _ h => h) (Or.inl ⟨by rfl, ?_⟩) (by assumption) ?_
        rotate_left
        · intro u hSu; have hSv := blkCell hSu; clear hSu; go_simp; (try with_reducible rfl)
        try simp only [Act.put, pS]
        refine wpAnyZ_take (i := 1) (oi := { dst := some 61, op := _, type := _, pos := _, after := _, guard := _ }) (v := ?_) (p := [7]) rfl (by kernel_rfl) (by kernel_rfl) (by kernel_rfl) (by kernel_rfl) (by kernel_rfl) (by kernel_rfl) (fun _ _ _ h => h) (Or.inl ⟨by rfl, ?_⟩) (by assumption) ?_
        rotate_left
        · intro u hSu; have hSv := blkCell hSu; clear hSu; go_simp; (try with_reducible rfl)
        try simp only [Act.put, pS]
        refine wpAnyZ_take (i := 2) (oi := { dst := some 62, op := _, type := _, pos := _, after := _, guard := _ }) (v := ?_) (p := [5, 6, 7]) rfl (by kernel_rfl) (by kernel_rfl) (by kernel_rfl) (by kernel_rfl) (by kernel_rfl) (by kernel_rfl) (fun _ _ _ h => h) (Or.inl ⟨by rfl, ?_⟩) (by assumption) ?_
        rotate_left
        · intro u hSu; have hSv := blkCell hSu; clear hSu; go_simp; (try with_reducible rfl)
        try simp only [Act.put, pS]
        refine wpAnyZ_take (i := 3) (oi := { dst := some 63, op := _, type := _, pos := _, after := _, guard := _ }) (v := ?_) (p := [4, 7]) rfl (by kernel_rfl) (by kernel_rfl) (by kernel_rfl) (by kernel_rfl) (by kernel_rfl) (by kernel_rfl) (fun _ _ _ h => h) (Or.inl ⟨by rfl, ?_⟩) (by assumption) ?_
        rotate_left
        · intro u hSu; have hSv := blkCell hSu; clear hSu; go_simp; (try with_reducible rfl)
        try simp only [Act.put, pS]
        refine wpAnyZ_ready (rs := [4]) (by kernel_rfl) (by simp) ?_
        refine AllReadyZ.cons (o := { dst := some 64, op := _, type := _, pos := _, after := _, guard := _ }) rfl (fun K hK => ?_) ?_
        rotate_left
        · exact AllReadyZ.nil
        go_simp
        (with_reducible refine (Cdb.out _ _ HSd.out).mono ?_); rintro e w2 ⟨rfl, hS2, hk2⟩; have hSn := hS2.get0; have hO2 := ownKept hO0 hbg hk2; have hE2 := ownKept hE0 hbg hk2; try go_simp
        refine hK.out _ _ ?_ (fun hHeld => ?_)
        · first | exact hSn | exact HSd.out.get0
        clear hK K
        try simp only [Act.put, pS]
        refine wpAnyZ_take (i := 5) (oi := { dst := some 65, op := _, type := _, pos := _, after := _, guard := _ }) (v := ?_) (p := [6, 7]) rfl (by kernel_rfl) (by kernel_rfl) (by kernel_rfl) (by kernel_rfl) (by kernel_rfl) (by kernel_rfl) (fun _ _ _ h => h) (Or.inl ⟨by rfl, ?_⟩) (by assumption) ?_
        rotate_left
        · intro u hSu; have hSv := blkCell hSu; clear hSu; go_simp; (try with_reducible rfl)
        try simp only [Act.put, pS]
        refine wpAnyZ_ready (rs := [6]) (by kernel_rfl) (by simp) ?_
        refine AllReadyZ.cons (o := { dst := some 66, op := _, type := _, pos := _, after := _, guard := _ }) rfl (fun K hK => ?_) ?_
        rotate_left
        · exact AllReadyZ.nil
        go_simp
        have hS9 := hS2.step (allocB w2 (.cells #[.int .i64 da, .int .i64 db] 108)); have hSn := hS9.get0; have hO9 := ownBelow hO2 (allocB w2 (.cells #[.int .i64 da, .int .i64 db] 108)); have hG := heap_alloc_new w2 (.cells #[.int .i64 da, .int .i64 db] 108); have hE9 := ownBelow hE2 (allocB w2 (.cells #[.int .i64 da, .int .i64 db] 108))
        refine hK.out _ _ ?_ (fun hHeld => ?_)
        · first | exact hSn | exact HSd.out.get0
        clear hK K
        try simp only [Act.put, pS]
        refine wpAnyZ_ready (rs := [7]) (by kernel_rfl) (by simp) ?_
        refine AllReadyZ.last (o := { dst := some 67, op := _, type := _, pos := _, after := _, guard := _ }) rfl (by kernel_rfl) (fun K hK => ?_) ?_
        rotate_left
        · exact AllReadyZ.nil
        refine wantedIf (by rfl) ?_
        refine wp_push _ (.tmp 61) (.tmp 66) 40 108 Tryz.underlying40 info_dirty rfl (by omega) (by omega) rfl (g + 2) _ ts.length (ts.flatMap diC) rfl hO9 w2.heap.size (diC ⟨da, db⟩) 108 rfl hG rfl (by simp [diC, Value.oneCell']) (by omega) (by have h1 := hS9.size1; simp only at h1; omega) ?_
        intro v7 w7 ho hg7 hb7
        obtain ⟨A7, c7, rfl⟩ := ownLen ho
        have hS7 := hS9.under (M := g + 2) (by omega) (by simp) hb7
        have hSn := hS7.get0
        have hcx7 := blkCell hS7.get0
        have hz7 := blkFrozen hS7.get0
        have hE7 := ownGrown hE9 hO9 (by decide) hg7
        refine hK.out _ _ ?_
        clear hK K
        try simp only [Act.put, pS]
        refine wpAnyZ_ready (rs := [8]) (by kernel_rfl) (by simp) ?_
        refine AllReadyZ.last (o := { dst := some 68, op := _, type := _, pos := _, after := _, guard := _ }) rfl (by kernel_rfl) (fun K hK => ?_) ?_
        rotate_left
        · exact AllReadyZ.nil
        go_simp
        refine hK.out _ _ ?_
        clear hK K
        try simp only [Act.put, pS]
        refine wpAnyZ_ready (rs := [9]) (by kernel_rfl) (by simp) ?_
        refine AllReadyZ.last (o := { dst := none, op := _, type := _, pos := _, after := _, guard := _ }) rfl (by kernel_rfl) (fun K hK => ?_) ?_
        rotate_left
        · exact AllReadyZ.nil
        go_simp
        refine hK.out _ _ ?_
        clear hK K
        try simp only [Act.put, pS]
        refine wpAnyZ_done (by kernel_rfl) ?_ _
        have HS8x := Lib.hid (hS7.set 0 17 (.slice A7 (ts.length + 1) c7) _ rfl)
        have HO8x := Lib.hid (ownSet (OwnL.push (enc := diC) ho) ⟨g, 17, none⟩ (.slice A7 (ts.length + 1) c7) (by show g < g + 2; omega))
        have HE8x := Lib.hid (ownSet hE7 ⟨g, 17, none⟩ (.slice A7 (ts.length + 1) c7) (by show g < g + 2; omega))
        have hwk : IntKind.i64.wrap ((k : Int) + 1) = (k : Int) + 1 := IntWalk.i64_in _ (by omega)
        go_wp2_with fail
        go_roundw
        case rel => exact ⟨k + 1, m - 1, ts ++ [⟨da, db⟩], sdb, _, rfl, by omega, by rw [List.length_append, List.length_singleton]; omega, HN.out, (by have h := HS8x.out; first | exact h | simpa using h), (by have h := HO8x.out; first | exact h | simpa using h), (by have h := HE8x.out; first | exact h | simpa using h)⟩
        case measure => simp [intOf]; omega
  case rest =>
  obtain ⟨v, hS, hO, hE⟩ := hcut
  obtain ⟨AD, cD, rfl⟩ := ownLen hO
  obtain ⟨wz, rfl⟩ : ∃ wm : World, wm = wc := ⟨_, rfl⟩
  have HSz := Lib.hid hS
  have HOz := Lib.hid hO
  have HEz := Lib.hid hE
  clear hS hO hE HSb HOb HR1
  go_wp2_with (first
    | (with_reducible refine listLoad (by kernel_rfl) 42 (.tmp 3) rfl g rfl (rcA lsn prev txn 9 0 0 nu 0 0 ⟨#[]⟩ ⟨#[]⟩ 0 0 ⟨#[]⟩ 0 0 (.slice AT TS.length cT) (.slice AD DS.length cD)) _ HSz.out.get0 _ Tryz.underlying42 (by kernel_rfl) (by kernel_rfl) ?_)
    | (with_reducible refine listStore (by kernel_rfl) 42 (.tmp 4) (.tmp 69) rfl (g + 1) (rcA lsn prev txn 9 0 0 nu 0 0 ⟨#[]⟩ ⟨#[]⟩ 0 0 ⟨#[]⟩ 0 0 (.slice AT TS.length cT) (.slice AD DS.length cD)) _ _ rfl rfl HSz.out.get1 (by kernel_rfl) (by kernel_rfl) (by kernel_rfl) ?_))
  refine bodyPost_ret (v := .agg (rcA lsn prev txn 9 0 0 nu 0 0 ⟨#[]⟩ ⟨#[]⟩ 0 0 ⟨#[]⟩ 0 0 (.slice AT TS.length cT) (.slice AD DS.length cD))) (results_cell rfl _ _ rfl (load_whole (setRow_heap _ _ _ _ _ _ HSz.out.get1) Tryz.underlying42 (by kernel_rfl) (by kernel_rfl))) rfl ?_
  have h8 := HSz.out.row 1 (rcA lsn prev txn 9 0 0 nu 0 0 ⟨#[]⟩ ⟨#[]⟩ 0 0 ⟨#[]⟩ 0 0 (.slice AT TS.length cT) (.slice AD DS.length cD)) _ rfl
  rw [RDH.out]
  exact ⟨AT, cT, AD, cD, rfl, ⟨⟨own_reads (ownRowSet HEz.out _ _ (by omega)), own_reads (ownRowSet HOz.out _ _ (by omega)), ⟨Nat.le_trans hTS (by omega), Nat.le_trans hDS (by omega)⟩⟩, (NewT.own (ownRowSet HEz.out _ _ (by omega))).mono (by omega), (NewT.own (ownRowSet HOz.out _ _ (by omega))).mono (by omega)⟩, h8.kept⟩
end Go.Proofs.YtojaagnfjenhoaaGreat
