/- Which records may be, kind by kind. -/
import Derived.Test.YtojaagnfjenhoaaGreatGl03
import Derived.Test.YtojaagnfjenhoaaGreatGl05
import Derived.Test.YtojaagnfjenhoaaGreatGl02
namespace Rc
abbrev N3 (a b c : Int) : Prop := num a ∧ num b ∧ num c
theorem right_2 (lsn prev txn page next nu how root : Int) (op : Op) (e : Key) (ts : List TxnAt) (ds : List DirtyAt) :
    Right ⟨lsn, prev, txn, 2, page, next, nu, op, how, root, e, ts, ds⟩ ↔ N3 lsn prev txn ∧ ((pg page ∧ opR op) ∧ treeR ⟨lsn, prev, txn, 2, page, next, nu, op, how, root, e, ts, ds⟩) ∧ (⟨lsn, prev, txn, 2, page, 0, 0, op, how, root, e, [], []⟩ : Rec) = ⟨lsn, prev, txn, 2, page, next, nu, op, how, root, e, ts, ds⟩ := by
  constructor
  · intro h
    have f := form_of h
    have h1 := f.change (Or.inl rfl)
    have h2 : next = 0 := f.noNext (fun h => by rcases h with h | h <;> cases h)
    obtain ⟨h3, h4, h5⟩ := f.noLists (fun h => by cases h)
    simp only at h3 h4 h5
    subst h2 h3 h4 h5
    exact ⟨f.nums, ⟨h1, f.tree rfl⟩, rfl⟩
  · rintro ⟨⟨h1, h2, h3⟩, ⟨⟨h4, h5⟩, h6⟩, h7⟩
    rw [← h7]
    exact Right.change _ _ _ _ _ _ _ _ h1 h2 h3 h4 h5 h6
theorem right_3 (lsn prev txn page next nu how root : Int) (op : Op) (e : Key) (ts : List TxnAt) (ds : List DirtyAt) :
    Right ⟨lsn, prev, txn, 3, page, next, nu, op, how, root, e, ts, ds⟩ ↔ N3 lsn prev txn ∧ ((pg page ∧ opR op) ∧ num next) ∧ (⟨lsn, prev, txn, 3, page, next, 0, op, 0, 0, noKey, [], []⟩ : Rec) = ⟨lsn, prev, txn, 3, page, next, nu, op, how, root, e, ts, ds⟩ := by
  constructor
  · intro h
    have f := form_of h
    have h1 := f.change (Or.inr (Or.inl rfl))
    obtain ⟨g1, g2, g3⟩ := f.noTree (fun h => by cases h)
    obtain ⟨h3, h4, h5⟩ := f.noLists (fun h => by cases h)
    simp only at h3 h4 h5 g1 g2 g3
    subst h3 h4 h5 g1 g2 g3
    exact ⟨f.nums, ⟨h1, f.next (Or.inl rfl)⟩, rfl⟩
  · rintro ⟨⟨h1, h2, h3⟩, ⟨⟨h4, h5⟩, h6⟩, h7⟩
    rw [← h7]
    exact Right.clr _ _ _ _ _ _ h1 h2 h3 h4 h5 h6
theorem right_4 (lsn prev txn page next nu how root : Int) (op : Op) (e : Key) (ts : List TxnAt) (ds : List DirtyAt) :
    Right ⟨lsn, prev, txn, 4, page, next, nu, op, how, root, e, ts, ds⟩ ↔ N3 lsn prev txn ∧ num next ∧ (⟨lsn, prev, txn, 4, 0, next, 0, noOp, 0, 0, noKey, [], []⟩ : Rec) = ⟨lsn, prev, txn, 4, page, next, nu, op, how, root, e, ts, ds⟩ := by
  constructor
  · intro h
    have f := form_of h
    obtain ⟨i1, i2⟩ := f.bare (fun h => by rcases h with h | h | h <;> cases h)
    obtain ⟨g1, g2, g3⟩ := f.noTree (fun h => by cases h)
    obtain ⟨h3, h4, h5⟩ := f.noLists (fun h => by cases h)
    simp only at h3 h4 h5 g1 g2 g3 i1 i2
    subst h3 h4 h5 g1 g2 g3 i1 i2
    exact ⟨f.nums, f.next (Or.inr rfl), rfl⟩
  · rintro ⟨⟨h1, h2, h3⟩, h6, h7⟩
    rw [← h7]
    exact Right.nest _ _ _ _ h1 h2 h3 h6
theorem right_8 (lsn prev txn page next nu how root : Int) (op : Op) (e : Key) (ts : List TxnAt) (ds : List DirtyAt) :
    Right ⟨lsn, prev, txn, 8, page, next, nu, op, how, root, e, ts, ds⟩ ↔ N3 lsn prev txn ∧ (pg page ∧ opR op) ∧ (⟨lsn, prev, txn, 8, page, 0, 0, op, 0, 0, noKey, [], []⟩ : Rec) = ⟨lsn, prev, txn, 8, page, next, nu, op, how, root, e, ts, ds⟩ := by
  constructor
  · intro h
    have f := form_of h
    have h1 := f.change (Or.inr (Or.inr rfl))
    have h2 : next = 0 := f.noNext (fun h => by rcases h with h | h <;> cases h)
    obtain ⟨g1, g2, g3⟩ := f.noTree (fun h => by cases h)
    obtain ⟨h3, h4, h5⟩ := f.noLists (fun h => by cases h)
    simp only at h3 h4 h5 g1 g2 g3
    subst h2 h3 h4 h5 g1 g2 g3
    exact ⟨f.nums, h1, rfl⟩
  · rintro ⟨⟨h1, h2, h3⟩, ⟨h4, h5⟩, h7⟩
    rw [← h7]
    exact Right.image _ _ _ _ _ h1 h2 h3 h4 h5
theorem right_9 (lsn prev txn page next nu how root : Int) (op : Op) (e : Key) (ts : List TxnAt) (ds : List DirtyAt) :
    Right ⟨lsn, prev, txn, 9, page, next, nu, op, how, root, e, ts, ds⟩ ↔ N3 lsn prev txn ∧ (((num nu ∧ ts.length ≤ 1000 ∧ ds.length ≤ 2000) ∧ ∀ t ∈ ts, txnR t) ∧ ∀ d ∈ ds, dirtyR d) ∧ (⟨lsn, prev, txn, 9, 0, 0, nu, noOp, 0, 0, noKey, ts, ds⟩ : Rec) = ⟨lsn, prev, txn, 9, page, next, nu, op, how, root, e, ts, ds⟩ := by
  constructor
  · intro h
    have f := form_of h
    obtain ⟨i1, i2⟩ := f.bare (fun h => by rcases h with h | h | h <;> cases h)
    have h2 : next = 0 := f.noNext (fun h => by rcases h with h | h <;> cases h)
    obtain ⟨g1, g2, g3⟩ := f.noTree (fun h => by cases h)
    obtain ⟨j1, j2, j3, j4, j5⟩ := f.lists rfl
    simp only at g1 g2 g3 i1 i2
    subst h2 g1 g2 g3 i1 i2
    exact ⟨f.nums, ⟨⟨⟨j1, j2, j3⟩, j4⟩, j5⟩, rfl⟩
  · rintro ⟨⟨h1, h2, h3⟩, ⟨⟨⟨j1, j2, j3⟩, j4⟩, j5⟩, h7⟩
    rw [← h7]
    exact Right.check _ _ _ _ _ _ h1 h2 h3 j1 ⟨j2, j3, j4, j5⟩
theorem right_small (kind : Int) (hk : kind = 1 ∨ kind = 5 ∨ kind = 6 ∨ kind = 7) (lsn prev txn page next nu how root : Int) (op : Op) (e : Key) (ts : List TxnAt) (ds : List DirtyAt) :
    Right ⟨lsn, prev, txn, kind, page, next, nu, op, how, root, e, ts, ds⟩ ↔ N3 lsn prev txn ∧ (⟨lsn, prev, txn, kind, 0, 0, 0, noOp, 0, 0, noKey, [], []⟩ : Rec) = ⟨lsn, prev, txn, kind, page, next, nu, op, how, root, e, ts, ds⟩ := by
  constructor
  · intro h
    have f := form_of h
    obtain ⟨i1, i2⟩ := f.bare (fun h => by unfold hasChange at h; simp only at h; omega)
    have h2 : next = 0 := f.noNext (fun h => by unfold hasNext at h; simp only at h; omega)
    obtain ⟨g1, g2, g3⟩ := f.noTree (fun h => by simp only at h; omega)
    obtain ⟨h3, h4, h5⟩ := f.noLists (fun h => by simp only at h; omega)
    simp only at h3 h4 h5 g1 g2 g3 i1 i2
    subst h2 h3 h4 h5 g1 g2 g3 i1 i2
    exact ⟨f.nums, rfl⟩
  · rintro ⟨⟨h1, h2, h3⟩, h7⟩
    rw [← h7]
    exact Right.small _ _ _ _ hk h1 h2 h3
theorem right_none {r : Rec} (h : ¬ (1 ≤ r.kind ∧ r.kind ≤ 9)) : ¬ Right r := fun hr => h (form_of hr).kind
end Rc
/- The walk over package rec: Right, of one kind. -/
namespace Go.Proofs.YtojaagnfjenhoaaGreat
open Go.RowKit
set_option maxRecDepth 100000 in
set_option maxHeartbeats 2000000 in
theorem right_change (lsn prev txn page next nu ok os how root ep es : Int) (oo on ek : ByteArray) (ts : List Rc.TxnAt) (ds : List Rc.DirtyAt) (A B : Option Addr) (c d : Nat) (w : World) (hr : RecR w ⟨lsn, prev, txn, 2, page, next, nu, ⟨ok, os, oo, on⟩, how, root, ⟨ek, ep, es⟩, ts, ds⟩ A c B d) :
    Calls Tryz.prog 38 #[.agg (rcA lsn prev txn 2 page next nu ok os oo on how root ek ep es (.slice A ts.length c) (.slice B ds.length d))] w fun e w' => e = .returned (.bool (Rc.rightB ⟨lsn, prev, txn, 2, page, next, nu, ⟨ok, os, oo, on⟩, how, root, ⟨ek, ep, es⟩, ts, ds⟩)) ∧ Below w.heap.size w w' := by
  have HOF := Lib.hid (fun W => of_any 2 W)
  rw [show ofV 2 = .tuple #[formV true true false false true, .bool true] from rfl] at HOF
  have HNO := Lib.hid (fun W g h => number3 lsn prev txn W g h)
  obtain ⟨Q, hQ⟩ : ∃ Q, Q = Rc.rightB ⟨lsn, prev, txn, 2, page, next, nu, ⟨ok, os, oo, on⟩, how, root, ⟨ek, ep, es⟩, ts, ds⟩ := ⟨_, rfl⟩
  rw [← hQ]
  have HQ := Lib.hid hQ
  have hsm := hr.small
  simp only at hsm
  have hsm1 := hsm.1
  have hsm2 := hsm.2
  have HRR := Lib.hid hr
  clear hQ hr hsm
  have RI := Lib.hid (Rc.right_2 lsn prev txn page next nu how root ⟨ok, os, oo, on⟩ ⟨ek, ep, es⟩ ts ds)
  cases hn : decide (Rc.num lsn ∧ Rc.num prev ∧ Rc.num txn) with
  | false =>
    rw [hn] at HNO
    have HF := Lib.hid (HQ.out.trans (Rc.rightB_no fun h => of_decide_eq_false hn (RI.out.1 h).1))
    clear hn RI
    go_enter Tryz.func38, Tryz.ntmps38
    go_wp2_with (first
      | (go_at_call 63; (with_reducible refine (HOF.out _).mono ?_); rintro e w1 ⟨rfl, hb1⟩; have hR := blkCell (blkNew hb1); have hl1 : w.heap.size < w1.heap.size := (by have := hb1.size; simp at this; omega); have HB1 := Lib.hid hb1; clear hb1)
      | (go_at_call 64; (with_reducible refine (HNO.out _ _ ?_).mono ?_); (with_reducible exact new2 _ _ _); rintro e w2 ⟨rfl, hb2⟩; have hR2 := blkCell (blkOld (blkNew HB1.out) (joinB (pastAlloc (allocB _ _)) hb2)); have hl2 : w1.heap.size + 1 < w2.heap.size := (by have := hb2.size; simp at this; omega); have HB2 := Lib.hid hb2; clear hb2)
      | (with_reducible refine wpList_store_new rfl 42 (.tmp 5) (.tmp 33) rfl (rcA lsn prev txn 2 0 0 0 0 0 ⟨#[]⟩ ⟨#[]⟩ 0 0 ⟨#[]⟩ 0 0 (.slice none 0 0) (.slice none 0 0)) _ _ rfl (by kernel_rfl) (by kernel_rfl) (by kernel_rfl) (by kernel_rfl) ?_))
    go_ret
    exact ⟨by rw [HF.out]; rfl, joinB (joinB (allocB _ _) HB1.out) (joinB (pastAlloc (allocB _ _)) HB2.out)⟩
  | true =>
    rw [hn] at HNO
    have HN := Lib.hid (of_decide_eq_true hn)
    clear hn
    go_enter Tryz.func38, Tryz.ntmps38
    go_upto_region 5 with (first
      | (go_at_call 63; (with_reducible refine (HOF.out _).mono ?_); rintro e w1 ⟨rfl, hb1⟩; have hR := blkCell (blkNew hb1); have hl1 : w.heap.size < w1.heap.size := (by have := hb1.size; simp at this; omega); have HB1 := Lib.hid hb1; clear hb1)
      | (go_at_call 64; (with_reducible refine (HNO.out _ _ ?_).mono ?_); (with_reducible exact new2 _ _ _); rintro e w2 ⟨rfl, hb2⟩; have hR2 := blkCell (blkOld (blkNew HB1.out) (joinB (pastAlloc (allocB _ _)) hb2)); have hl2 : w1.heap.size + 1 < w2.heap.size := (by have := hb2.size; simp at this; omega); have HB2 := Lib.hid hb2; clear hb2)
      | (with_reducible refine wpList_store_new rfl 42 (.tmp 5) (.tmp 33) rfl (rcA lsn prev txn 2 0 0 0 0 0 ⟨#[]⟩ ⟨#[]⟩ 0 0 ⟨#[]⟩ 0 0 (.slice none 0 0) (.slice none 0 0)) _ _ rfl (by kernel_rfl) (by kernel_rfl) (by kernel_rfl) (by kernel_rfl) ?_))
    have HX := Lib.hid (boxes_new (R := (rcA lsn prev txn 2 page next nu ok os oo on how root ek ep es (.slice A ts.length c) (.slice B ds.length d))) (F := #[.bool true, .bool true, .bool false, .bool false, .bool true]) (X := (rcA lsn prev txn 2 0 0 0 0 0 ⟨#[]⟩ ⟨#[]⟩ 0 0 ⟨#[]⟩ 0 0 (.slice none 0 0) (.slice none 0 0))) HB1.out HB2.out)
    clear hR hR2 HNO HOF HB1 HB2
    obtain ⟨V, hV⟩ : ∃ V, V = w2.alloc (.cells (rcA lsn prev txn 2 0 0 0 0 0 ⟨#[]⟩ ⟨#[]⟩ 0 0 ⟨#[]⟩ 0 0 (.slice none 0 0) (.slice none 0 0)) 42) := ⟨_, rfl⟩
    rw [← hV] at HX ⊢
    clear hV
    have hR := blkCell HX.out.br
    have hF := blkCell HX.out.bf
    go_upto_region 6 with (fail)
    go_cut [4] (fun s we => s = .bool (decide (Rc.pg page) && decide (Rc.opR ⟨ok, os, oo, on⟩)) ∧ Boxes w w.heap.size w1.heap.size w2.heap.size (rcA lsn prev txn 2 page next nu ok os oo on how root ek ep es (.slice A ts.length c) (.slice B ds.length d)) #[.bool true, .bool true, .bool false, .bool false, .bool true] (rcA lsn prev txn 2 0 0 0 0 0 ⟨#[]⟩ ⟨#[]⟩ 0 0 ⟨#[]⟩ 0 0 (.slice none 0 0) (.slice none 0 0)) we)
    case first =>
      cases hp : decide (Rc.pg page) with
      | false =>
        have HP := Lib.hid hp
        clear hp
        go_wp2_with (first | (go_at_call 65; (with_reducible refine (paged1 page _ _ ?_).mono ?_); (with_reducible exact heap_alloc_new _ _); rintro e w3 ⟨rfl, hb3⟩; rw [HP.out]))
        go_meet
        case rel => exact ⟨by simp [HP.out], HX.out.step (joinB (allocB _ _) hb3)⟩
      | true =>
        have HP := Lib.hid hp
        clear hp
        generalize hqo : decide (Rc.opR ⟨ok, os, oo, on⟩) = qo
        have HO := Lib.hid hqo
        clear hqo
        go_wp2_with (first | (go_at_call 65; (with_reducible refine (paged1 page _ _ ?_).mono ?_); (with_reducible exact heap_alloc_new _ _); rintro e w3 ⟨rfl, hb3⟩; rw [HP.out]; have hR3 := blkCell (HX.out.step (joinB (allocB _ _) hb3)).br) | (go_at_call 66; (with_reducible refine (op_any ⟨ok, os, oo, on⟩ _).mono ?_); rintro e w4 ⟨rfl, hb4⟩; rw [HO.out]))
        go_meet
        case rel => exact ⟨by simp [HP.out, HO.out], (HX.out.step (joinB (allocB _ _) hb3)).step hb4⟩
    case rest =>
    obtain ⟨W1, rfl⟩ : ∃ wm : World, wm = wc := ⟨_, rfl⟩
    obtain ⟨rfl, hB1⟩ := hcut
    have H1 := Lib.hid hB1
    clear hR hF hB1 HX
    have hR := blkCell H1.out.br
    have hF := blkCell H1.out.bf
    have hXc := blkCell H1.out.bx
    have hXz := blkFrozen H1.out.bx
    have hne : w.heap.size ≠ w2.heap.size := by have := H1.out.ab; omega
    go_upto_region 7 with (fail)
    go_cut [] (fun we => Boxes w w.heap.size w1.heap.size w2.heap.size (rcA lsn prev txn 2 page next nu ok os oo on how root ek ep es (.slice A ts.length c) (.slice B ds.length d)) #[.bool true, .bool true, .bool false, .bool false, .bool true] (rcA lsn prev txn 2 page 0 0 ok os oo on 0 0 ⟨#[]⟩ 0 0 (.slice none 0 0) (.slice none 0 0)) we)
    case first =>
      go_region
      all_goals
        go_wp2_with fail
        go_meet
        case rel =>
          first
            | (have h := (((((H1.out.set 4 (.int .i64 page)).set 7 (.int .i64 ok)).set 8 (.int .i64 os)).set 9 (.string oo)).set 10 (.string on)).drew; simpa using h)
            | (have h := (((((H1.out.set 7 (.int .i64 ok)).set 8 (.int .i64 os)).set 9 (.string oo)).set 10 (.string on)).set 4 (.int .i64 page)).drew; simpa using h)
    case rest =>
    obtain ⟨W2, rfl⟩ : ∃ wm : World, wm = wc := ⟨_, rfl⟩
    have H2 := Lib.hid hcut
    clear hR hF hXc hXz hcut H1
    have hR := blkCell H2.out.br
    have hF := blkCell H2.out.bf
    go_upto_region 9 with (fail)
    go_cut [4] (fun s we => s = .bool ((decide (Rc.pg page) && decide (Rc.opR ⟨ok, os, oo, on⟩)) && decide (Rc.treeR ⟨lsn, prev, txn, 2, page, next, nu, ⟨ok, os, oo, on⟩, how, root, ⟨ek, ep, es⟩, ts, ds⟩)) ∧ Boxes w w.heap.size w1.heap.size w2.heap.size (rcA lsn prev txn 2 page next nu ok os oo on how root ek ep es (.slice A ts.length c) (.slice B ds.length d)) #[.bool true, .bool true, .bool false, .bool false, .bool true] (rcA lsn prev txn 2 page 0 0 ok os oo on 0 0 ⟨#[]⟩ 0 0 (.slice none 0 0) (.slice none 0 0)) we)
    case first =>
      generalize hqa : (decide (Rc.pg page) && decide (Rc.opR ⟨ok, os, oo, on⟩)) = qa
      have HA := Lib.hid hqa
      clear hqa
      cases qa with
      | false =>
        go_wp2_with fail
        go_meet
        case rel => exact ⟨by simp [HA.out], H2.out⟩
      | true =>
        generalize hqt : decide (Rc.treeR ⟨lsn, prev, txn, 2, page, next, nu, ⟨ok, os, oo, on⟩, how, root, ⟨ek, ep, es⟩, ts, ds⟩) = qt
        have HT := Lib.hid hqt
        clear hqt
        go_wp2_with (first | (with_reducible refine listLoad (by kernel_rfl) 42 (.tmp 1) rfl w.heap.size rfl (rcA lsn prev txn 2 page next nu ok os oo on how root ek ep es (.slice A ts.length c) (.slice B ds.length d)) _ H2.out.br _ Tryz.underlying42 (by kernel_rfl) (by kernel_rfl) ?_) | (go_at_call 67; (with_reducible refine (tree_any ⟨lsn, prev, txn, 2, page, next, nu, ⟨ok, os, oo, on⟩, how, root, ⟨ek, ep, es⟩, ts, ds⟩ (.slice A ts.length c) (.slice B ds.length d) _).mono ?_); rintro e w5 ⟨rfl, hb5⟩; rw [HT.out]))
        go_meet
        case rel => exact ⟨by simp [HA.out, HT.out], H2.out.step hb5⟩
    case rest =>
    obtain ⟨W3, rfl⟩ : ∃ wm : World, wm = wc := ⟨_, rfl⟩
    obtain ⟨rfl, hB3⟩ := hcut
    have H3 := Lib.hid hB3
    clear hR hF hB3 H2
    have hR := blkCell H3.out.br
    have hF := blkCell H3.out.bf
    have hXc := blkCell H3.out.bx
    have hXz := blkFrozen H3.out.bx
    have hne : w.heap.size ≠ w2.heap.size := by have := H3.out.ab; omega
    go_upto_region 10 with (fail)
    go_cut [] (fun we => Boxes w w.heap.size w1.heap.size w2.heap.size (rcA lsn prev txn 2 page next nu ok os oo on how root ek ep es (.slice A ts.length c) (.slice B ds.length d)) #[.bool true, .bool true, .bool false, .bool false, .bool true] (rcA lsn prev txn 2 page 0 0 ok os oo on how root ek ep es (.slice none 0 0) (.slice none 0 0)) we)
    case first =>
      go_region
      all_goals
        go_wp2_with fail
        go_meet
        case rel =>
          first
            | (have h := (((((H3.out.set 11 (.int .i64 how)).set 12 (.int .i64 root)).set 13 (.string ek)).set 14 (.int .i64 ep)).set 15 (.int .i64 es)).drew; simpa using h)
            | (have h := (((((H3.out.set 11 (.int .i64 how)).set 13 (.string ek)).set 14 (.int .i64 ep)).set 15 (.int .i64 es)).set 12 (.int .i64 root)).drew; simpa using h)
            | (have h := (((((H3.out.set 12 (.int .i64 root)).set 11 (.int .i64 how)).set 13 (.string ek)).set 14 (.int .i64 ep)).set 15 (.int .i64 es)).drew; simpa using h)
            | (have h := (((((H3.out.set 12 (.int .i64 root)).set 13 (.string ek)).set 14 (.int .i64 ep)).set 15 (.int .i64 es)).set 11 (.int .i64 how)).drew; simpa using h)
            | (have h := (((((H3.out.set 13 (.string ek)).set 14 (.int .i64 ep)).set 15 (.int .i64 es)).set 11 (.int .i64 how)).set 12 (.int .i64 root)).drew; simpa using h)
            | (have h := (((((H3.out.set 13 (.string ek)).set 14 (.int .i64 ep)).set 15 (.int .i64 es)).set 12 (.int .i64 root)).set 11 (.int .i64 how)).drew; simpa using h)
    case rest =>
    obtain ⟨W4, rfl⟩ : ∃ wm : World, wm = wc := ⟨_, rfl⟩
    have H4 := Lib.hid hcut
    clear hR hF hXc hXz hcut H3
    have hR := blkCell H4.out.br
    have hF := blkCell H4.out.bf
    go_upto_region 19 with (fail)
    generalize hqa : ((decide (Rc.pg page) && decide (Rc.opR ⟨ok, os, oo, on⟩)) && decide (Rc.treeR ⟨lsn, prev, txn, 2, page, next, nu, ⟨ok, os, oo, on⟩, how, root, ⟨ek, ep, es⟩, ts, ds⟩)) = qa
    have HA := Lib.hid hqa
    clear hqa
    cases qa with
    | false =>
      go_wp2_with fail
      go_ret
      refine ⟨?_, H4.out.below⟩
      have HF := HQ.out.trans (Rc.rightB_no fun h => by
        have h2 := (RI.out.1 h).2.1
        have h3 := HA.out
        simp only [Bool.and_eq_false_iff, decide_eq_false_iff_not] at h3
        grind)
      rw [HF]
      rfl
    | true =>
      have HS := Lib.hid (same_any ⟨lsn, prev, txn, 2, page, 0, 0, ⟨ok, os, oo, on⟩, how, root, ⟨ek, ep, es⟩, [], []⟩ ⟨lsn, prev, txn, 2, page, next, nu, ⟨ok, os, oo, on⟩, how, root, ⟨ek, ep, es⟩, ts, ds⟩ none A none B 0 c 0 d W4 ⟨(Reads.none_ _ _ _ _), (Reads.none_ _ _ _ _), ⟨by simp, by simp⟩⟩ (HRR.out.below H4.out.below))
      dsimp only [recV, recA, List.length_nil] at HS
      cases he : decide ((⟨lsn, prev, txn, 2, page, 0, 0, ⟨ok, os, oo, on⟩, how, root, ⟨ek, ep, es⟩, [], []⟩ : Rc.Rec) = ⟨lsn, prev, txn, 2, page, next, nu, ⟨ok, os, oo, on⟩, how, root, ⟨ek, ep, es⟩, ts, ds⟩) with
      | false =>
        have HE := Lib.hid he
        clear he
        go_wp2_with (first | (with_reducible refine listLoad (by kernel_rfl) 42 (.tmp 5) rfl w2.heap.size rfl (rcA lsn prev txn 2 page 0 0 ok os oo on how root ek ep es (.slice none 0 0) (.slice none 0 0)) _ H4.out.bx _ Tryz.underlying42 (by kernel_rfl) (by kernel_rfl) ?_) | (with_reducible refine listLoad (by kernel_rfl) 42 (.tmp 1) rfl w.heap.size rfl (rcA lsn prev txn 2 page next nu ok os oo on how root ek ep es (.slice A ts.length c) (.slice B ds.length d)) _ H4.out.br _ Tryz.underlying42 (by kernel_rfl) (by kernel_rfl) ?_) | (go_at_call 72; (with_reducible refine HS.out.mono ?_); rintro e w9 ⟨rfl, hb9⟩; rw [HE.out]))
        go_ret
        refine ⟨?_, joinB H4.out.below hb9⟩
        rw [HQ.out.trans (Rc.rightB_no fun h => of_decide_eq_false HE.out (RI.out.1 h).2.2)]
        rfl
      | true =>
        have HE := Lib.hid he
        clear he
        go_wp2_with (first | (with_reducible refine listLoad (by kernel_rfl) 42 (.tmp 5) rfl w2.heap.size rfl (rcA lsn prev txn 2 page 0 0 ok os oo on how root ek ep es (.slice none 0 0) (.slice none 0 0)) _ H4.out.bx _ Tryz.underlying42 (by kernel_rfl) (by kernel_rfl) ?_) | (with_reducible refine listLoad (by kernel_rfl) 42 (.tmp 1) rfl w.heap.size rfl (rcA lsn prev txn 2 page next nu ok os oo on how root ek ep es (.slice A ts.length c) (.slice B ds.length d)) _ H4.out.br _ Tryz.underlying42 (by kernel_rfl) (by kernel_rfl) ?_) | (go_at_call 72; (with_reducible refine HS.out.mono ?_); rintro e w9 ⟨rfl, hb9⟩; rw [HE.out]))
        go_ret
        refine ⟨?_, joinB H4.out.below hb9⟩
        rw [HQ.out.trans (Rc.rightB_yes (RI.out.2 ⟨HN.out, by have h3 := HA.out; simpa only [Bool.and_eq_true, decide_eq_true_eq] using h3, of_decide_eq_true HE.out⟩))]
        rfl
end Go.Proofs.YtojaagnfjenhoaaGreat
/- The walk over package rec: Right, of one kind. -/
namespace Go.Proofs.YtojaagnfjenhoaaGreat
open Go.RowKit
set_option maxRecDepth 100000 in
set_option maxHeartbeats 2000000 in
theorem right_clr (lsn prev txn page next nu ok os how root ep es : Int) (oo on ek : ByteArray) (ts : List Rc.TxnAt) (ds : List Rc.DirtyAt) (A B : Option Addr) (c d : Nat) (w : World) (hr : RecR w ⟨lsn, prev, txn, 3, page, next, nu, ⟨ok, os, oo, on⟩, how, root, ⟨ek, ep, es⟩, ts, ds⟩ A c B d) :
    Calls Tryz.prog 38 #[.agg (rcA lsn prev txn 3 page next nu ok os oo on how root ek ep es (.slice A ts.length c) (.slice B ds.length d))] w fun e w' => e = .returned (.bool (Rc.rightB ⟨lsn, prev, txn, 3, page, next, nu, ⟨ok, os, oo, on⟩, how, root, ⟨ek, ep, es⟩, ts, ds⟩)) ∧ Below w.heap.size w w' := by
  have HOF := Lib.hid (fun W => of_any 3 W)
  rw [show ofV 3 = .tuple #[formV true false true false true, .bool true] from rfl] at HOF
  have HNO := Lib.hid (fun W g h => number3 lsn prev txn W g h)
  obtain ⟨Q, hQ⟩ : ∃ Q, Q = Rc.rightB ⟨lsn, prev, txn, 3, page, next, nu, ⟨ok, os, oo, on⟩, how, root, ⟨ek, ep, es⟩, ts, ds⟩ := ⟨_, rfl⟩
  rw [← hQ]
  have HQ := Lib.hid hQ
  have hsm := hr.small
  simp only at hsm
  have hsm1 := hsm.1
  have hsm2 := hsm.2
  have HRR := Lib.hid hr
  clear hQ hr hsm
  have RI := Lib.hid (Rc.right_3 lsn prev txn page next nu how root ⟨ok, os, oo, on⟩ ⟨ek, ep, es⟩ ts ds)
  cases hn : decide (Rc.num lsn ∧ Rc.num prev ∧ Rc.num txn) with
  | false =>
    rw [hn] at HNO
    have HF := Lib.hid (HQ.out.trans (Rc.rightB_no fun h => of_decide_eq_false hn (RI.out.1 h).1))
    clear hn RI
    go_enter Tryz.func38, Tryz.ntmps38
    go_wp2_with (first
      | (go_at_call 63; (with_reducible refine (HOF.out _).mono ?_); rintro e w1 ⟨rfl, hb1⟩; have hR := blkCell (blkNew hb1); have hl1 : w.heap.size < w1.heap.size := (by have := hb1.size; simp at this; omega); have HB1 := Lib.hid hb1; clear hb1)
      | (go_at_call 64; (with_reducible refine (HNO.out _ _ ?_).mono ?_); (with_reducible exact new2 _ _ _); rintro e w2 ⟨rfl, hb2⟩; have hR2 := blkCell (blkOld (blkNew HB1.out) (joinB (pastAlloc (allocB _ _)) hb2)); have hl2 : w1.heap.size + 1 < w2.heap.size := (by have := hb2.size; simp at this; omega); have HB2 := Lib.hid hb2; clear hb2)
      | (with_reducible refine wpList_store_new rfl 42 (.tmp 5) (.tmp 33) rfl (rcA lsn prev txn 3 0 0 0 0 0 ⟨#[]⟩ ⟨#[]⟩ 0 0 ⟨#[]⟩ 0 0 (.slice none 0 0) (.slice none 0 0)) _ _ rfl (by kernel_rfl) (by kernel_rfl) (by kernel_rfl) (by kernel_rfl) ?_))
    go_ret
    exact ⟨by rw [HF.out]; rfl, joinB (joinB (allocB _ _) HB1.out) (joinB (pastAlloc (allocB _ _)) HB2.out)⟩
  | true =>
    rw [hn] at HNO
    have HN := Lib.hid (of_decide_eq_true hn)
    clear hn
    go_enter Tryz.func38, Tryz.ntmps38
    go_upto_region 5 with (first
      | (go_at_call 63; (with_reducible refine (HOF.out _).mono ?_); rintro e w1 ⟨rfl, hb1⟩; have hR := blkCell (blkNew hb1); have hl1 : w.heap.size < w1.heap.size := (by have := hb1.size; simp at this; omega); have HB1 := Lib.hid hb1; clear hb1)
      | (go_at_call 64; (with_reducible refine (HNO.out _ _ ?_).mono ?_); (with_reducible exact new2 _ _ _); rintro e w2 ⟨rfl, hb2⟩; have hR2 := blkCell (blkOld (blkNew HB1.out) (joinB (pastAlloc (allocB _ _)) hb2)); have hl2 : w1.heap.size + 1 < w2.heap.size := (by have := hb2.size; simp at this; omega); have HB2 := Lib.hid hb2; clear hb2)
      | (with_reducible refine wpList_store_new rfl 42 (.tmp 5) (.tmp 33) rfl (rcA lsn prev txn 3 0 0 0 0 0 ⟨#[]⟩ ⟨#[]⟩ 0 0 ⟨#[]⟩ 0 0 (.slice none 0 0) (.slice none 0 0)) _ _ rfl (by kernel_rfl) (by kernel_rfl) (by kernel_rfl) (by kernel_rfl) ?_))
    have HX := Lib.hid (boxes_new (R := (rcA lsn prev txn 3 page next nu ok os oo on how root ek ep es (.slice A ts.length c) (.slice B ds.length d))) (F := #[.bool true, .bool false, .bool true, .bool false, .bool true]) (X := (rcA lsn prev txn 3 0 0 0 0 0 ⟨#[]⟩ ⟨#[]⟩ 0 0 ⟨#[]⟩ 0 0 (.slice none 0 0) (.slice none 0 0))) HB1.out HB2.out)
    clear hR hR2 HNO HOF HB1 HB2
    obtain ⟨V, hV⟩ : ∃ V, V = w2.alloc (.cells (rcA lsn prev txn 3 0 0 0 0 0 ⟨#[]⟩ ⟨#[]⟩ 0 0 ⟨#[]⟩ 0 0 (.slice none 0 0) (.slice none 0 0)) 42) := ⟨_, rfl⟩
    rw [← hV] at HX ⊢
    clear hV
    have hR := blkCell HX.out.br
    have hF := blkCell HX.out.bf
    go_upto_region 6 with (fail)
    go_cut [4] (fun s we => s = .bool (decide (Rc.pg page) && decide (Rc.opR ⟨ok, os, oo, on⟩)) ∧ Boxes w w.heap.size w1.heap.size w2.heap.size (rcA lsn prev txn 3 page next nu ok os oo on how root ek ep es (.slice A ts.length c) (.slice B ds.length d)) #[.bool true, .bool false, .bool true, .bool false, .bool true] (rcA lsn prev txn 3 0 0 0 0 0 ⟨#[]⟩ ⟨#[]⟩ 0 0 ⟨#[]⟩ 0 0 (.slice none 0 0) (.slice none 0 0)) we)
    case first =>
      cases hp : decide (Rc.pg page) with
      | false =>
        have HP := Lib.hid hp
        clear hp
        go_wp2_with (first | (go_at_call 65; (with_reducible refine (paged1 page _ _ ?_).mono ?_); (with_reducible exact heap_alloc_new _ _); rintro e w3 ⟨rfl, hb3⟩; rw [HP.out]))
        go_meet
        case rel => exact ⟨by simp [HP.out], HX.out.step (joinB (allocB _ _) hb3)⟩
      | true =>
        have HP := Lib.hid hp
        clear hp
        generalize hqo : decide (Rc.opR ⟨ok, os, oo, on⟩) = qo
        have HO := Lib.hid hqo
        clear hqo
        go_wp2_with (first | (go_at_call 65; (with_reducible refine (paged1 page _ _ ?_).mono ?_); (with_reducible exact heap_alloc_new _ _); rintro e w3 ⟨rfl, hb3⟩; rw [HP.out]; have hR3 := blkCell (HX.out.step (joinB (allocB _ _) hb3)).br) | (go_at_call 66; (with_reducible refine (op_any ⟨ok, os, oo, on⟩ _).mono ?_); rintro e w4 ⟨rfl, hb4⟩; rw [HO.out]))
        go_meet
        case rel => exact ⟨by simp [HP.out, HO.out], (HX.out.step (joinB (allocB _ _) hb3)).step hb4⟩
    case rest =>
    obtain ⟨W1, rfl⟩ : ∃ wm : World, wm = wc := ⟨_, rfl⟩
    obtain ⟨rfl, hB1⟩ := hcut
    have H1 := Lib.hid hB1
    clear hR hF hB1 HX
    have hR := blkCell H1.out.br
    have hF := blkCell H1.out.bf
    have hXc := blkCell H1.out.bx
    have hXz := blkFrozen H1.out.bx
    have hne : w.heap.size ≠ w2.heap.size := by have := H1.out.ab; omega
    go_upto_region 7 with (fail)
    go_cut [] (fun we => Boxes w w.heap.size w1.heap.size w2.heap.size (rcA lsn prev txn 3 page next nu ok os oo on how root ek ep es (.slice A ts.length c) (.slice B ds.length d)) #[.bool true, .bool false, .bool true, .bool false, .bool true] (rcA lsn prev txn 3 page 0 0 ok os oo on 0 0 ⟨#[]⟩ 0 0 (.slice none 0 0) (.slice none 0 0)) we)
    case first =>
      go_region
      all_goals
        go_wp2_with fail
        go_meet
        case rel =>
          first
            | (have h := (((((H1.out.set 4 (.int .i64 page)).set 7 (.int .i64 ok)).set 8 (.int .i64 os)).set 9 (.string oo)).set 10 (.string on)).drew; simpa using h)
            | (have h := (((((H1.out.set 7 (.int .i64 ok)).set 8 (.int .i64 os)).set 9 (.string oo)).set 10 (.string on)).set 4 (.int .i64 page)).drew; simpa using h)
    case rest =>
    obtain ⟨W2, rfl⟩ : ∃ wm : World, wm = wc := ⟨_, rfl⟩
    have H2 := Lib.hid hcut
    clear hR hF hXc hXz hcut H1
    have hR := blkCell H2.out.br
    have hF := blkCell H2.out.bf
    go_upto_region 12 with (fail)
    go_cut [4] (fun s we => s = .bool ((decide (Rc.pg page) && decide (Rc.opR ⟨ok, os, oo, on⟩)) && decide (Rc.num next)) ∧ Boxes w w.heap.size w1.heap.size w2.heap.size (rcA lsn prev txn 3 page next nu ok os oo on how root ek ep es (.slice A ts.length c) (.slice B ds.length d)) #[.bool true, .bool false, .bool true, .bool false, .bool true] (rcA lsn prev txn 3 page 0 0 ok os oo on 0 0 ⟨#[]⟩ 0 0 (.slice none 0 0) (.slice none 0 0)) we)
    case first =>
      generalize hqa : (decide (Rc.pg page) && decide (Rc.opR ⟨ok, os, oo, on⟩)) = qa
      have HA := Lib.hid hqa
      clear hqa
      cases qa with
      | false =>
        go_wp2_with fail
        go_meet
        case rel => exact ⟨by simp [HA.out], H2.out⟩
      | true =>
        generalize hqt : decide (Rc.num next) = qt
        have HT := Lib.hid hqt
        clear hqt
        go_wp2_with (first | (go_at_call 64; (with_reducible refine (number1 next _ _ ?_).mono ?_); (with_reducible exact heap_alloc_new _ _); rintro e w5 ⟨rfl, hb5⟩; rw [HT.out]))
        go_meet
        case rel => exact ⟨by simp [HA.out, HT.out], H2.out.step (joinB (allocB _ _) hb5)⟩
    case rest =>
    obtain ⟨W3, rfl⟩ : ∃ wm : World, wm = wc := ⟨_, rfl⟩
    obtain ⟨rfl, hB3⟩ := hcut
    have H3 := Lib.hid hB3
    clear hR hF hB3 H2
    have hR := blkCell H3.out.br
    have hF := blkCell H3.out.bf
    have hXc := blkCell H3.out.bx
    have hXz := blkFrozen H3.out.bx
    have hne : w.heap.size ≠ w2.heap.size := by have := H3.out.ab; omega
    go_upto_region 14 with (fail)
    have h := H3.out.set 5 (.int .i64 next)
    have H4 : Hid (Boxes w w.heap.size w1.heap.size w2.heap.size (rcA lsn prev txn 3 page next nu ok os oo on how root ek ep es (.slice A ts.length c) (.slice B ds.length d)) #[.bool true, .bool false, .bool true, .bool false, .bool true] (rcA lsn prev txn 3 page next 0 ok os oo on 0 0 ⟨#[]⟩ 0 0 (.slice none 0 0) (.slice none 0 0)) _) := Lib.hid (by simpa using h)
    clear h hR hF hXc hXz H3
    generalize World.setCell _ _ _ = W4 at H4 ⊢
    have hR := blkCell H4.out.br
    have hF := blkCell H4.out.bf
    go_upto_region 19 with (fail)
    generalize hqa : ((decide (Rc.pg page) && decide (Rc.opR ⟨ok, os, oo, on⟩)) && decide (Rc.num next)) = qa
    have HA := Lib.hid hqa
    clear hqa
    cases qa with
    | false =>
      go_wp2_with fail
      go_ret
      refine ⟨?_, H4.out.below⟩
      have HF := HQ.out.trans (Rc.rightB_no fun h => by
        have h2 := (RI.out.1 h).2.1
        have h3 := HA.out
        simp only [Bool.and_eq_false_iff, decide_eq_false_iff_not] at h3
        grind)
      rw [HF]
      rfl
    | true =>
      have HS := Lib.hid (same_any ⟨lsn, prev, txn, 3, page, next, 0, ⟨ok, os, oo, on⟩, 0, 0, ⟨⟨#[]⟩, 0, 0⟩, [], []⟩ ⟨lsn, prev, txn, 3, page, next, nu, ⟨ok, os, oo, on⟩, how, root, ⟨ek, ep, es⟩, ts, ds⟩ none A none B 0 c 0 d W4 ⟨(Reads.none_ _ _ _ _), (Reads.none_ _ _ _ _), ⟨by simp, by simp⟩⟩ (HRR.out.below H4.out.below))
      dsimp only [recV, recA, List.length_nil] at HS
      cases he : decide ((⟨lsn, prev, txn, 3, page, next, 0, ⟨ok, os, oo, on⟩, 0, 0, ⟨⟨#[]⟩, 0, 0⟩, [], []⟩ : Rc.Rec) = ⟨lsn, prev, txn, 3, page, next, nu, ⟨ok, os, oo, on⟩, how, root, ⟨ek, ep, es⟩, ts, ds⟩) with
      | false =>
        have HE := Lib.hid he
        clear he
        go_wp2_with (first | (with_reducible refine listLoad (by kernel_rfl) 42 (.tmp 5) rfl w2.heap.size rfl (rcA lsn prev txn 3 page next 0 ok os oo on 0 0 ⟨#[]⟩ 0 0 (.slice none 0 0) (.slice none 0 0)) _ H4.out.bx _ Tryz.underlying42 (by kernel_rfl) (by kernel_rfl) ?_) | (with_reducible refine listLoad (by kernel_rfl) 42 (.tmp 1) rfl w.heap.size rfl (rcA lsn prev txn 3 page next nu ok os oo on how root ek ep es (.slice A ts.length c) (.slice B ds.length d)) _ H4.out.br _ Tryz.underlying42 (by kernel_rfl) (by kernel_rfl) ?_) | (go_at_call 72; (with_reducible refine HS.out.mono ?_); rintro e w9 ⟨rfl, hb9⟩; rw [HE.out]))
        go_ret
        refine ⟨?_, joinB H4.out.below hb9⟩
        rw [HQ.out.trans (Rc.rightB_no fun h => of_decide_eq_false HE.out (RI.out.1 h).2.2)]
        rfl
      | true =>
        have HE := Lib.hid he
        clear he
        go_wp2_with (first | (with_reducible refine listLoad (by kernel_rfl) 42 (.tmp 5) rfl w2.heap.size rfl (rcA lsn prev txn 3 page next 0 ok os oo on 0 0 ⟨#[]⟩ 0 0 (.slice none 0 0) (.slice none 0 0)) _ H4.out.bx _ Tryz.underlying42 (by kernel_rfl) (by kernel_rfl) ?_) | (with_reducible refine listLoad (by kernel_rfl) 42 (.tmp 1) rfl w.heap.size rfl (rcA lsn prev txn 3 page next nu ok os oo on how root ek ep es (.slice A ts.length c) (.slice B ds.length d)) _ H4.out.br _ Tryz.underlying42 (by kernel_rfl) (by kernel_rfl) ?_) | (go_at_call 72; (with_reducible refine HS.out.mono ?_); rintro e w9 ⟨rfl, hb9⟩; rw [HE.out]))
        go_ret
        refine ⟨?_, joinB H4.out.below hb9⟩
        rw [HQ.out.trans (Rc.rightB_yes (RI.out.2 ⟨HN.out, by have h3 := HA.out; simpa only [Bool.and_eq_true, decide_eq_true_eq] using h3, of_decide_eq_true HE.out⟩))]
        rfl
end Go.Proofs.YtojaagnfjenhoaaGreat
/- The walk over package rec: Right, of one kind. -/
namespace Go.Proofs.YtojaagnfjenhoaaGreat
open Go.RowKit
set_option maxRecDepth 100000 in
set_option maxHeartbeats 2000000 in
theorem right_nest (lsn prev txn page next nu ok os how root ep es : Int) (oo on ek : ByteArray) (ts : List Rc.TxnAt) (ds : List Rc.DirtyAt) (A B : Option Addr) (c d : Nat) (w : World) (hr : RecR w ⟨lsn, prev, txn, 4, page, next, nu, ⟨ok, os, oo, on⟩, how, root, ⟨ek, ep, es⟩, ts, ds⟩ A c B d) :
    Calls Tryz.prog 38 #[.agg (rcA lsn prev txn 4 page next nu ok os oo on how root ek ep es (.slice A ts.length c) (.slice B ds.length d))] w fun e w' => e = .returned (.bool (Rc.rightB ⟨lsn, prev, txn, 4, page, next, nu, ⟨ok, os, oo, on⟩, how, root, ⟨ek, ep, es⟩, ts, ds⟩)) ∧ Below w.heap.size w w' := by
  have HOF := Lib.hid (fun W => of_any 4 W)
  rw [show ofV 4 = .tuple #[formV false false true false true, .bool true] from rfl] at HOF
  have HNO := Lib.hid (fun W g h => number3 lsn prev txn W g h)
  obtain ⟨Q, hQ⟩ : ∃ Q, Q = Rc.rightB ⟨lsn, prev, txn, 4, page, next, nu, ⟨ok, os, oo, on⟩, how, root, ⟨ek, ep, es⟩, ts, ds⟩ := ⟨_, rfl⟩
  rw [← hQ]
  have HQ := Lib.hid hQ
  have hsm := hr.small
  simp only at hsm
  have hsm1 := hsm.1
  have hsm2 := hsm.2
  have HRR := Lib.hid hr
  clear hQ hr hsm
  have RI := Lib.hid (Rc.right_4 lsn prev txn page next nu how root ⟨ok, os, oo, on⟩ ⟨ek, ep, es⟩ ts ds)
  cases hn : decide (Rc.num lsn ∧ Rc.num prev ∧ Rc.num txn) with
  | false =>
    rw [hn] at HNO
    have HF := Lib.hid (HQ.out.trans (Rc.rightB_no fun h => of_decide_eq_false hn (RI.out.1 h).1))
    clear hn RI
    go_enter Tryz.func38, Tryz.ntmps38
    go_wp2_with (first
      | (go_at_call 63; (with_reducible refine (HOF.out _).mono ?_); rintro e w1 ⟨rfl, hb1⟩; have hR := blkCell (blkNew hb1); have hl1 : w.heap.size < w1.heap.size := (by have := hb1.size; simp at this; omega); have HB1 := Lib.hid hb1; clear hb1)
      | (go_at_call 64; (with_reducible refine (HNO.out _ _ ?_).mono ?_); (with_reducible exact new2 _ _ _); rintro e w2 ⟨rfl, hb2⟩; have hR2 := blkCell (blkOld (blkNew HB1.out) (joinB (pastAlloc (allocB _ _)) hb2)); have hl2 : w1.heap.size + 1 < w2.heap.size := (by have := hb2.size; simp at this; omega); have HB2 := Lib.hid hb2; clear hb2)
      | (with_reducible refine wpList_store_new rfl 42 (.tmp 5) (.tmp 33) rfl (rcA lsn prev txn 4 0 0 0 0 0 ⟨#[]⟩ ⟨#[]⟩ 0 0 ⟨#[]⟩ 0 0 (.slice none 0 0) (.slice none 0 0)) _ _ rfl (by kernel_rfl) (by kernel_rfl) (by kernel_rfl) (by kernel_rfl) ?_))
    go_ret
    exact ⟨by rw [HF.out]; rfl, joinB (joinB (allocB _ _) HB1.out) (joinB (pastAlloc (allocB _ _)) HB2.out)⟩
  | true =>
    rw [hn] at HNO
    have HN := Lib.hid (of_decide_eq_true hn)
    clear hn
    go_enter Tryz.func38, Tryz.ntmps38
    go_upto_region 5 with (first
      | (go_at_call 63; (with_reducible refine (HOF.out _).mono ?_); rintro e w1 ⟨rfl, hb1⟩; have hR := blkCell (blkNew hb1); have hl1 : w.heap.size < w1.heap.size := (by have := hb1.size; simp at this; omega); have HB1 := Lib.hid hb1; clear hb1)
      | (go_at_call 64; (with_reducible refine (HNO.out _ _ ?_).mono ?_); (with_reducible exact new2 _ _ _); rintro e w2 ⟨rfl, hb2⟩; have hR2 := blkCell (blkOld (blkNew HB1.out) (joinB (pastAlloc (allocB _ _)) hb2)); have hl2 : w1.heap.size + 1 < w2.heap.size := (by have := hb2.size; simp at this; omega); have HB2 := Lib.hid hb2; clear hb2)
      | (with_reducible refine wpList_store_new rfl 42 (.tmp 5) (.tmp 33) rfl (rcA lsn prev txn 4 0 0 0 0 0 ⟨#[]⟩ ⟨#[]⟩ 0 0 ⟨#[]⟩ 0 0 (.slice none 0 0) (.slice none 0 0)) _ _ rfl (by kernel_rfl) (by kernel_rfl) (by kernel_rfl) (by kernel_rfl) ?_))
    have HX := Lib.hid (boxes_new (R := (rcA lsn prev txn 4 page next nu ok os oo on how root ek ep es (.slice A ts.length c) (.slice B ds.length d))) (F := #[.bool false, .bool false, .bool true, .bool false, .bool true]) (X := (rcA lsn prev txn 4 0 0 0 0 0 ⟨#[]⟩ ⟨#[]⟩ 0 0 ⟨#[]⟩ 0 0 (.slice none 0 0) (.slice none 0 0))) HB1.out HB2.out)
    clear hR hR2 HNO HOF HB1 HB2
    obtain ⟨V, hV⟩ : ∃ V, V = w2.alloc (.cells (rcA lsn prev txn 4 0 0 0 0 0 ⟨#[]⟩ ⟨#[]⟩ 0 0 ⟨#[]⟩ 0 0 (.slice none 0 0) (.slice none 0 0)) 42) := ⟨_, rfl⟩
    rw [← hV] at HX ⊢
    clear hV
    have hR := blkCell HX.out.br
    have hF := blkCell HX.out.bf
    go_upto_region 12 with (fail)
    go_cut [4] (fun s we => s = .bool (decide (Rc.num next)) ∧ Boxes w w.heap.size w1.heap.size w2.heap.size (rcA lsn prev txn 4 page next nu ok os oo on how root ek ep es (.slice A ts.length c) (.slice B ds.length d)) #[.bool false, .bool false, .bool true, .bool false, .bool true] (rcA lsn prev txn 4 0 0 0 0 0 ⟨#[]⟩ ⟨#[]⟩ 0 0 ⟨#[]⟩ 0 0 (.slice none 0 0) (.slice none 0 0)) we)
    case first =>
      generalize hqt : decide (Rc.num next) = qt
      have HT := Lib.hid hqt
      clear hqt
      go_wp2_with (first | (go_at_call 64; (with_reducible refine (number1 next _ _ ?_).mono ?_); (with_reducible exact heap_alloc_new _ _); rintro e w5 ⟨rfl, hb5⟩; rw [HT.out]))
      go_meet
      case rel => exact ⟨by simp [HT.out], HX.out.step (joinB (allocB _ _) hb5)⟩
    case rest =>
    obtain ⟨W1, rfl⟩ : ∃ wm : World, wm = wc := ⟨_, rfl⟩
    obtain ⟨rfl, hB1⟩ := hcut
    have H1 := Lib.hid hB1
    clear hR hF hB1 HX
    have hR := blkCell H1.out.br
    have hF := blkCell H1.out.bf
    have hXc := blkCell H1.out.bx
    have hXz := blkFrozen H1.out.bx
    have hne : w.heap.size ≠ w2.heap.size := by have := H1.out.ab; omega
    go_upto_region 14 with (fail)
    have h := H1.out.set 5 (.int .i64 next)
    have H2 : Hid (Boxes w w.heap.size w1.heap.size w2.heap.size (rcA lsn prev txn 4 page next nu ok os oo on how root ek ep es (.slice A ts.length c) (.slice B ds.length d)) #[.bool false, .bool false, .bool true, .bool false, .bool true] (rcA lsn prev txn 4 0 next 0 0 0 ⟨#[]⟩ ⟨#[]⟩ 0 0 ⟨#[]⟩ 0 0 (.slice none 0 0) (.slice none 0 0)) _) := Lib.hid (by simpa using h)
    clear h hR hF hXc hXz H1
    generalize World.setCell _ _ _ = W2 at H2 ⊢
    have hR := blkCell H2.out.br
    have hF := blkCell H2.out.bf
    go_upto_region 19 with (fail)
    generalize hqa : (decide (Rc.num next)) = qa
    have HA := Lib.hid hqa
    clear hqa
    cases qa with
    | false =>
      go_wp2_with fail
      go_ret
      refine ⟨?_, H2.out.below⟩
      have HF := HQ.out.trans (Rc.rightB_no fun h => by
        have h2 := (RI.out.1 h).2.1
        have h3 := HA.out
        simp only [decide_eq_false_iff_not] at h3
        grind)
      rw [HF]
      rfl
    | true =>
      have HS := Lib.hid (same_any ⟨lsn, prev, txn, 4, 0, next, 0, ⟨0, 0, ⟨#[]⟩, ⟨#[]⟩⟩, 0, 0, ⟨⟨#[]⟩, 0, 0⟩, [], []⟩ ⟨lsn, prev, txn, 4, page, next, nu, ⟨ok, os, oo, on⟩, how, root, ⟨ek, ep, es⟩, ts, ds⟩ none A none B 0 c 0 d W2 ⟨(Reads.none_ _ _ _ _), (Reads.none_ _ _ _ _), ⟨by simp, by simp⟩⟩ (HRR.out.below H2.out.below))
      dsimp only [recV, recA, List.length_nil] at HS
      cases he : decide ((⟨lsn, prev, txn, 4, 0, next, 0, ⟨0, 0, ⟨#[]⟩, ⟨#[]⟩⟩, 0, 0, ⟨⟨#[]⟩, 0, 0⟩, [], []⟩ : Rc.Rec) = ⟨lsn, prev, txn, 4, page, next, nu, ⟨ok, os, oo, on⟩, how, root, ⟨ek, ep, es⟩, ts, ds⟩) with
      | false =>
        have HE := Lib.hid he
        clear he
        go_wp2_with (first | (with_reducible refine listLoad (by kernel_rfl) 42 (.tmp 5) rfl w2.heap.size rfl (rcA lsn prev txn 4 0 next 0 0 0 ⟨#[]⟩ ⟨#[]⟩ 0 0 ⟨#[]⟩ 0 0 (.slice none 0 0) (.slice none 0 0)) _ H2.out.bx _ Tryz.underlying42 (by kernel_rfl) (by kernel_rfl) ?_) | (with_reducible refine listLoad (by kernel_rfl) 42 (.tmp 1) rfl w.heap.size rfl (rcA lsn prev txn 4 page next nu ok os oo on how root ek ep es (.slice A ts.length c) (.slice B ds.length d)) _ H2.out.br _ Tryz.underlying42 (by kernel_rfl) (by kernel_rfl) ?_) | (go_at_call 72; (with_reducible refine HS.out.mono ?_); rintro e w9 ⟨rfl, hb9⟩; rw [HE.out]))
        go_ret
        refine ⟨?_, joinB H2.out.below hb9⟩
        rw [HQ.out.trans (Rc.rightB_no fun h => of_decide_eq_false HE.out (RI.out.1 h).2.2)]
        rfl
      | true =>
        have HE := Lib.hid he
        clear he
        go_wp2_with (first | (with_reducible refine listLoad (by kernel_rfl) 42 (.tmp 5) rfl w2.heap.size rfl (rcA lsn prev txn 4 0 next 0 0 0 ⟨#[]⟩ ⟨#[]⟩ 0 0 ⟨#[]⟩ 0 0 (.slice none 0 0) (.slice none 0 0)) _ H2.out.bx _ Tryz.underlying42 (by kernel_rfl) (by kernel_rfl) ?_) | (with_reducible refine listLoad (by kernel_rfl) 42 (.tmp 1) rfl w.heap.size rfl (rcA lsn prev txn 4 page next nu ok os oo on how root ek ep es (.slice A ts.length c) (.slice B ds.length d)) _ H2.out.br _ Tryz.underlying42 (by kernel_rfl) (by kernel_rfl) ?_) | (go_at_call 72; (with_reducible refine HS.out.mono ?_); rintro e w9 ⟨rfl, hb9⟩; rw [HE.out]))
        go_ret
        refine ⟨?_, joinB H2.out.below hb9⟩
        rw [HQ.out.trans (Rc.rightB_yes (RI.out.2 ⟨HN.out, by have h3 := HA.out; simpa only [Bool.and_eq_true, decide_eq_true_eq] using h3, of_decide_eq_true HE.out⟩))]
        rfl
end Go.Proofs.YtojaagnfjenhoaaGreat
/- The walk over package rec: Right, of one kind. -/
namespace Go.Proofs.YtojaagnfjenhoaaGreat
open Go.RowKit
set_option maxRecDepth 100000 in
set_option maxHeartbeats 2000000 in
theorem right_image (lsn prev txn page next nu ok os how root ep es : Int) (oo on ek : ByteArray) (ts : List Rc.TxnAt) (ds : List Rc.DirtyAt) (A B : Option Addr) (c d : Nat) (w : World) (hr : RecR w ⟨lsn, prev, txn, 8, page, next, nu, ⟨ok, os, oo, on⟩, how, root, ⟨ek, ep, es⟩, ts, ds⟩ A c B d) :
    Calls Tryz.prog 38 #[.agg (rcA lsn prev txn 8 page next nu ok os oo on how root ek ep es (.slice A ts.length c) (.slice B ds.length d))] w fun e w' => e = .returned (.bool (Rc.rightB ⟨lsn, prev, txn, 8, page, next, nu, ⟨ok, os, oo, on⟩, how, root, ⟨ek, ep, es⟩, ts, ds⟩)) ∧ Below w.heap.size w w' := by
  have HOF := Lib.hid (fun W => of_any 8 W)
  rw [show ofV 8 = .tuple #[formV true false false false true, .bool true] from rfl] at HOF
  have HNO := Lib.hid (fun W g h => number3 lsn prev txn W g h)
  obtain ⟨Q, hQ⟩ : ∃ Q, Q = Rc.rightB ⟨lsn, prev, txn, 8, page, next, nu, ⟨ok, os, oo, on⟩, how, root, ⟨ek, ep, es⟩, ts, ds⟩ := ⟨_, rfl⟩
  rw [← hQ]
  have HQ := Lib.hid hQ
  have hsm := hr.small
  simp only at hsm
  have hsm1 := hsm.1
  have hsm2 := hsm.2
  have HRR := Lib.hid hr
  clear hQ hr hsm
  have RI := Lib.hid (Rc.right_8 lsn prev txn page next nu how root ⟨ok, os, oo, on⟩ ⟨ek, ep, es⟩ ts ds)
  cases hn : decide (Rc.num lsn ∧ Rc.num prev ∧ Rc.num txn) with
  | false =>
    rw [hn] at HNO
    have HF := Lib.hid (HQ.out.trans (Rc.rightB_no fun h => of_decide_eq_false hn (RI.out.1 h).1))
    clear hn RI
    go_enter Tryz.func38, Tryz.ntmps38
    go_wp2_with (first
      | (go_at_call 63; (with_reducible refine (HOF.out _).mono ?_); rintro e w1 ⟨rfl, hb1⟩; have hR := blkCell (blkNew hb1); have hl1 : w.heap.size < w1.heap.size := (by have := hb1.size; simp at this; omega); have HB1 := Lib.hid hb1; clear hb1)
      | (go_at_call 64; (with_reducible refine (HNO.out _ _ ?_).mono ?_); (with_reducible exact new2 _ _ _); rintro e w2 ⟨rfl, hb2⟩; have hR2 := blkCell (blkOld (blkNew HB1.out) (joinB (pastAlloc (allocB _ _)) hb2)); have hl2 : w1.heap.size + 1 < w2.heap.size := (by have := hb2.size; simp at this; omega); have HB2 := Lib.hid hb2; clear hb2)
      | (with_reducible refine wpList_store_new rfl 42 (.tmp 5) (.tmp 33) rfl (rcA lsn prev txn 8 0 0 0 0 0 ⟨#[]⟩ ⟨#[]⟩ 0 0 ⟨#[]⟩ 0 0 (.slice none 0 0) (.slice none 0 0)) _ _ rfl (by kernel_rfl) (by kernel_rfl) (by kernel_rfl) (by kernel_rfl) ?_))
    go_ret
    exact ⟨by rw [HF.out]; rfl, joinB (joinB (allocB _ _) HB1.out) (joinB (pastAlloc (allocB _ _)) HB2.out)⟩
  | true =>
    rw [hn] at HNO
    have HN := Lib.hid (of_decide_eq_true hn)
    clear hn
    go_enter Tryz.func38, Tryz.ntmps38
    go_upto_region 5 with (first
      | (go_at_call 63; (with_reducible refine (HOF.out _).mono ?_); rintro e w1 ⟨rfl, hb1⟩; have hR := blkCell (blkNew hb1); have hl1 : w.heap.size < w1.heap.size := (by have := hb1.size; simp at this; omega); have HB1 := Lib.hid hb1; clear hb1)
      | (go_at_call 64; (with_reducible refine (HNO.out _ _ ?_).mono ?_); (with_reducible exact new2 _ _ _); rintro e w2 ⟨rfl, hb2⟩; have hR2 := blkCell (blkOld (blkNew HB1.out) (joinB (pastAlloc (allocB _ _)) hb2)); have hl2 : w1.heap.size + 1 < w2.heap.size := (by have := hb2.size; simp at this; omega); have HB2 := Lib.hid hb2; clear hb2)
      | (with_reducible refine wpList_store_new rfl 42 (.tmp 5) (.tmp 33) rfl (rcA lsn prev txn 8 0 0 0 0 0 ⟨#[]⟩ ⟨#[]⟩ 0 0 ⟨#[]⟩ 0 0 (.slice none 0 0) (.slice none 0 0)) _ _ rfl (by kernel_rfl) (by kernel_rfl) (by kernel_rfl) (by kernel_rfl) ?_))
    have HX := Lib.hid (boxes_new (R := (rcA lsn prev txn 8 page next nu ok os oo on how root ek ep es (.slice A ts.length c) (.slice B ds.length d))) (F := #[.bool true, .bool false, .bool false, .bool false, .bool true]) (X := (rcA lsn prev txn 8 0 0 0 0 0 ⟨#[]⟩ ⟨#[]⟩ 0 0 ⟨#[]⟩ 0 0 (.slice none 0 0) (.slice none 0 0))) HB1.out HB2.out)
    clear hR hR2 HNO HOF HB1 HB2
    obtain ⟨V, hV⟩ : ∃ V, V = w2.alloc (.cells (rcA lsn prev txn 8 0 0 0 0 0 ⟨#[]⟩ ⟨#[]⟩ 0 0 ⟨#[]⟩ 0 0 (.slice none 0 0) (.slice none 0 0)) 42) := ⟨_, rfl⟩
    rw [← hV] at HX ⊢
    clear hV
    have hR := blkCell HX.out.br
    have hF := blkCell HX.out.bf
    go_upto_region 6 with (fail)
    go_cut [4] (fun s we => s = .bool (decide (Rc.pg page) && decide (Rc.opR ⟨ok, os, oo, on⟩)) ∧ Boxes w w.heap.size w1.heap.size w2.heap.size (rcA lsn prev txn 8 page next nu ok os oo on how root ek ep es (.slice A ts.length c) (.slice B ds.length d)) #[.bool true, .bool false, .bool false, .bool false, .bool true] (rcA lsn prev txn 8 0 0 0 0 0 ⟨#[]⟩ ⟨#[]⟩ 0 0 ⟨#[]⟩ 0 0 (.slice none 0 0) (.slice none 0 0)) we)
    case first =>
      cases hp : decide (Rc.pg page) with
      | false =>
        have HP := Lib.hid hp
        clear hp
        go_wp2_with (first | (go_at_call 65; (with_reducible refine (paged1 page _ _ ?_).mono ?_); (with_reducible exact heap_alloc_new _ _); rintro e w3 ⟨rfl, hb3⟩; rw [HP.out]))
        go_meet
        case rel => exact ⟨by simp [HP.out], HX.out.step (joinB (allocB _ _) hb3)⟩
      | true =>
        have HP := Lib.hid hp
        clear hp
        generalize hqo : decide (Rc.opR ⟨ok, os, oo, on⟩) = qo
        have HO := Lib.hid hqo
        clear hqo
        go_wp2_with (first | (go_at_call 65; (with_reducible refine (paged1 page _ _ ?_).mono ?_); (with_reducible exact heap_alloc_new _ _); rintro e w3 ⟨rfl, hb3⟩; rw [HP.out]; have hR3 := blkCell (HX.out.step (joinB (allocB _ _) hb3)).br) | (go_at_call 66; (with_reducible refine (op_any ⟨ok, os, oo, on⟩ _).mono ?_); rintro e w4 ⟨rfl, hb4⟩; rw [HO.out]))
        go_meet
        case rel => exact ⟨by simp [HP.out, HO.out], (HX.out.step (joinB (allocB _ _) hb3)).step hb4⟩
    case rest =>
    obtain ⟨W1, rfl⟩ : ∃ wm : World, wm = wc := ⟨_, rfl⟩
    obtain ⟨rfl, hB1⟩ := hcut
    have H1 := Lib.hid hB1
    clear hR hF hB1 HX
    have hR := blkCell H1.out.br
    have hF := blkCell H1.out.bf
    have hXc := blkCell H1.out.bx
    have hXz := blkFrozen H1.out.bx
    have hne : w.heap.size ≠ w2.heap.size := by have := H1.out.ab; omega
    go_upto_region 7 with (fail)
    go_cut [] (fun we => Boxes w w.heap.size w1.heap.size w2.heap.size (rcA lsn prev txn 8 page next nu ok os oo on how root ek ep es (.slice A ts.length c) (.slice B ds.length d)) #[.bool true, .bool false, .bool false, .bool false, .bool true] (rcA lsn prev txn 8 page 0 0 ok os oo on 0 0 ⟨#[]⟩ 0 0 (.slice none 0 0) (.slice none 0 0)) we)
    case first =>
      go_region
      all_goals
        go_wp2_with fail
        go_meet
        case rel =>
          first
            | (have h := (((((H1.out.set 4 (.int .i64 page)).set 7 (.int .i64 ok)).set 8 (.int .i64 os)).set 9 (.string oo)).set 10 (.string on)).drew; simpa using h)
            | (have h := (((((H1.out.set 7 (.int .i64 ok)).set 8 (.int .i64 os)).set 9 (.string oo)).set 10 (.string on)).set 4 (.int .i64 page)).drew; simpa using h)
    case rest =>
    obtain ⟨W2, rfl⟩ : ∃ wm : World, wm = wc := ⟨_, rfl⟩
    have H2 := Lib.hid hcut
    clear hR hF hXc hXz hcut H1
    have hR := blkCell H2.out.br
    have hF := blkCell H2.out.bf
    go_upto_region 19 with (fail)
    generalize hqa : (decide (Rc.pg page) && decide (Rc.opR ⟨ok, os, oo, on⟩)) = qa
    have HA := Lib.hid hqa
    clear hqa
    cases qa with
    | false =>
      go_wp2_with fail
      go_ret
      refine ⟨?_, H2.out.below⟩
      have HF := HQ.out.trans (Rc.rightB_no fun h => by
        have h2 := (RI.out.1 h).2.1
        have h3 := HA.out
        simp only [Bool.and_eq_false_iff, decide_eq_false_iff_not] at h3
        grind)
      rw [HF]
      rfl
    | true =>
      have HS := Lib.hid (same_any ⟨lsn, prev, txn, 8, page, 0, 0, ⟨ok, os, oo, on⟩, 0, 0, ⟨⟨#[]⟩, 0, 0⟩, [], []⟩ ⟨lsn, prev, txn, 8, page, next, nu, ⟨ok, os, oo, on⟩, how, root, ⟨ek, ep, es⟩, ts, ds⟩ none A none B 0 c 0 d W2 ⟨(Reads.none_ _ _ _ _), (Reads.none_ _ _ _ _), ⟨by simp, by simp⟩⟩ (HRR.out.below H2.out.below))
      dsimp only [recV, recA, List.length_nil] at HS
      cases he : decide ((⟨lsn, prev, txn, 8, page, 0, 0, ⟨ok, os, oo, on⟩, 0, 0, ⟨⟨#[]⟩, 0, 0⟩, [], []⟩ : Rc.Rec) = ⟨lsn, prev, txn, 8, page, next, nu, ⟨ok, os, oo, on⟩, how, root, ⟨ek, ep, es⟩, ts, ds⟩) with
      | false =>
        have HE := Lib.hid he
        clear he
        go_wp2_with (first | (with_reducible refine listLoad (by kernel_rfl) 42 (.tmp 5) rfl w2.heap.size rfl (rcA lsn prev txn 8 page 0 0 ok os oo on 0 0 ⟨#[]⟩ 0 0 (.slice none 0 0) (.slice none 0 0)) _ H2.out.bx _ Tryz.underlying42 (by kernel_rfl) (by kernel_rfl) ?_) | (with_reducible refine listLoad (by kernel_rfl) 42 (.tmp 1) rfl w.heap.size rfl (rcA lsn prev txn 8 page next nu ok os oo on how root ek ep es (.slice A ts.length c) (.slice B ds.length d)) _ H2.out.br _ Tryz.underlying42 (by kernel_rfl) (by kernel_rfl) ?_) | (go_at_call 72; (with_reducible refine HS.out.mono ?_); rintro e w9 ⟨rfl, hb9⟩; rw [HE.out]))
        go_ret
        refine ⟨?_, joinB H2.out.below hb9⟩
        rw [HQ.out.trans (Rc.rightB_no fun h => of_decide_eq_false HE.out (RI.out.1 h).2.2)]
        rfl
      | true =>
        have HE := Lib.hid he
        clear he
        go_wp2_with (first | (with_reducible refine listLoad (by kernel_rfl) 42 (.tmp 5) rfl w2.heap.size rfl (rcA lsn prev txn 8 page 0 0 ok os oo on 0 0 ⟨#[]⟩ 0 0 (.slice none 0 0) (.slice none 0 0)) _ H2.out.bx _ Tryz.underlying42 (by kernel_rfl) (by kernel_rfl) ?_) | (with_reducible refine listLoad (by kernel_rfl) 42 (.tmp 1) rfl w.heap.size rfl (rcA lsn prev txn 8 page next nu ok os oo on how root ek ep es (.slice A ts.length c) (.slice B ds.length d)) _ H2.out.br _ Tryz.underlying42 (by kernel_rfl) (by kernel_rfl) ?_) | (go_at_call 72; (with_reducible refine HS.out.mono ?_); rintro e w9 ⟨rfl, hb9⟩; rw [HE.out]))
        go_ret
        refine ⟨?_, joinB H2.out.below hb9⟩
        rw [HQ.out.trans (Rc.rightB_yes (RI.out.2 ⟨HN.out, by have h3 := HA.out; simpa only [Bool.and_eq_true, decide_eq_true_eq] using h3, of_decide_eq_true HE.out⟩))]
        rfl
end Go.Proofs.YtojaagnfjenhoaaGreat
/- The walk over package rec: Right, of one kind. -/
namespace Go.Proofs.YtojaagnfjenhoaaGreat
open Go.RowKit
set_option maxRecDepth 100000 in
set_option maxHeartbeats 2000000 in
theorem right_check (lsn prev txn page next nu ok os how root ep es : Int) (oo on ek : ByteArray) (ts : List Rc.TxnAt) (ds : List Rc.DirtyAt) (A B : Option Addr) (c d : Nat) (w : World) (hr : RecR w ⟨lsn, prev, txn, 9, page, next, nu, ⟨ok, os, oo, on⟩, how, root, ⟨ek, ep, es⟩, ts, ds⟩ A c B d) :
    Calls Tryz.prog 38 #[.agg (rcA lsn prev txn 9 page next nu ok os oo on how root ek ep es (.slice A ts.length c) (.slice B ds.length d))] w fun e w' => e = .returned (.bool (Rc.rightB ⟨lsn, prev, txn, 9, page, next, nu, ⟨ok, os, oo, on⟩, how, root, ⟨ek, ep, es⟩, ts, ds⟩)) ∧ Below w.heap.size w w' := by
  have HOF := Lib.hid (fun W => of_any 9 W)
  rw [show ofV 9 = .tuple #[formV false false false true true, .bool true] from rfl] at HOF
  have HNO := Lib.hid (fun W g h => number3 lsn prev txn W g h)
  obtain ⟨Q, hQ⟩ : ∃ Q, Q = Rc.rightB ⟨lsn, prev, txn, 9, page, next, nu, ⟨ok, os, oo, on⟩, how, root, ⟨ek, ep, es⟩, ts, ds⟩ := ⟨_, rfl⟩
  rw [← hQ]
  have HQ := Lib.hid hQ
  have hsm := hr.small
  simp only at hsm
  have hsm1 := hsm.1
  have hsm2 := hsm.2
  have HRR := Lib.hid hr
  clear hQ hr hsm
  have RI := Lib.hid (Rc.right_9 lsn prev txn page next nu how root ⟨ok, os, oo, on⟩ ⟨ek, ep, es⟩ ts ds)
  cases hn : decide (Rc.num lsn ∧ Rc.num prev ∧ Rc.num txn) with
  | false =>
    rw [hn] at HNO
    have HF := Lib.hid (HQ.out.trans (Rc.rightB_no fun h => of_decide_eq_false hn (RI.out.1 h).1))
    clear hn RI
    go_enter Tryz.func38, Tryz.ntmps38
    go_wp2_with (first
      | (go_at_call 63; (with_reducible refine (HOF.out _).mono ?_); rintro e w1 ⟨rfl, hb1⟩; have hR := blkCell (blkNew hb1); have hl1 : w.heap.size < w1.heap.size := (by have := hb1.size; simp at this; omega); have HB1 := Lib.hid hb1; clear hb1)
      | (go_at_call 64; (with_reducible refine (HNO.out _ _ ?_).mono ?_); (with_reducible exact new2 _ _ _); rintro e w2 ⟨rfl, hb2⟩; have hR2 := blkCell (blkOld (blkNew HB1.out) (joinB (pastAlloc (allocB _ _)) hb2)); have hl2 : w1.heap.size + 1 < w2.heap.size := (by have := hb2.size; simp at this; omega); have HB2 := Lib.hid hb2; clear hb2)
      | (with_reducible refine wpList_store_new rfl 42 (.tmp 5) (.tmp 33) rfl (rcA lsn prev txn 9 0 0 0 0 0 ⟨#[]⟩ ⟨#[]⟩ 0 0 ⟨#[]⟩ 0 0 (.slice none 0 0) (.slice none 0 0)) _ _ rfl (by kernel_rfl) (by kernel_rfl) (by kernel_rfl) (by kernel_rfl) ?_))
    go_ret
    exact ⟨by rw [HF.out]; rfl, joinB (joinB (allocB _ _) HB1.out) (joinB (pastAlloc (allocB _ _)) HB2.out)⟩
  | true =>
    rw [hn] at HNO
    have HN := Lib.hid (of_decide_eq_true hn)
    clear hn
    go_enter Tryz.func38, Tryz.ntmps38
    go_upto_region 5 with (first
      | (go_at_call 63; (with_reducible refine (HOF.out _).mono ?_); rintro e w1 ⟨rfl, hb1⟩; have hR := blkCell (blkNew hb1); have hl1 : w.heap.size < w1.heap.size := (by have := hb1.size; simp at this; omega); have HB1 := Lib.hid hb1; clear hb1)
      | (go_at_call 64; (with_reducible refine (HNO.out _ _ ?_).mono ?_); (with_reducible exact new2 _ _ _); rintro e w2 ⟨rfl, hb2⟩; have hR2 := blkCell (blkOld (blkNew HB1.out) (joinB (pastAlloc (allocB _ _)) hb2)); have hl2 : w1.heap.size + 1 < w2.heap.size := (by have := hb2.size; simp at this; omega); have HB2 := Lib.hid hb2; clear hb2)
      | (with_reducible refine wpList_store_new rfl 42 (.tmp 5) (.tmp 33) rfl (rcA lsn prev txn 9 0 0 0 0 0 ⟨#[]⟩ ⟨#[]⟩ 0 0 ⟨#[]⟩ 0 0 (.slice none 0 0) (.slice none 0 0)) _ _ rfl (by kernel_rfl) (by kernel_rfl) (by kernel_rfl) (by kernel_rfl) ?_))
    have HX := Lib.hid (boxes_new (R := (rcA lsn prev txn 9 page next nu ok os oo on how root ek ep es (.slice A ts.length c) (.slice B ds.length d))) (F := #[.bool false, .bool false, .bool false, .bool true, .bool true]) (X := (rcA lsn prev txn 9 0 0 0 0 0 ⟨#[]⟩ ⟨#[]⟩ 0 0 ⟨#[]⟩ 0 0 (.slice none 0 0) (.slice none 0 0))) HB1.out HB2.out)
    clear hR hR2 HNO HOF HB1 HB2
    obtain ⟨V, hV⟩ : ∃ V, V = w2.alloc (.cells (rcA lsn prev txn 9 0 0 0 0 0 ⟨#[]⟩ ⟨#[]⟩ 0 0 ⟨#[]⟩ 0 0 (.slice none 0 0) (.slice none 0 0)) 42) := ⟨_, rfl⟩
    rw [← hV] at HX ⊢
    clear hV
    have hR := blkCell HX.out.br
    have hF := blkCell HX.out.bf
    go_upto_region 15 with (fail)
    go_cut [4] (fun s we => s = .bool (decide (Rc.num nu) && (decide (ts.length ≤ 1000) && decide (ds.length ≤ 2000))) ∧ Boxes w w.heap.size w1.heap.size w2.heap.size (rcA lsn prev txn 9 page next nu ok os oo on how root ek ep es (.slice A ts.length c) (.slice B ds.length d)) #[.bool false, .bool false, .bool false, .bool true, .bool true] (rcA lsn prev txn 9 0 0 0 0 0 ⟨#[]⟩ ⟨#[]⟩ 0 0 ⟨#[]⟩ 0 0 (.slice none 0 0) (.slice none 0 0)) we)
    case first =>
      cases hqt : decide (Rc.num nu) with
      | false =>
        have HT := Lib.hid hqt
        clear hqt
        go_wp2_with (first | (go_at_call 64; (with_reducible refine (number1 nu _ _ ?_).mono ?_); (with_reducible exact heap_alloc_new _ _); rintro e w5 ⟨rfl, hb5⟩; rw [HT.out]; have hR5 := blkCell (HX.out.step (joinB (allocB _ _) hb5)).br))
        go_meet
        case rel => exact ⟨by simp [HT.out], HX.out.step (joinB (allocB _ _) hb5)⟩
      | true =>
        have HT := Lib.hid hqt
        clear hqt
        by_cases h1 : ts.length ≤ 1000
        · have e1 : decide ((ts.length : Int) ≤ 1000) = true := decide_eq_true (by omega)
          have HE1 := Lib.hid (decide_eq_true h1)
          have h1' : (ts.length : Int) ≤ 1000 := by omega
          clear h1
          by_cases h2 : ds.length ≤ 2000
          · have e2 : decide ((ds.length : Int) ≤ 2000) = true := decide_eq_true (by omega)
            have HE2 := Lib.hid (decide_eq_true h2)
            have h2' : (ds.length : Int) ≤ 2000 := by omega
            clear h2
            go_wp2_with (first | (go_at_call 64; (with_reducible refine (number1 nu _ _ ?_).mono ?_); (with_reducible exact heap_alloc_new _ _); rintro e w5 ⟨rfl, hb5⟩; rw [HT.out]; have hR5 := blkCell (HX.out.step (joinB (allocB _ _) hb5)).br))
            go_meet
            case rel => exact ⟨by simp [HT.out, HE1.out, HE2.out], HX.out.step (joinB (allocB _ _) hb5)⟩
          · have e2 : decide ((ds.length : Int) ≤ 2000) = false := decide_eq_false (by omega)
            have HE2 := Lib.hid (decide_eq_false h2)
            have h2' : 2000 < (ds.length : Int) := by omega
            clear h2
            go_wp2_with (first | (go_at_call 64; (with_reducible refine (number1 nu _ _ ?_).mono ?_); (with_reducible exact heap_alloc_new _ _); rintro e w5 ⟨rfl, hb5⟩; rw [HT.out]; have hR5 := blkCell (HX.out.step (joinB (allocB _ _) hb5)).br))
            go_meet
            case rel => exact ⟨by simp [HT.out, HE1.out, HE2.out], HX.out.step (joinB (allocB _ _) hb5)⟩
        · have e1 : decide ((ts.length : Int) ≤ 1000) = false := decide_eq_false (by omega)
          have HE1 := Lib.hid (decide_eq_false h1)
          have h1' : 1000 < (ts.length : Int) := by omega
          clear h1
          go_wp2_with (first | (go_at_call 64; (with_reducible refine (number1 nu _ _ ?_).mono ?_); (with_reducible exact heap_alloc_new _ _); rintro e w5 ⟨rfl, hb5⟩; rw [HT.out]; have hR5 := blkCell (HX.out.step (joinB (allocB _ _) hb5)).br))
          go_meet
          case rel => exact ⟨by simp [HT.out, HE1.out], HX.out.step (joinB (allocB _ _) hb5)⟩
    case rest =>
    obtain ⟨W1, rfl⟩ : ∃ wm : World, wm = wc := ⟨_, rfl⟩
    obtain ⟨rfl, hB1⟩ := hcut
    have H1 := Lib.hid hB1
    clear hR hF hB1 HX
    have hR := blkCell H1.out.br
    have hF := blkCell H1.out.bf
    go_upto_region 16 with (fail)
    go_cut [4] (fun s we => s = .bool ((decide (Rc.num nu) && (decide (ts.length ≤ 1000) && decide (ds.length ≤ 2000))) && decide (∀ t ∈ ts, Rc.txnR t)) ∧ Boxes w w.heap.size w1.heap.size w2.heap.size (rcA lsn prev txn 9 page next nu ok os oo on how root ek ep es (.slice A ts.length c) (.slice B ds.length d)) #[.bool false, .bool false, .bool false, .bool true, .bool true] (rcA lsn prev txn 9 0 0 0 0 0 ⟨#[]⟩ ⟨#[]⟩ 0 0 ⟨#[]⟩ 0 0 (.slice none 0 0) (.slice none 0 0)) we)
    case first =>
      generalize hqa : (decide (Rc.num nu) && (decide (ts.length ≤ 1000) && decide (ds.length ≤ 2000))) = qa
      have HA := Lib.hid hqa
      clear hqa
      cases qa with
      | false =>
        go_wp2_with fail
        go_meet
        case rel => exact ⟨by simp [HA.out], H1.out⟩
      | true =>
        have hlen : ts.length ≤ 1048576 := by have := (of_decide_eq_true (Bool.and_eq_true_iff.1 (Bool.and_eq_true_iff.1 HA.out).2).1); omega
        have HC := Lib.hid (contains_txn ts hlen A c W1 (HRR.out.txns.below H1.out.below))
        generalize hqt : decide (∀ t ∈ ts, Rc.txnR t) = qt at HC
        have HT := Lib.hid hqt
        clear hqt
        go_wp2_with (first | (go_at_call 68; (with_reducible refine HC.out.mono ?_); rintro e w5 ⟨rfl, hb5⟩))
        go_meet
        case rel => exact ⟨by simp [HA.out, HT.out], H1.out.step hb5⟩
    case rest =>
    obtain ⟨W2, rfl⟩ : ∃ wm : World, wm = wc := ⟨_, rfl⟩
    obtain ⟨rfl, hB2⟩ := hcut
    have H2 := Lib.hid hB2
    clear hR hF hB2 H1
    have hR := blkCell H2.out.br
    have hF := blkCell H2.out.bf
    go_upto_region 17 with (fail)
    go_cut [4] (fun s we => s = .bool (((decide (Rc.num nu) && (decide (ts.length ≤ 1000) && decide (ds.length ≤ 2000))) && decide (∀ t ∈ ts, Rc.txnR t)) && decide (∀ d ∈ ds, Rc.dirtyR d)) ∧ Boxes w w.heap.size w1.heap.size w2.heap.size (rcA lsn prev txn 9 page next nu ok os oo on how root ek ep es (.slice A ts.length c) (.slice B ds.length d)) #[.bool false, .bool false, .bool false, .bool true, .bool true] (rcA lsn prev txn 9 0 0 0 0 0 ⟨#[]⟩ ⟨#[]⟩ 0 0 ⟨#[]⟩ 0 0 (.slice none 0 0) (.slice none 0 0)) we)
    case first =>
      generalize hqa : ((decide (Rc.num nu) && (decide (ts.length ≤ 1000) && decide (ds.length ≤ 2000))) && decide (∀ t ∈ ts, Rc.txnR t)) = qa
      have HA := Lib.hid hqa
      clear hqa
      cases qa with
      | false =>
        go_wp2_with fail
        go_meet
        case rel => exact ⟨by simp [HA.out], H2.out⟩
      | true =>
        have hlen : ds.length ≤ 1048576 := by have := (of_decide_eq_true (Bool.and_eq_true_iff.1 (Bool.and_eq_true_iff.1 (Bool.and_eq_true_iff.1 HA.out).1).2).2); omega
        have HC := Lib.hid (contains_dirty ds hlen B d W2 (HRR.out.dirty.below H2.out.below))
        generalize hqt : decide (∀ d ∈ ds, Rc.dirtyR d) = qt at HC
        have HT := Lib.hid hqt
        clear hqt
        go_wp2_with (first | (go_at_call 70; (with_reducible refine HC.out.mono ?_); rintro e w5 ⟨rfl, hb5⟩))
        go_meet
        case rel => exact ⟨by simp [HA.out, HT.out], H2.out.step hb5⟩
    case rest =>
    obtain ⟨W3, rfl⟩ : ∃ wm : World, wm = wc := ⟨_, rfl⟩
    obtain ⟨rfl, hB3⟩ := hcut
    have H3 := Lib.hid hB3
    clear hR hF hB3 H2
    have hR := blkCell H3.out.br
    have hF := blkCell H3.out.bf
    have hXc := blkCell H3.out.bx
    have hXz := blkFrozen H3.out.bx
    have hne : w.heap.size ≠ w2.heap.size := by have := H3.out.ab; omega
    go_upto_region 18 with (fail)
    go_cut [] (fun we => Boxes w w.heap.size w1.heap.size w2.heap.size (rcA lsn prev txn 9 page next nu ok os oo on how root ek ep es (.slice A ts.length c) (.slice B ds.length d)) #[.bool false, .bool false, .bool false, .bool true, .bool true] (rcA lsn prev txn 9 0 0 nu 0 0 ⟨#[]⟩ ⟨#[]⟩ 0 0 ⟨#[]⟩ 0 0 (.slice A ts.length c) (.slice B ds.length d)) we)
    case first =>
      go_region
      all_goals
        go_wp2_with fail
        go_meet
        case rel =>
          first
            | (have h := (((H3.out.set 6 (.int .i64 nu)).set 16 (.slice A ts.length c)).set 17 (.slice B ds.length d)).drew; simpa using h)
            | (have h := (((H3.out.set 6 (.int .i64 nu)).set 17 (.slice B ds.length d)).set 16 (.slice A ts.length c)).drew; simpa using h)
            | (have h := (((H3.out.set 16 (.slice A ts.length c)).set 6 (.int .i64 nu)).set 17 (.slice B ds.length d)).drew; simpa using h)
            | (have h := (((H3.out.set 16 (.slice A ts.length c)).set 17 (.slice B ds.length d)).set 6 (.int .i64 nu)).drew; simpa using h)
            | (have h := (((H3.out.set 17 (.slice B ds.length d)).set 6 (.int .i64 nu)).set 16 (.slice A ts.length c)).drew; simpa using h)
            | (have h := (((H3.out.set 17 (.slice B ds.length d)).set 16 (.slice A ts.length c)).set 6 (.int .i64 nu)).drew; simpa using h)
    case rest =>
    obtain ⟨W4, rfl⟩ : ∃ wm : World, wm = wc := ⟨_, rfl⟩
    have H4 := Lib.hid hcut
    clear hR hF hXc hXz hcut H3
    have hR := blkCell H4.out.br
    have hF := blkCell H4.out.bf
    go_upto_region 19 with (fail)
    generalize hqa : (((decide (Rc.num nu) && (decide (ts.length ≤ 1000) && decide (ds.length ≤ 2000))) && decide (∀ t ∈ ts, Rc.txnR t)) && decide (∀ d ∈ ds, Rc.dirtyR d)) = qa
    have HA := Lib.hid hqa
    clear hqa
    cases qa with
    | false =>
      go_wp2_with fail
      go_ret
      refine ⟨?_, H4.out.below⟩
      have HF := HQ.out.trans (Rc.rightB_no fun h => by
        have h2 := (RI.out.1 h).2.1
        have h3 := HA.out
        simp only [Bool.and_eq_false_iff, decide_eq_false_iff_not] at h3
        grind)
      rw [HF]
      rfl
    | true =>
      have HS := Lib.hid (same_any ⟨lsn, prev, txn, 9, 0, 0, nu, ⟨0, 0, ⟨#[]⟩, ⟨#[]⟩⟩, 0, 0, ⟨⟨#[]⟩, 0, 0⟩, ts, ds⟩ ⟨lsn, prev, txn, 9, page, next, nu, ⟨ok, os, oo, on⟩, how, root, ⟨ek, ep, es⟩, ts, ds⟩ A A B B c c d d W4 ⟨(HRR.out.txns.below H4.out.below), (HRR.out.dirty.below H4.out.below), ⟨hsm1, hsm2⟩⟩ (HRR.out.below H4.out.below))
      dsimp only [recV, recA, List.length_nil] at HS
      cases he : decide ((⟨lsn, prev, txn, 9, 0, 0, nu, ⟨0, 0, ⟨#[]⟩, ⟨#[]⟩⟩, 0, 0, ⟨⟨#[]⟩, 0, 0⟩, ts, ds⟩ : Rc.Rec) = ⟨lsn, prev, txn, 9, page, next, nu, ⟨ok, os, oo, on⟩, how, root, ⟨ek, ep, es⟩, ts, ds⟩) with
      | false =>
        have HE := Lib.hid he
        clear he
        go_wp2_with (first | (with_reducible refine listLoad (by kernel_rfl) 42 (.tmp 5) rfl w2.heap.size rfl (rcA lsn prev txn 9 0 0 nu 0 0 ⟨#[]⟩ ⟨#[]⟩ 0 0 ⟨#[]⟩ 0 0 (.slice A ts.length c) (.slice B ds.length d)) _ H4.out.bx _ Tryz.underlying42 (by kernel_rfl) (by kernel_rfl) ?_) | (with_reducible refine listLoad (by kernel_rfl) 42 (.tmp 1) rfl w.heap.size rfl (rcA lsn prev txn 9 page next nu ok os oo on how root ek ep es (.slice A ts.length c) (.slice B ds.length d)) _ H4.out.br _ Tryz.underlying42 (by kernel_rfl) (by kernel_rfl) ?_) | (go_at_call 72; (with_reducible refine HS.out.mono ?_); rintro e w9 ⟨rfl, hb9⟩; rw [HE.out]))
        go_ret
        refine ⟨?_, joinB H4.out.below hb9⟩
        rw [HQ.out.trans (Rc.rightB_no fun h => of_decide_eq_false HE.out (RI.out.1 h).2.2)]
        rfl
      | true =>
        have HE := Lib.hid he
        clear he
        go_wp2_with (first | (with_reducible refine listLoad (by kernel_rfl) 42 (.tmp 5) rfl w2.heap.size rfl (rcA lsn prev txn 9 0 0 nu 0 0 ⟨#[]⟩ ⟨#[]⟩ 0 0 ⟨#[]⟩ 0 0 (.slice A ts.length c) (.slice B ds.length d)) _ H4.out.bx _ Tryz.underlying42 (by kernel_rfl) (by kernel_rfl) ?_) | (with_reducible refine listLoad (by kernel_rfl) 42 (.tmp 1) rfl w.heap.size rfl (rcA lsn prev txn 9 page next nu ok os oo on how root ek ep es (.slice A ts.length c) (.slice B ds.length d)) _ H4.out.br _ Tryz.underlying42 (by kernel_rfl) (by kernel_rfl) ?_) | (go_at_call 72; (with_reducible refine HS.out.mono ?_); rintro e w9 ⟨rfl, hb9⟩; rw [HE.out]))
        go_ret
        refine ⟨?_, joinB H4.out.below hb9⟩
        rw [HQ.out.trans (Rc.rightB_yes (RI.out.2 ⟨HN.out, by have h3 := HA.out; simpa only [Bool.and_eq_true, decide_eq_true_eq] using h3, of_decide_eq_true HE.out⟩))]
        rfl
end Go.Proofs.YtojaagnfjenhoaaGreat
/- The walk over package rec: Right, of one kind. -/
namespace Go.Proofs.YtojaagnfjenhoaaGreat
open Go.RowKit
set_option maxRecDepth 100000 in
set_option maxHeartbeats 2000000 in
theorem right_bare (kind : Int) (hk : kind = 1 ∨ kind = 5 ∨ kind = 6 ∨ kind = 7) (lsn prev txn page next nu ok os how root ep es : Int) (oo on ek : ByteArray) (ts : List Rc.TxnAt) (ds : List Rc.DirtyAt) (A B : Option Addr) (c d : Nat) (w : World) (hr : RecR w ⟨lsn, prev, txn, kind, page, next, nu, ⟨ok, os, oo, on⟩, how, root, ⟨ek, ep, es⟩, ts, ds⟩ A c B d) :
    Calls Tryz.prog 38 #[.agg (rcA lsn prev txn kind page next nu ok os oo on how root ek ep es (.slice A ts.length c) (.slice B ds.length d))] w fun e w' => e = .returned (.bool (Rc.rightB ⟨lsn, prev, txn, kind, page, next, nu, ⟨ok, os, oo, on⟩, how, root, ⟨ek, ep, es⟩, ts, ds⟩)) ∧ Below w.heap.size w w' := by
  have HOF := Lib.hid (fun W => of_any kind W)
  rw [show ofV kind = .tuple #[formV false false false false true, .bool true] from by rcases hk with rfl | rfl | rfl | rfl <;> rfl] at HOF
  have HNO := Lib.hid (fun W g h => number3 lsn prev txn W g h)
  obtain ⟨Q, hQ⟩ : ∃ Q, Q = Rc.rightB ⟨lsn, prev, txn, kind, page, next, nu, ⟨ok, os, oo, on⟩, how, root, ⟨ek, ep, es⟩, ts, ds⟩ := ⟨_, rfl⟩
  rw [← hQ]
  have HQ := Lib.hid hQ
  have hsm := hr.small
  simp only at hsm
  have hsm1 := hsm.1
  have hsm2 := hsm.2
  have HRR := Lib.hid hr
  clear hQ hr hsm
  have RI := Lib.hid (Rc.right_small kind hk lsn prev txn page next nu how root ⟨ok, os, oo, on⟩ ⟨ek, ep, es⟩ ts ds)
  cases hn : decide (Rc.num lsn ∧ Rc.num prev ∧ Rc.num txn) with
  | false =>
    rw [hn] at HNO
    have HF := Lib.hid (HQ.out.trans (Rc.rightB_no fun h => of_decide_eq_false hn (RI.out.1 h).1))
    clear hn RI
    go_enter Tryz.func38, Tryz.ntmps38
    go_wp2_with (first
      | (go_at_call 63; (with_reducible refine (HOF.out _).mono ?_); rintro e w1 ⟨rfl, hb1⟩; have hR := blkCell (blkNew hb1); have hl1 : w.heap.size < w1.heap.size := (by have := hb1.size; simp at this; omega); have HB1 := Lib.hid hb1; clear hb1)
      | (go_at_call 64; (with_reducible refine (HNO.out _ _ ?_).mono ?_); (with_reducible exact new2 _ _ _); rintro e w2 ⟨rfl, hb2⟩; have hR2 := blkCell (blkOld (blkNew HB1.out) (joinB (pastAlloc (allocB _ _)) hb2)); have hl2 : w1.heap.size + 1 < w2.heap.size := (by have := hb2.size; simp at this; omega); have HB2 := Lib.hid hb2; clear hb2)
      | (with_reducible refine wpList_store_new rfl 42 (.tmp 5) (.tmp 33) rfl (rcA lsn prev txn kind 0 0 0 0 0 ⟨#[]⟩ ⟨#[]⟩ 0 0 ⟨#[]⟩ 0 0 (.slice none 0 0) (.slice none 0 0)) _ _ rfl (by kernel_rfl) (by kernel_rfl) (by kernel_rfl) (by kernel_rfl) ?_))
    go_ret
    exact ⟨by rw [HF.out]; rfl, joinB (joinB (allocB _ _) HB1.out) (joinB (pastAlloc (allocB _ _)) HB2.out)⟩
  | true =>
    rw [hn] at HNO
    have HN := Lib.hid (of_decide_eq_true hn)
    clear hn
    go_enter Tryz.func38, Tryz.ntmps38
    go_upto_region 5 with (first
      | (go_at_call 63; (with_reducible refine (HOF.out _).mono ?_); rintro e w1 ⟨rfl, hb1⟩; have hR := blkCell (blkNew hb1); have hl1 : w.heap.size < w1.heap.size := (by have := hb1.size; simp at this; omega); have HB1 := Lib.hid hb1; clear hb1)
      | (go_at_call 64; (with_reducible refine (HNO.out _ _ ?_).mono ?_); (with_reducible exact new2 _ _ _); rintro e w2 ⟨rfl, hb2⟩; have hR2 := blkCell (blkOld (blkNew HB1.out) (joinB (pastAlloc (allocB _ _)) hb2)); have hl2 : w1.heap.size + 1 < w2.heap.size := (by have := hb2.size; simp at this; omega); have HB2 := Lib.hid hb2; clear hb2)
      | (with_reducible refine wpList_store_new rfl 42 (.tmp 5) (.tmp 33) rfl (rcA lsn prev txn kind 0 0 0 0 0 ⟨#[]⟩ ⟨#[]⟩ 0 0 ⟨#[]⟩ 0 0 (.slice none 0 0) (.slice none 0 0)) _ _ rfl (by kernel_rfl) (by kernel_rfl) (by kernel_rfl) (by kernel_rfl) ?_))
    have HX := Lib.hid (boxes_new (R := (rcA lsn prev txn kind page next nu ok os oo on how root ek ep es (.slice A ts.length c) (.slice B ds.length d))) (F := #[.bool false, .bool false, .bool false, .bool false, .bool true]) (X := (rcA lsn prev txn kind 0 0 0 0 0 ⟨#[]⟩ ⟨#[]⟩ 0 0 ⟨#[]⟩ 0 0 (.slice none 0 0) (.slice none 0 0))) HB1.out HB2.out)
    clear hR hR2 HNO HOF HB1 HB2
    obtain ⟨V, hV⟩ : ∃ V, V = w2.alloc (.cells (rcA lsn prev txn kind 0 0 0 0 0 ⟨#[]⟩ ⟨#[]⟩ 0 0 ⟨#[]⟩ 0 0 (.slice none 0 0) (.slice none 0 0)) 42) := ⟨_, rfl⟩
    rw [← hV] at HX ⊢
    clear hV
    have hR := blkCell HX.out.br
    have hF := blkCell HX.out.bf
    go_upto_region 19 with (fail)
    have HS := Lib.hid (same_any ⟨lsn, prev, txn, kind, 0, 0, 0, ⟨0, 0, ⟨#[]⟩, ⟨#[]⟩⟩, 0, 0, ⟨⟨#[]⟩, 0, 0⟩, [], []⟩ ⟨lsn, prev, txn, kind, page, next, nu, ⟨ok, os, oo, on⟩, how, root, ⟨ek, ep, es⟩, ts, ds⟩ none A none B 0 c 0 d V ⟨(Reads.none_ _ _ _ _), (Reads.none_ _ _ _ _), ⟨by simp, by simp⟩⟩ (HRR.out.below HX.out.below))
    dsimp only [recV, recA, List.length_nil] at HS
    cases he : decide ((⟨lsn, prev, txn, kind, 0, 0, 0, ⟨0, 0, ⟨#[]⟩, ⟨#[]⟩⟩, 0, 0, ⟨⟨#[]⟩, 0, 0⟩, [], []⟩ : Rc.Rec) = ⟨lsn, prev, txn, kind, page, next, nu, ⟨ok, os, oo, on⟩, how, root, ⟨ek, ep, es⟩, ts, ds⟩) with
    | false =>
      have HE := Lib.hid he
      clear he
      go_wp2_with (first | (with_reducible refine listLoad (by kernel_rfl) 42 (.tmp 5) rfl w2.heap.size rfl (rcA lsn prev txn kind 0 0 0 0 0 ⟨#[]⟩ ⟨#[]⟩ 0 0 ⟨#[]⟩ 0 0 (.slice none 0 0) (.slice none 0 0)) _ HX.out.bx _ Tryz.underlying42 (by kernel_rfl) (by kernel_rfl) ?_) | (with_reducible refine listLoad (by kernel_rfl) 42 (.tmp 1) rfl w.heap.size rfl (rcA lsn prev txn kind page next nu ok os oo on how root ek ep es (.slice A ts.length c) (.slice B ds.length d)) _ HX.out.br _ Tryz.underlying42 (by kernel_rfl) (by kernel_rfl) ?_) | (go_at_call 72; (with_reducible refine HS.out.mono ?_); rintro e w9 ⟨rfl, hb9⟩; rw [HE.out]))
      go_ret
      refine ⟨?_, joinB HX.out.below hb9⟩
      rw [HQ.out.trans (Rc.rightB_no fun h => of_decide_eq_false HE.out (RI.out.1 h).2)]
      rfl
    | true =>
      have HE := Lib.hid he
      clear he
      go_wp2_with (first | (with_reducible refine listLoad (by kernel_rfl) 42 (.tmp 5) rfl w2.heap.size rfl (rcA lsn prev txn kind 0 0 0 0 0 ⟨#[]⟩ ⟨#[]⟩ 0 0 ⟨#[]⟩ 0 0 (.slice none 0 0) (.slice none 0 0)) _ HX.out.bx _ Tryz.underlying42 (by kernel_rfl) (by kernel_rfl) ?_) | (with_reducible refine listLoad (by kernel_rfl) 42 (.tmp 1) rfl w.heap.size rfl (rcA lsn prev txn kind page next nu ok os oo on how root ek ep es (.slice A ts.length c) (.slice B ds.length d)) _ HX.out.br _ Tryz.underlying42 (by kernel_rfl) (by kernel_rfl) ?_) | (go_at_call 72; (with_reducible refine HS.out.mono ?_); rintro e w9 ⟨rfl, hb9⟩; rw [HE.out]))
      go_ret
      refine ⟨?_, joinB HX.out.below hb9⟩
      rw [HQ.out.trans (Rc.rightB_yes (RI.out.2 ⟨HN.out, of_decide_eq_true HE.out⟩))]
      rfl
end Go.Proofs.YtojaagnfjenhoaaGreat
/- The walk over package rec: Right, of any record. -/
namespace Go.Proofs.YtojaagnfjenhoaaGreat
open Go.RowKit
set_option maxRecDepth 100000 in
set_option maxHeartbeats 1000000 in
theorem right_out (kind : Int) (hk : ¬ (1 ≤ kind ∧ kind ≤ 9)) (lsn prev txn page next nu ok os how root ep es : Int) (oo on ek : ByteArray) (T D : Value) (w : World) :
    Calls Tryz.prog 38 #[.agg (rcA lsn prev txn kind page next nu ok os oo on how root ek ep es (T) (D))] w fun e w' => e = .returned (.bool false) ∧ Below w.heap.size w w' := by
  have HOF := Lib.hid (fun W => of_any kind W)
  have ho : ∃ a b c d, ofV kind = .tuple #[formV a b c d false, .bool false] := by
    unfold ofV
    rw [decide_eq_false hk]
    exact ⟨_, _, _, _, rfl⟩
  obtain ⟨fa, fb, fc, fd, ho⟩ := ho
  rw [ho] at HOF
  clear ho hk
  go_enter Tryz.func38, Tryz.ntmps38
  go_wp2_with ((go_at_call 63; (with_reducible refine (HOF.out _).mono ?_); rintro e w1 ⟨rfl, hb1⟩))
  go_ret
  exact ⟨rfl, pastAlloc (joinB (allocB _ _) hb1)⟩
theorem cright_rec (x : Rc.Rec) (A B : Option Addr) (c d : Nat) (w : World) (hr : RecR w x A c B d) :
    Calls Tryz.prog 38 #[recV x (.slice A x.txns.length c) (.slice B x.dirty.length d)] w fun e w' => e = .returned (.bool (Rc.rightB x)) ∧ Below w.heap.size w w' := by
  obtain ⟨lsn, prev, txn, kind, page, next, nu, ⟨ok, os, oo, on⟩, how, root, ⟨ek, ep, es⟩, ts, ds⟩ := x
  by_cases h : 1 ≤ kind ∧ kind ≤ 9
  · have h9 : kind = 2 ∨ kind = 3 ∨ kind = 4 ∨ kind = 8 ∨ kind = 9 ∨ kind = 1 ∨ kind = 5 ∨ kind = 6 ∨ kind = 7 := by omega
    rcases h9 with rfl | rfl | rfl | rfl | rfl | h9
    · exact right_change lsn prev txn page next nu ok os how root ep es oo on ek ts ds A B c d w hr
    · exact right_clr lsn prev txn page next nu ok os how root ep es oo on ek ts ds A B c d w hr
    · exact right_nest lsn prev txn page next nu ok os how root ep es oo on ek ts ds A B c d w hr
    · exact right_image lsn prev txn page next nu ok os how root ep es oo on ek ts ds A B c d w hr
    · exact right_check lsn prev txn page next nu ok os how root ep es oo on ek ts ds A B c d w hr
    · exact right_bare kind h9 lsn prev txn page next nu ok os how root ep es oo on ek ts ds A B c d w hr
  · rw [Rc.rightB_no (Rc.right_none h)]
    exact right_out kind h lsn prev txn page next nu ok os how root ep es oo on ek _ _ w
end Go.Proofs.YtojaagnfjenhoaaGreat
/- A record's writer: a strings.Builder that lies in another struct; what WriteString and String do there, with a frame that keeps all blocks that are no bytes. -/
namespace Go.Proofs.YtojaagnfjenhoaaGreat
open Go.RowKit
/-- Block b is a writer that holds the bytes l; its row of bytes, if there is one, is block number B or later. -/
def BldW (B b : Nat) (l : List UInt8) (w : World) : Prop :=
  b < B ∧ ∃ p v, w.heap[b]? = some (.cells #[p, v] 121 (0, 0)) ∧ (p = .pointer none ∨ p = .pointer (some ⟨b, 0, none⟩)) ∧ w.ownsRow B 5 1 v l.length (Lib.byteCells l)
/-- Is this no row of bytes? -/
def noBytes (o : Option Obj) : Prop := ∃ cs t fr, o = some (.cells cs t fr) ∧ t ≠ 5
/-- Only block b, and rows of bytes from B on, may have turned. -/
structure KeptW (B b : Nat) (w w' : World) : Prop where
  os : w'.os = w.os
  tape : w'.tape = w.tape
  output : w'.output = w.output
  size : w.heap.size ≤ w'.heap.size
  block : ∀ k, k < w.heap.size → k ≠ b → k < B ∨ noBytes w.heap[k]? → w'.heap[k]? = w.heap[k]?
theorem KeptW.refl (B b : Nat) (w : World) : KeptW B b w w := ⟨rfl, rfl, rfl, Nat.le_refl _, fun _ _ _ _ => rfl⟩
theorem KeptW.trans {B b : Nat} {u v w : World} (h : KeptW B b u v) (k : KeptW B b v w) : KeptW B b u w :=
  ⟨k.os.trans h.os, k.tape.trans h.tape, k.output.trans h.output, Nat.le_trans h.size k.size, fun i hi hb hc => by
    have e := h.block i hi hb hc
    exact (k.block i (Nat.lt_of_lt_of_le hi h.size) hb (by rw [e]; exact hc)).trans e⟩
theorem KeptW.of_below {B b : Nat} {u v : World} (h : Below u.heap.size u v) : KeptW B b u v :=
  ⟨h.os, h.tape, h.output, h.size, fun i hi _ _ => h.block i hi⟩
theorem KeptW.below {B b lo : Nat} {u v : World} (h : KeptW B b u v) (h1 : lo ≤ B) (h2 : lo ≤ b) (h3 : lo ≤ u.heap.size) : Below lo u v :=
  ⟨h.os, h.tape, h.output, h.size, fun i hi => h.block i (by omega) (by omega) (.inl (by omega))⟩
theorem KeptW.at_ {B b : Nat} {u v : World} (h : KeptW B b u v) {g : Nat} {cs : Array Value} {t : TypeId} {fr : Nat × Nat} (hg : u.heap[g]? = some (.cells cs t fr)) (hb : g ≠ b) (ht : t ≠ 5) : v.heap[g]? = some (.cells cs t fr) :=
  (h.block g (heapLt hg) hb (.inr ⟨cs, t, fr, hg, ht⟩)).trans hg
theorem bldw_size {B b : Nat} {l : List UInt8} {w : World} (h : BldW B b l w) : b < w.heap.size := by
  obtain ⟨_, p, v, hb, _⟩ := h
  exact heapLt hb
theorem BldW.below {B b : Nat} {l : List UInt8} {w w' : World} (h : BldW B b l w) (hb : Below w.heap.size w w') : BldW B b l w' := by
  obtain ⟨hbB, p, v, hbk, hp, hown⟩ := h
  exact ⟨hbB, p, v, blkOld hbk hb, hp, ownBelow hown hb⟩
theorem BldW.fresh (B b : Nat) (w : World) (hb : b < B) (h : w.heap[b]? = some (.cells #[.pointer none, .slice none 0 0] 121 (0, 0))) : BldW B b [] w :=
  ⟨hb, _, _, h, .inl rfl, ⟨rfl, .inl ⟨rfl, rfl⟩⟩⟩
set_option maxRecDepth 100000 in
set_option maxHeartbeats 1000000 in
theorem copyCheckW_fresh (b : Nat) (w : World) (h0 : w.cell? ⟨b, 0, none⟩ = some (.pointer none)) (hsh : w.shape? b = some (121, 2)) (hfz : w.frozen? ⟨b, 0, none⟩ = false) :
    Calls Tryz.prog 90 #[.pointer (some ⟨b, 0, none⟩)] w fun e w' => e = .returned (.tuple #[]) ∧ w' = w.setCell ⟨b, 0, none⟩ (.pointer (some ⟨b, 0, none⟩)) := by
  obtain ⟨j, hj, hjs⟩ := Option.map_eq_some_iff.1 (show (Tryz.prog.info? 85).map (·.size) = some 2 by kernel_rfl)
  have hlies : liesAt Tryz.prog Tryz.prog.depth 121 (2 / Tryz.prog.cellsOf 121) 0 85 1 = true := by kernel_rfl
  go_enter Tryz.func90, Tryz.ntmps90
  go_wp2
  rw [Lib.run_to_unsafe w ⟨b, 0, none⟩ Tryz.underlying83 Tryz.underlying150 hj (by rw [hjs]; decide) hsh (Nat.zero_lt_succ 1)]
  simp only [Result.andThen]
  rw [Oper.upon_value]
  go_wp2
  rw [run_callFunc_extern Tryz.func110 (by kernel_rfl) (by kernel_rfl) (by kernel_rfl) (e := Extern.AbiNoEscape.same) (by kernel_rfl)]
  rw [Lib.run_noEscape]
  simp only [Result.andThen]
  rw [Oper.upon_value]
  go_wp2
  rw [Lib.run_from_unsafe w ⟨b, 0, none⟩ Tryz.underlying150 Tryz.underlying83 hj hsh hlies]
  simp only [Result.andThen]
  rw [Oper.upon_value]
  go_wp2
  go_end0
  exact ⟨rfl, rfl⟩
theorem setW (B b : Nat) (w : World) (i : Nat) (v : Value) : KeptW B b w (w.setCell ⟨b, i, none⟩ v) :=
  ⟨rfl, rfl, rfl, by simp [World.setCell], fun k _ hk _ => Below.heap_setCell _ _ _ _ hk⟩
theorem copyCheckW_any (B b : Nat) (l : List UInt8) (w : World) (h : BldW B b l w) :
    Calls Tryz.prog 90 #[.pointer (some ⟨b, 0, none⟩)] w fun e w' => e = .returned (.tuple #[]) ∧
      (b < B ∧ ∃ v, w'.heap[b]? = some (.cells #[.pointer (some ⟨b, 0, none⟩), v] 121 (0, 0)) ∧ w'.ownsRow B 5 1 v l.length (Lib.byteCells l)) ∧ KeptW B b w w' := by
  obtain ⟨hbB, p, v, hb, hp, hown⟩ := h
  rcases hp with rfl | rfl
  · refine (copyCheckW_fresh b w (by rw [blkCell hb]; rfl) (by simp [World.shape?, hb]) (by simp [World.frozen?, hb])).mono ?_
    rintro e w' ⟨rfl, rfl⟩
    exact ⟨rfl, ⟨hbB, v, heap_set w b 0 _ _ _ _ hb, own_set hbB hown⟩, setW B b w 0 _⟩
  · refine (copyCheck_used b w (by rw [blkCell hb]; rfl)).mono ?_
    rintro e w' ⟨rfl, rfl⟩
    exact ⟨rfl, ⟨hbB, v, hb, hown⟩, KeptW.refl _ _ _⟩
set_option maxHeartbeats 1000000 in
theorem writeW_any (B b : Nat) (l : List UInt8) (s : ByteArray) (w : World) (h : BldW B b l w) (hlen : l.length + s.size ≤ 140737488355328) (hBw : B ≤ w.heap.size) :
    Calls Tryz.prog 49 #[.pointer (some ⟨b, 0, none⟩), .string s] w fun e w' => e = .returned (.tuple #[.int .i64 s.size, .nilIface]) ∧ BldW B b (l ++ s.data.toList) w' ∧ KeptW B b w w' := by
  obtain ⟨i0, hi, hz0, hz1, hz2⟩ := info_parts info_byte
  have HC := Lib.hid (copyCheckW_any B b l w h)
  clear h
  go_enter Tryz.func49, Tryz.ntmps49
  go_wp2_with (go_at_call 90; refine HC.out.mono ?_)
  rintro e w1 ⟨rfl, ⟨hbB, v, hbk, hown⟩, hk1⟩
  have hs1 := hk1.size
  have c1 : w1.cell? ⟨b, 1, none⟩ = some v := by rw [blkCell hbk]; rfl
  go_wp2_with (at_builtin; refine Lib.wpList_append_own_string _ rfl _ _ 74 9 rfl B 5 i0 Tryz.underlying74 Tryz.underlying9 hi hz0 hz1 hz2 _ _ _ rfl hown s rfl ?c3 ?c4 ?c5 ?_)
  case c3 => unfold maxLen; omega
  case c4 => omega
  case c5 => omega
  intro v' w2 hown' hgrow _
  have hlt : b < w1.heap.size := heapLt hbk
  have hne : v.ownBlock ≠ some b := fun e => by
    have := (hown.lt b e).1; omega
  have hb2 : w2.heap[b]? = some (.cells #[.pointer (some ⟨b, 0, none⟩), v] 121 (0, 0)) := by
    rw [hgrow.block b hlt (fun e => hne e.symm)]; exact hbk
  have d1 : w2.cell? ⟨b, 1, none⟩ = some v := by rw [blkCell hb2]; rfl
  have f1 : w2.frozen? ⟨b, 1, none⟩ = false := by simp [World.frozen?, hb2]
  obtain ⟨ao, n', cap, rfl⟩ : ∃ ao n' cap, v' = .slice ao n' cap := by
    rcases hown'.2 with ⟨hv, _⟩ | ⟨g, cap, cur, hv, _⟩
    · exact ⟨_, _, _, hv⟩
    · exact ⟨_, _, _, hv⟩
  have hk2 : KeptW B b w1 w2 := ⟨hgrow.os, hgrow.tape, hgrow.output, hgrow.size, fun k hk hkb hc => hgrow.block k hk (fun e => by
    have h1 := (hown.lt k e.symm).1
    rcases hc with hc | ⟨cs, t, fr, hcs, ht⟩
    · omega
    · rcases hown.2 with ⟨hv, _⟩ | ⟨g, cap', cur, hv, _, hg, _⟩
      · rw [hv] at e; simp [Value.ownBlock] at e
      · rw [hv] at e
        have hkg : g = k := by simpa [Value.ownBlock] using e.symm
        subst hkg
        rw [hcs] at hg
        injection hg with hg
        injection hg with _ hg2
        exact ht hg2)⟩
  have HKW := Lib.hid (hk1.trans hk2)
  clear hk1 hk2
  go_wp2_with fail
  go_ret2
  refine ⟨rfl, ?_, HKW.out.trans (setW B b w2 1 _)⟩
  have hbs : Lib.byteCells (l ++ s.data.toList) = Lib.byteCells l ++ Lib.strCells s := by
    simp [Lib.byteCells, Lib.strCells]
  refine ⟨hbB, _, _, heap_set w2 b 1 _ _ _ _ hb2, .inr rfl, ?_⟩
  have := own_set (i := 1) (u := .slice ao n' cap) hbB hown'
  rw [hbs, List.length_append, show s.data.toList.length = s.size by simp]
  exact this
end Go.Proofs.YtojaagnfjenhoaaGreat
