/- The walk over package rec: Right, of one kind. -/
import Derived.Test.YtojaagnfjenhoaaGs08
namespace Go.Proofs.Ytojaagnfjenhoaa
open Go.RowKit
set_option maxRecDepth 100000 in
set_option maxHeartbeats 2000000 in
theorem right_change (lsn prev txn page next nu ok os how root ep es : Int) (oo on ek : ByteArray) (ts : List Rc.TxnAt) (ds : List Rc.DirtyAt) (A B : Option Addr) (c d : Nat) (w : World) (hr : RecR w ⟨lsn, prev, txn, 2, page, next, nu, ⟨ok, os, oo, on⟩, how, root, ⟨ek, ep, es⟩, ts, ds⟩ A c B d) :
    Calls Try.prog 37 #[.agg #[.int .i64 lsn, .int .i64 prev, .int .i64 txn, .int .i64 2, .int .i64 page, .int .i64 next, .int .i64 nu, .int .i64 ok, .int .i64 os, .string oo, .string on, .int .i64 how, .int .i64 root, .string ek, .int .i64 ep, .int .i64 es, .slice A ts.length c, .slice B ds.length d]] w fun e w' => e = .returned (.bool (Rc.rightB ⟨lsn, prev, txn, 2, page, next, nu, ⟨ok, os, oo, on⟩, how, root, ⟨ek, ep, es⟩, ts, ds⟩)) ∧ Below w.heap.size w w' := by
  have HOF := Lib.hid (fun W => of_any 2 W)
  rw [show ofV 2 = .tuple #[formV true true false false true, .bool true] from rfl] at HOF
  have HNO := Lib.hid (fun W g h => number3 lsn prev txn W g h)
  obtain ⟨Q, hQ⟩ : ∃ Q, Q = Rc.rightB ⟨lsn, prev, txn, 2, page, next, nu, ⟨ok, os, oo, on⟩, how, root, ⟨ek, ep, es⟩, ts, ds⟩ := ⟨_, rfl⟩
  rw [← hQ]
  have HQ := Lib.hid hQ
  have hsm := hr.small
  simp only at hsm
  have hsm1 := hsm.1
  have hsm2 := hsm.2
  have HRR := Lib.hid hr
  clear hQ hr hsm
  have RI := Lib.hid (Rc.right_2 lsn prev txn page next nu how root ⟨ok, os, oo, on⟩ ⟨ek, ep, es⟩ ts ds)
  cases hn : decide (Rc.num lsn ∧ Rc.num prev ∧ Rc.num txn) with
  | false =>
    rw [hn] at HNO
    have HF := Lib.hid (HQ.out.trans (Rc.rightB_no fun h => of_decide_eq_false hn (RI.out.1 h).1))
    clear hn RI
    go_enter Try.func37, Try.ntmps37
    go_wp2_with (first
      | (go_at_call 56; (with_reducible refine (HOF.out _).mono ?_); rintro e w1 ⟨rfl, hb1⟩; have hR := blkCell (blkNew hb1); have hl1 : w.heap.size < w1.heap.size := (by have := hb1.size; simp at this; omega); have HB1 := Lib.hid hb1; clear hb1)
      | (go_at_call 58; (with_reducible refine (HNO.out _ _ ?_).mono ?_); (with_reducible exact new2 _ _ _); rintro e w2 ⟨rfl, hb2⟩; have hR2 := blkCell (blkOld (blkNew HB1.out) (joinB (pastAlloc (allocB _ _)) hb2)); have hl2 : w1.heap.size + 1 < w2.heap.size := (by have := hb2.size; simp at this; omega); have HB2 := Lib.hid hb2; clear hb2)
      | (with_reducible refine wpList_store_new rfl 49 (.tmp 5) (.tmp 33) rfl #[.int .i64 lsn, .int .i64 prev, .int .i64 txn, .int .i64 2, .int .i64 0, .int .i64 0, .int .i64 0, .int .i64 0, .int .i64 0, .string ⟨#[]⟩, .string ⟨#[]⟩, .int .i64 0, .int .i64 0, .string ⟨#[]⟩, .int .i64 0, .int .i64 0, .slice none 0 0, .slice none 0 0] _ _ rfl (by kernel_rfl) (by kernel_rfl) (by kernel_rfl) (by kernel_rfl) ?_))
    go_ret
    exact ⟨by rw [HF.out]; rfl, joinB (joinB (allocB _ _) HB1.out) (joinB (pastAlloc (allocB _ _)) HB2.out)⟩
  | true =>
    rw [hn] at HNO
    have HN := Lib.hid (of_decide_eq_true hn)
    clear hn
    go_enter Try.func37, Try.ntmps37
    go_upto_region 5 with (first
      | (go_at_call 56; (with_reducible refine (HOF.out _).mono ?_); rintro e w1 ⟨rfl, hb1⟩; have hR := blkCell (blkNew hb1); have hl1 : w.heap.size < w1.heap.size := (by have := hb1.size; simp at this; omega); have HB1 := Lib.hid hb1; clear hb1)
      | (go_at_call 58; (with_reducible refine (HNO.out _ _ ?_).mono ?_); (with_reducible exact new2 _ _ _); rintro e w2 ⟨rfl, hb2⟩; have hR2 := blkCell (blkOld (blkNew HB1.out) (joinB (pastAlloc (allocB _ _)) hb2)); have hl2 : w1.heap.size + 1 < w2.heap.size := (by have := hb2.size; simp at this; omega); have HB2 := Lib.hid hb2; clear hb2)
      | (with_reducible refine wpList_store_new rfl 49 (.tmp 5) (.tmp 33) rfl #[.int .i64 lsn, .int .i64 prev, .int .i64 txn, .int .i64 2, .int .i64 0, .int .i64 0, .int .i64 0, .int .i64 0, .int .i64 0, .string ⟨#[]⟩, .string ⟨#[]⟩, .int .i64 0, .int .i64 0, .string ⟨#[]⟩, .int .i64 0, .int .i64 0, .slice none 0 0, .slice none 0 0] _ _ rfl (by kernel_rfl) (by kernel_rfl) (by kernel_rfl) (by kernel_rfl) ?_))
    have HX := Lib.hid (boxes_new (R := #[.int .i64 lsn, .int .i64 prev, .int .i64 txn, .int .i64 2, .int .i64 page, .int .i64 next, .int .i64 nu, .int .i64 ok, .int .i64 os, .string oo, .string on, .int .i64 how, .int .i64 root, .string ek, .int .i64 ep, .int .i64 es, .slice A ts.length c, .slice B ds.length d]) (F := #[.bool true, .bool true, .bool false, .bool false, .bool true]) (X := #[.int .i64 lsn, .int .i64 prev, .int .i64 txn, .int .i64 2, .int .i64 0, .int .i64 0, .int .i64 0, .int .i64 0, .int .i64 0, .string ⟨#[]⟩, .string ⟨#[]⟩, .int .i64 0, .int .i64 0, .string ⟨#[]⟩, .int .i64 0, .int .i64 0, .slice none 0 0, .slice none 0 0]) HB1.out HB2.out)
    clear hR hR2 HNO HOF HB1 HB2
    obtain ⟨V, hV⟩ : ∃ V, V = w2.alloc (.cells #[.int .i64 lsn, .int .i64 prev, .int .i64 txn, .int .i64 2, .int .i64 0, .int .i64 0, .int .i64 0, .int .i64 0, .int .i64 0, .string ⟨#[]⟩, .string ⟨#[]⟩, .int .i64 0, .int .i64 0, .string ⟨#[]⟩, .int .i64 0, .int .i64 0, .slice none 0 0, .slice none 0 0] 49) := ⟨_, rfl⟩
    rw [← hV] at HX ⊢
    clear hV
    have hR := blkCell HX.out.br
    have hF := blkCell HX.out.bf
    go_upto_region 6 with (fail)
    go_cut [4] (fun s we => s = .bool (decide (Rc.pg page) && decide (Rc.opR ⟨ok, os, oo, on⟩)) ∧ Boxes w w.heap.size w1.heap.size w2.heap.size #[.int .i64 lsn, .int .i64 prev, .int .i64 txn, .int .i64 2, .int .i64 page, .int .i64 next, .int .i64 nu, .int .i64 ok, .int .i64 os, .string oo, .string on, .int .i64 how, .int .i64 root, .string ek, .int .i64 ep, .int .i64 es, .slice A ts.length c, .slice B ds.length d] #[.bool true, .bool true, .bool false, .bool false, .bool true] #[.int .i64 lsn, .int .i64 prev, .int .i64 txn, .int .i64 2, .int .i64 0, .int .i64 0, .int .i64 0, .int .i64 0, .int .i64 0, .string ⟨#[]⟩, .string ⟨#[]⟩, .int .i64 0, .int .i64 0, .string ⟨#[]⟩, .int .i64 0, .int .i64 0, .slice none 0 0, .slice none 0 0] we)
    case first =>
      cases hp : decide (Rc.pg page) with
      | false =>
        have HP := Lib.hid hp
        clear hp
        go_wp2_with (first | (go_at_call 59; (with_reducible refine (paged1 page _ _ ?_).mono ?_); (with_reducible exact heap_alloc_new _ _); rintro e w3 ⟨rfl, hb3⟩; rw [HP.out]))
        go_meet
        case rel => exact ⟨by simp [HP.out], HX.out.step (joinB (allocB _ _) hb3)⟩
      | true =>
        have HP := Lib.hid hp
        clear hp
        generalize hqo : decide (Rc.opR ⟨ok, os, oo, on⟩) = qo
        have HO := Lib.hid hqo
        clear hqo
        go_wp2_with (first | (go_at_call 59; (with_reducible refine (paged1 page _ _ ?_).mono ?_); (with_reducible exact heap_alloc_new _ _); rintro e w3 ⟨rfl, hb3⟩; rw [HP.out]; have hR3 := blkCell (HX.out.step (joinB (allocB _ _) hb3)).br) | (go_at_call 60; (with_reducible refine (op_any ⟨ok, os, oo, on⟩ _).mono ?_); rintro e w4 ⟨rfl, hb4⟩; rw [HO.out]))
        go_meet
        case rel => exact ⟨by simp [HP.out, HO.out], (HX.out.step (joinB (allocB _ _) hb3)).step hb4⟩
    case rest =>
    obtain ⟨W1, rfl⟩ : ∃ wm : World, wm = wc := ⟨_, rfl⟩
    obtain ⟨rfl, hB1⟩ := hcut
    have H1 := Lib.hid hB1
    clear hR hF hB1 HX
    have hR := blkCell H1.out.br
    have hF := blkCell H1.out.bf
    have hXc := blkCell H1.out.bx
    have hXz := blkFrozen H1.out.bx
    have hne : w.heap.size ≠ w2.heap.size := by have := H1.out.ab; omega
    go_upto_region 7 with (fail)
    go_cut [] (fun we => Boxes w w.heap.size w1.heap.size w2.heap.size #[.int .i64 lsn, .int .i64 prev, .int .i64 txn, .int .i64 2, .int .i64 page, .int .i64 next, .int .i64 nu, .int .i64 ok, .int .i64 os, .string oo, .string on, .int .i64 how, .int .i64 root, .string ek, .int .i64 ep, .int .i64 es, .slice A ts.length c, .slice B ds.length d] #[.bool true, .bool true, .bool false, .bool false, .bool true] #[.int .i64 lsn, .int .i64 prev, .int .i64 txn, .int .i64 2, .int .i64 page, .int .i64 0, .int .i64 0, .int .i64 ok, .int .i64 os, .string oo, .string on, .int .i64 0, .int .i64 0, .string ⟨#[]⟩, .int .i64 0, .int .i64 0, .slice none 0 0, .slice none 0 0] we)
    case first =>
      go_region
      all_goals
        go_wp2_with fail
        go_meet
        case rel =>
          first
            | (have h := (((((H1.out.set 4 (.int .i64 page)).set 7 (.int .i64 ok)).set 8 (.int .i64 os)).set 9 (.string oo)).set 10 (.string on)).drew; simpa using h)
            | (have h := (((((H1.out.set 7 (.int .i64 ok)).set 8 (.int .i64 os)).set 9 (.string oo)).set 10 (.string on)).set 4 (.int .i64 page)).drew; simpa using h)
    case rest =>
    obtain ⟨W2, rfl⟩ : ∃ wm : World, wm = wc := ⟨_, rfl⟩
    have H2 := Lib.hid hcut
    clear hR hF hXc hXz hcut H1
    have hR := blkCell H2.out.br
    have hF := blkCell H2.out.bf
    go_upto_region 9 with (fail)
    go_cut [4] (fun s we => s = .bool ((decide (Rc.pg page) && decide (Rc.opR ⟨ok, os, oo, on⟩)) && decide (Rc.treeR ⟨lsn, prev, txn, 2, page, next, nu, ⟨ok, os, oo, on⟩, how, root, ⟨ek, ep, es⟩, ts, ds⟩)) ∧ Boxes w w.heap.size w1.heap.size w2.heap.size #[.int .i64 lsn, .int .i64 prev, .int .i64 txn, .int .i64 2, .int .i64 page, .int .i64 next, .int .i64 nu, .int .i64 ok, .int .i64 os, .string oo, .string on, .int .i64 how, .int .i64 root, .string ek, .int .i64 ep, .int .i64 es, .slice A ts.length c, .slice B ds.length d] #[.bool true, .bool true, .bool false, .bool false, .bool true] #[.int .i64 lsn, .int .i64 prev, .int .i64 txn, .int .i64 2, .int .i64 page, .int .i64 0, .int .i64 0, .int .i64 ok, .int .i64 os, .string oo, .string on, .int .i64 0, .int .i64 0, .string ⟨#[]⟩, .int .i64 0, .int .i64 0, .slice none 0 0, .slice none 0 0] we)
    case first =>
      generalize hqa : (decide (Rc.pg page) && decide (Rc.opR ⟨ok, os, oo, on⟩)) = qa
      have HA := Lib.hid hqa
      clear hqa
      cases qa with
      | false =>
        go_wp2_with fail
        go_meet
        case rel => exact ⟨by simp [HA.out], H2.out⟩
      | true =>
        generalize hqt : decide (Rc.treeR ⟨lsn, prev, txn, 2, page, next, nu, ⟨ok, os, oo, on⟩, how, root, ⟨ek, ep, es⟩, ts, ds⟩) = qt
        have HT := Lib.hid hqt
        clear hqt
        go_wp2_with (first | (with_reducible refine listLoad (by kernel_rfl) 49 (.tmp 1) rfl w.heap.size rfl #[.int .i64 lsn, .int .i64 prev, .int .i64 txn, .int .i64 2, .int .i64 page, .int .i64 next, .int .i64 nu, .int .i64 ok, .int .i64 os, .string oo, .string on, .int .i64 how, .int .i64 root, .string ek, .int .i64 ep, .int .i64 es, .slice A ts.length c, .slice B ds.length d] _ H2.out.br _ Try.underlying49 (by kernel_rfl) (by kernel_rfl) ?_) | (go_at_call 61; (with_reducible refine (tree_any ⟨lsn, prev, txn, 2, page, next, nu, ⟨ok, os, oo, on⟩, how, root, ⟨ek, ep, es⟩, ts, ds⟩ (.slice A ts.length c) (.slice B ds.length d) _).mono ?_); rintro e w5 ⟨rfl, hb5⟩; rw [HT.out]))
        go_meet
        case rel => exact ⟨by simp [HA.out, HT.out], H2.out.step hb5⟩
    case rest =>
    obtain ⟨W3, rfl⟩ : ∃ wm : World, wm = wc := ⟨_, rfl⟩
    obtain ⟨rfl, hB3⟩ := hcut
    have H3 := Lib.hid hB3
    clear hR hF hB3 H2
    have hR := blkCell H3.out.br
    have hF := blkCell H3.out.bf
    have hXc := blkCell H3.out.bx
    have hXz := blkFrozen H3.out.bx
    have hne : w.heap.size ≠ w2.heap.size := by have := H3.out.ab; omega
    go_upto_region 10 with (fail)
    go_cut [] (fun we => Boxes w w.heap.size w1.heap.size w2.heap.size #[.int .i64 lsn, .int .i64 prev, .int .i64 txn, .int .i64 2, .int .i64 page, .int .i64 next, .int .i64 nu, .int .i64 ok, .int .i64 os, .string oo, .string on, .int .i64 how, .int .i64 root, .string ek, .int .i64 ep, .int .i64 es, .slice A ts.length c, .slice B ds.length d] #[.bool true, .bool true, .bool false, .bool false, .bool true] #[.int .i64 lsn, .int .i64 prev, .int .i64 txn, .int .i64 2, .int .i64 page, .int .i64 0, .int .i64 0, .int .i64 ok, .int .i64 os, .string oo, .string on, .int .i64 how, .int .i64 root, .string ek, .int .i64 ep, .int .i64 es, .slice none 0 0, .slice none 0 0] we)
    case first =>
      go_region
      all_goals
        go_wp2_with fail
        go_meet
        case rel =>
          first
            | (have h := (((((H3.out.set 11 (.int .i64 how)).set 12 (.int .i64 root)).set 13 (.string ek)).set 14 (.int .i64 ep)).set 15 (.int .i64 es)).drew; simpa using h)
            | (have h := (((((H3.out.set 11 (.int .i64 how)).set 13 (.string ek)).set 14 (.int .i64 ep)).set 15 (.int .i64 es)).set 12 (.int .i64 root)).drew; simpa using h)
            | (have h := (((((H3.out.set 12 (.int .i64 root)).set 11 (.int .i64 how)).set 13 (.string ek)).set 14 (.int .i64 ep)).set 15 (.int .i64 es)).drew; simpa using h)
            | (have h := (((((H3.out.set 12 (.int .i64 root)).set 13 (.string ek)).set 14 (.int .i64 ep)).set 15 (.int .i64 es)).set 11 (.int .i64 how)).drew; simpa using h)
            | (have h := (((((H3.out.set 13 (.string ek)).set 14 (.int .i64 ep)).set 15 (.int .i64 es)).set 11 (.int .i64 how)).set 12 (.int .i64 root)).drew; simpa using h)
            | (have h := (((((H3.out.set 13 (.string ek)).set 14 (.int .i64 ep)).set 15 (.int .i64 es)).set 12 (.int .i64 root)).set 11 (.int .i64 how)).drew; simpa using h)
    case rest =>
    obtain ⟨W4, rfl⟩ : ∃ wm : World, wm = wc := ⟨_, rfl⟩
    have H4 := Lib.hid hcut
    clear hR hF hXc hXz hcut H3
    have hR := blkCell H4.out.br
    have hF := blkCell H4.out.bf
    go_upto_region 19 with (fail)
    generalize hqa : ((decide (Rc.pg page) && decide (Rc.opR ⟨ok, os, oo, on⟩)) && decide (Rc.treeR ⟨lsn, prev, txn, 2, page, next, nu, ⟨ok, os, oo, on⟩, how, root, ⟨ek, ep, es⟩, ts, ds⟩)) = qa
    have HA := Lib.hid hqa
    clear hqa
    cases qa with
    | false =>
      go_wp2_with fail
      go_ret
      refine ⟨?_, H4.out.below⟩
      have HF := HQ.out.trans (Rc.rightB_no fun h => by
        have h2 := (RI.out.1 h).2.1
        have h3 := HA.out
        simp only [Bool.and_eq_false_iff, decide_eq_false_iff_not] at h3
        grind)
      rw [HF]
      rfl
    | true =>
      have HS := Lib.hid (same_any ⟨lsn, prev, txn, 2, page, 0, 0, ⟨ok, os, oo, on⟩, how, root, ⟨ek, ep, es⟩, [], []⟩ ⟨lsn, prev, txn, 2, page, next, nu, ⟨ok, os, oo, on⟩, how, root, ⟨ek, ep, es⟩, ts, ds⟩ none A none B 0 c 0 d W4 ⟨(Reads.none_ _ _ _ _), (Reads.none_ _ _ _ _), ⟨by simp, by simp⟩⟩ (HRR.out.below H4.out.below))
      dsimp only [recV, recA, List.length_nil] at HS
      cases he : decide ((⟨lsn, prev, txn, 2, page, 0, 0, ⟨ok, os, oo, on⟩, how, root, ⟨ek, ep, es⟩, [], []⟩ : Rc.Rec) = ⟨lsn, prev, txn, 2, page, next, nu, ⟨ok, os, oo, on⟩, how, root, ⟨ek, ep, es⟩, ts, ds⟩) with
      | false =>
        have HE := Lib.hid he
        clear he
        go_wp2_with (first | (with_reducible refine listLoad (by kernel_rfl) 49 (.tmp 5) rfl w2.heap.size rfl #[.int .i64 lsn, .int .i64 prev, .int .i64 txn, .int .i64 2, .int .i64 page, .int .i64 0, .int .i64 0, .int .i64 ok, .int .i64 os, .string oo, .string on, .int .i64 how, .int .i64 root, .string ek, .int .i64 ep, .int .i64 es, .slice none 0 0, .slice none 0 0] _ H4.out.bx _ Try.underlying49 (by kernel_rfl) (by kernel_rfl) ?_) | (with_reducible refine listLoad (by kernel_rfl) 49 (.tmp 1) rfl w.heap.size rfl #[.int .i64 lsn, .int .i64 prev, .int .i64 txn, .int .i64 2, .int .i64 page, .int .i64 next, .int .i64 nu, .int .i64 ok, .int .i64 os, .string oo, .string on, .int .i64 how, .int .i64 root, .string ek, .int .i64 ep, .int .i64 es, .slice A ts.length c, .slice B ds.length d] _ H4.out.br _ Try.underlying49 (by kernel_rfl) (by kernel_rfl) ?_) | (go_at_call 66; (with_reducible refine HS.out.mono ?_); rintro e w9 ⟨rfl, hb9⟩; rw [HE.out]))
        go_ret
        refine ⟨?_, joinB H4.out.below hb9⟩
        rw [HQ.out.trans (Rc.rightB_no fun h => of_decide_eq_false HE.out (RI.out.1 h).2.2)]
        rfl
      | true =>
        have HE := Lib.hid he
        clear he
        go_wp2_with (first | (with_reducible refine listLoad (by kernel_rfl) 49 (.tmp 5) rfl w2.heap.size rfl #[.int .i64 lsn, .int .i64 prev, .int .i64 txn, .int .i64 2, .int .i64 page, .int .i64 0, .int .i64 0, .int .i64 ok, .int .i64 os, .string oo, .string on, .int .i64 how, .int .i64 root, .string ek, .int .i64 ep, .int .i64 es, .slice none 0 0, .slice none 0 0] _ H4.out.bx _ Try.underlying49 (by kernel_rfl) (by kernel_rfl) ?_) | (with_reducible refine listLoad (by kernel_rfl) 49 (.tmp 1) rfl w.heap.size rfl #[.int .i64 lsn, .int .i64 prev, .int .i64 txn, .int .i64 2, .int .i64 page, .int .i64 next, .int .i64 nu, .int .i64 ok, .int .i64 os, .string oo, .string on, .int .i64 how, .int .i64 root, .string ek, .int .i64 ep, .int .i64 es, .slice A ts.length c, .slice B ds.length d] _ H4.out.br _ Try.underlying49 (by kernel_rfl) (by kernel_rfl) ?_) | (go_at_call 66; (with_reducible refine HS.out.mono ?_); rintro e w9 ⟨rfl, hb9⟩; rw [HE.out]))
        go_ret
        refine ⟨?_, joinB H4.out.below hb9⟩
        rw [HQ.out.trans (Rc.rightB_yes (RI.out.2 ⟨HN.out, by have h3 := HA.out; simpa only [Bool.and_eq_true, decide_eq_true_eq] using h3, of_decide_eq_true HE.out⟩))]
        rfl
end Go.Proofs.Ytojaagnfjenhoaa
/- The walk over package rec: Right, of one kind. -/
namespace Go.Proofs.Ytojaagnfjenhoaa
open Go.RowKit
set_option maxRecDepth 100000 in
set_option maxHeartbeats 2000000 in
theorem right_clr (lsn prev txn page next nu ok os how root ep es : Int) (oo on ek : ByteArray) (ts : List Rc.TxnAt) (ds : List Rc.DirtyAt) (A B : Option Addr) (c d : Nat) (w : World) (hr : RecR w ⟨lsn, prev, txn, 3, page, next, nu, ⟨ok, os, oo, on⟩, how, root, ⟨ek, ep, es⟩, ts, ds⟩ A c B d) :
    Calls Try.prog 37 #[.agg #[.int .i64 lsn, .int .i64 prev, .int .i64 txn, .int .i64 3, .int .i64 page, .int .i64 next, .int .i64 nu, .int .i64 ok, .int .i64 os, .string oo, .string on, .int .i64 how, .int .i64 root, .string ek, .int .i64 ep, .int .i64 es, .slice A ts.length c, .slice B ds.length d]] w fun e w' => e = .returned (.bool (Rc.rightB ⟨lsn, prev, txn, 3, page, next, nu, ⟨ok, os, oo, on⟩, how, root, ⟨ek, ep, es⟩, ts, ds⟩)) ∧ Below w.heap.size w w' := by
  have HOF := Lib.hid (fun W => of_any 3 W)
  rw [show ofV 3 = .tuple #[formV true false true false true, .bool true] from rfl] at HOF
  have HNO := Lib.hid (fun W g h => number3 lsn prev txn W g h)
  obtain ⟨Q, hQ⟩ : ∃ Q, Q = Rc.rightB ⟨lsn, prev, txn, 3, page, next, nu, ⟨ok, os, oo, on⟩, how, root, ⟨ek, ep, es⟩, ts, ds⟩ := ⟨_, rfl⟩
  rw [← hQ]
  have HQ := Lib.hid hQ
  have hsm := hr.small
  simp only at hsm
  have hsm1 := hsm.1
  have hsm2 := hsm.2
  have HRR := Lib.hid hr
  clear hQ hr hsm
  have RI := Lib.hid (Rc.right_3 lsn prev txn page next nu how root ⟨ok, os, oo, on⟩ ⟨ek, ep, es⟩ ts ds)
  cases hn : decide (Rc.num lsn ∧ Rc.num prev ∧ Rc.num txn) with
  | false =>
    rw [hn] at HNO
    have HF := Lib.hid (HQ.out.trans (Rc.rightB_no fun h => of_decide_eq_false hn (RI.out.1 h).1))
    clear hn RI
    go_enter Try.func37, Try.ntmps37
    go_wp2_with (first
      | (go_at_call 56; (with_reducible refine (HOF.out _).mono ?_); rintro e w1 ⟨rfl, hb1⟩; have hR := blkCell (blkNew hb1); have hl1 : w.heap.size < w1.heap.size := (by have := hb1.size; simp at this; omega); have HB1 := Lib.hid hb1; clear hb1)
      | (go_at_call 58; (with_reducible refine (HNO.out _ _ ?_).mono ?_); (with_reducible exact new2 _ _ _); rintro e w2 ⟨rfl, hb2⟩; have hR2 := blkCell (blkOld (blkNew HB1.out) (joinB (pastAlloc (allocB _ _)) hb2)); have hl2 : w1.heap.size + 1 < w2.heap.size := (by have := hb2.size; simp at this; omega); have HB2 := Lib.hid hb2; clear hb2)
      | (with_reducible refine wpList_store_new rfl 49 (.tmp 5) (.tmp 33) rfl #[.int .i64 lsn, .int .i64 prev, .int .i64 txn, .int .i64 3, .int .i64 0, .int .i64 0, .int .i64 0, .int .i64 0, .int .i64 0, .string ⟨#[]⟩, .string ⟨#[]⟩, .int .i64 0, .int .i64 0, .string ⟨#[]⟩, .int .i64 0, .int .i64 0, .slice none 0 0, .slice none 0 0] _ _ rfl (by kernel_rfl) (by kernel_rfl) (by kernel_rfl) (by kernel_rfl) ?_))
    go_ret
    exact ⟨by rw [HF.out]; rfl, joinB (joinB (allocB _ _) HB1.out) (joinB (pastAlloc (allocB _ _)) HB2.out)⟩
  | true =>
    rw [hn] at HNO
    have HN := Lib.hid (of_decide_eq_true hn)
    clear hn
    go_enter Try.func37, Try.ntmps37
    go_upto_region 5 with (first
      | (go_at_call 56; (with_reducible refine (HOF.out _).mono ?_); rintro e w1 ⟨rfl, hb1⟩; have hR := blkCell (blkNew hb1); have hl1 : w.heap.size < w1.heap.size := (by have := hb1.size; simp at this; omega); have HB1 := Lib.hid hb1; clear hb1)
      | (go_at_call 58; (with_reducible refine (HNO.out _ _ ?_).mono ?_); (with_reducible exact new2 _ _ _); rintro e w2 ⟨rfl, hb2⟩; have hR2 := blkCell (blkOld (blkNew HB1.out) (joinB (pastAlloc (allocB _ _)) hb2)); have hl2 : w1.heap.size + 1 < w2.heap.size := (by have := hb2.size; simp at this; omega); have HB2 := Lib.hid hb2; clear hb2)
      | (with_reducible refine wpList_store_new rfl 49 (.tmp 5) (.tmp 33) rfl #[.int .i64 lsn, .int .i64 prev, .int .i64 txn, .int .i64 3, .int .i64 0, .int .i64 0, .int .i64 0, .int .i64 0, .int .i64 0, .string ⟨#[]⟩, .string ⟨#[]⟩, .int .i64 0, .int .i64 0, .string ⟨#[]⟩, .int .i64 0, .int .i64 0, .slice none 0 0, .slice none 0 0] _ _ rfl (by kernel_rfl) (by kernel_rfl) (by kernel_rfl) (by kernel_rfl) ?_))
    have HX := Lib.hid (boxes_new (R := #[.int .i64 lsn, .int .i64 prev, .int .i64 txn, .int .i64 3, .int .i64 page, .int .i64 next, .int .i64 nu, .int .i64 ok, .int .i64 os, .string oo, .string on, .int .i64 how, .int .i64 root, .string ek, .int .i64 ep, .int .i64 es, .slice A ts.length c, .slice B ds.length d]) (F := #[.bool true, .bool false, .bool true, .bool false, .bool true]) (X := #[.int .i64 lsn, .int .i64 prev, .int .i64 txn, .int .i64 3, .int .i64 0, .int .i64 0, .int .i64 0, .int .i64 0, .int .i64 0, .string ⟨#[]⟩, .string ⟨#[]⟩, .int .i64 0, .int .i64 0, .string ⟨#[]⟩, .int .i64 0, .int .i64 0, .slice none 0 0, .slice none 0 0]) HB1.out HB2.out)
    clear hR hR2 HNO HOF HB1 HB2
    obtain ⟨V, hV⟩ : ∃ V, V = w2.alloc (.cells #[.int .i64 lsn, .int .i64 prev, .int .i64 txn, .int .i64 3, .int .i64 0, .int .i64 0, .int .i64 0, .int .i64 0, .int .i64 0, .string ⟨#[]⟩, .string ⟨#[]⟩, .int .i64 0, .int .i64 0, .string ⟨#[]⟩, .int .i64 0, .int .i64 0, .slice none 0 0, .slice none 0 0] 49) := ⟨_, rfl⟩
    rw [← hV] at HX ⊢
    clear hV
    have hR := blkCell HX.out.br
    have hF := blkCell HX.out.bf
    go_upto_region 6 with (fail)
    go_cut [4] (fun s we => s = .bool (decide (Rc.pg page) && decide (Rc.opR ⟨ok, os, oo, on⟩)) ∧ Boxes w w.heap.size w1.heap.size w2.heap.size #[.int .i64 lsn, .int .i64 prev, .int .i64 txn, .int .i64 3, .int .i64 page, .int .i64 next, .int .i64 nu, .int .i64 ok, .int .i64 os, .string oo, .string on, .int .i64 how, .int .i64 root, .string ek, .int .i64 ep, .int .i64 es, .slice A ts.length c, .slice B ds.length d] #[.bool true, .bool false, .bool true, .bool false, .bool true] #[.int .i64 lsn, .int .i64 prev, .int .i64 txn, .int .i64 3, .int .i64 0, .int .i64 0, .int .i64 0, .int .i64 0, .int .i64 0, .string ⟨#[]⟩, .string ⟨#[]⟩, .int .i64 0, .int .i64 0, .string ⟨#[]⟩, .int .i64 0, .int .i64 0, .slice none 0 0, .slice none 0 0] we)
    case first =>
      cases hp : decide (Rc.pg page) with
      | false =>
        have HP := Lib.hid hp
        clear hp
        go_wp2_with (first | (go_at_call 59; (with_reducible refine (paged1 page _ _ ?_).mono ?_); (with_reducible exact heap_alloc_new _ _); rintro e w3 ⟨rfl, hb3⟩; rw [HP.out]))
        go_meet
        case rel => exact ⟨by simp [HP.out], HX.out.step (joinB (allocB _ _) hb3)⟩
      | true =>
        have HP := Lib.hid hp
        clear hp
        generalize hqo : decide (Rc.opR ⟨ok, os, oo, on⟩) = qo
        have HO := Lib.hid hqo
        clear hqo
        go_wp2_with (first | (go_at_call 59; (with_reducible refine (paged1 page _ _ ?_).mono ?_); (with_reducible exact heap_alloc_new _ _); rintro e w3 ⟨rfl, hb3⟩; rw [HP.out]; have hR3 := blkCell (HX.out.step (joinB (allocB _ _) hb3)).br) | (go_at_call 60; (with_reducible refine (op_any ⟨ok, os, oo, on⟩ _).mono ?_); rintro e w4 ⟨rfl, hb4⟩; rw [HO.out]))
        go_meet
        case rel => exact ⟨by simp [HP.out, HO.out], (HX.out.step (joinB (allocB _ _) hb3)).step hb4⟩
    case rest =>
    obtain ⟨W1, rfl⟩ : ∃ wm : World, wm = wc := ⟨_, rfl⟩
    obtain ⟨rfl, hB1⟩ := hcut
    have H1 := Lib.hid hB1
    clear hR hF hB1 HX
    have hR := blkCell H1.out.br
    have hF := blkCell H1.out.bf
    have hXc := blkCell H1.out.bx
    have hXz := blkFrozen H1.out.bx
    have hne : w.heap.size ≠ w2.heap.size := by have := H1.out.ab; omega
    go_upto_region 7 with (fail)
    go_cut [] (fun we => Boxes w w.heap.size w1.heap.size w2.heap.size #[.int .i64 lsn, .int .i64 prev, .int .i64 txn, .int .i64 3, .int .i64 page, .int .i64 next, .int .i64 nu, .int .i64 ok, .int .i64 os, .string oo, .string on, .int .i64 how, .int .i64 root, .string ek, .int .i64 ep, .int .i64 es, .slice A ts.length c, .slice B ds.length d] #[.bool true, .bool false, .bool true, .bool false, .bool true] #[.int .i64 lsn, .int .i64 prev, .int .i64 txn, .int .i64 3, .int .i64 page, .int .i64 0, .int .i64 0, .int .i64 ok, .int .i64 os, .string oo, .string on, .int .i64 0, .int .i64 0, .string ⟨#[]⟩, .int .i64 0, .int .i64 0, .slice none 0 0, .slice none 0 0] we)
    case first =>
      go_region
      all_goals
        go_wp2_with fail
        go_meet
        case rel =>
          first
            | (have h := (((((H1.out.set 4 (.int .i64 page)).set 7 (.int .i64 ok)).set 8 (.int .i64 os)).set 9 (.string oo)).set 10 (.string on)).drew; simpa using h)
            | (have h := (((((H1.out.set 7 (.int .i64 ok)).set 8 (.int .i64 os)).set 9 (.string oo)).set 10 (.string on)).set 4 (.int .i64 page)).drew; simpa using h)
    case rest =>
    obtain ⟨W2, rfl⟩ : ∃ wm : World, wm = wc := ⟨_, rfl⟩
    have H2 := Lib.hid hcut
    clear hR hF hXc hXz hcut H1
    have hR := blkCell H2.out.br
    have hF := blkCell H2.out.bf
    go_upto_region 12 with (fail)
    go_cut [4] (fun s we => s = .bool ((decide (Rc.pg page) && decide (Rc.opR ⟨ok, os, oo, on⟩)) && decide (Rc.num next)) ∧ Boxes w w.heap.size w1.heap.size w2.heap.size #[.int .i64 lsn, .int .i64 prev, .int .i64 txn, .int .i64 3, .int .i64 page, .int .i64 next, .int .i64 nu, .int .i64 ok, .int .i64 os, .string oo, .string on, .int .i64 how, .int .i64 root, .string ek, .int .i64 ep, .int .i64 es, .slice A ts.length c, .slice B ds.length d] #[.bool true, .bool false, .bool true, .bool false, .bool true] #[.int .i64 lsn, .int .i64 prev, .int .i64 txn, .int .i64 3, .int .i64 page, .int .i64 0, .int .i64 0, .int .i64 ok, .int .i64 os, .string oo, .string on, .int .i64 0, .int .i64 0, .string ⟨#[]⟩, .int .i64 0, .int .i64 0, .slice none 0 0, .slice none 0 0] we)
    case first =>
      generalize hqa : (decide (Rc.pg page) && decide (Rc.opR ⟨ok, os, oo, on⟩)) = qa
      have HA := Lib.hid hqa
      clear hqa
      cases qa with
      | false =>
        go_wp2_with fail
        go_meet
        case rel => exact ⟨by simp [HA.out], H2.out⟩
      | true =>
        generalize hqt : decide (Rc.num next) = qt
        have HT := Lib.hid hqt
        clear hqt
        go_wp2_with (first | (go_at_call 58; (with_reducible refine (number1 next _ _ ?_).mono ?_); (with_reducible exact heap_alloc_new _ _); rintro e w5 ⟨rfl, hb5⟩; rw [HT.out]))
        go_meet
        case rel => exact ⟨by simp [HA.out, HT.out], H2.out.step (joinB (allocB _ _) hb5)⟩
    case rest =>
    obtain ⟨W3, rfl⟩ : ∃ wm : World, wm = wc := ⟨_, rfl⟩
    obtain ⟨rfl, hB3⟩ := hcut
    have H3 := Lib.hid hB3
    clear hR hF hB3 H2
    have hR := blkCell H3.out.br
    have hF := blkCell H3.out.bf
    have hXc := blkCell H3.out.bx
    have hXz := blkFrozen H3.out.bx
    have hne : w.heap.size ≠ w2.heap.size := by have := H3.out.ab; omega
    go_upto_region 14 with (fail)
    have h := H3.out.set 5 (.int .i64 next)
    have H4 : Hid (Boxes w w.heap.size w1.heap.size w2.heap.size #[.int .i64 lsn, .int .i64 prev, .int .i64 txn, .int .i64 3, .int .i64 page, .int .i64 next, .int .i64 nu, .int .i64 ok, .int .i64 os, .string oo, .string on, .int .i64 how, .int .i64 root, .string ek, .int .i64 ep, .int .i64 es, .slice A ts.length c, .slice B ds.length d] #[.bool true, .bool false, .bool true, .bool false, .bool true] #[.int .i64 lsn, .int .i64 prev, .int .i64 txn, .int .i64 3, .int .i64 page, .int .i64 next, .int .i64 0, .int .i64 ok, .int .i64 os, .string oo, .string on, .int .i64 0, .int .i64 0, .string ⟨#[]⟩, .int .i64 0, .int .i64 0, .slice none 0 0, .slice none 0 0] _) := Lib.hid (by simpa using h)
    clear h hR hF hXc hXz H3
    generalize World.setCell _ _ _ = W4 at H4 ⊢
    have hR := blkCell H4.out.br
    have hF := blkCell H4.out.bf
    go_upto_region 19 with (fail)
    generalize hqa : ((decide (Rc.pg page) && decide (Rc.opR ⟨ok, os, oo, on⟩)) && decide (Rc.num next)) = qa
    have HA := Lib.hid hqa
    clear hqa
    cases qa with
    | false =>
      go_wp2_with fail
      go_ret
      refine ⟨?_, H4.out.below⟩
      have HF := HQ.out.trans (Rc.rightB_no fun h => by
        have h2 := (RI.out.1 h).2.1
        have h3 := HA.out
        simp only [Bool.and_eq_false_iff, decide_eq_false_iff_not] at h3
        grind)
      rw [HF]
      rfl
    | true =>
      have HS := Lib.hid (same_any ⟨lsn, prev, txn, 3, page, next, 0, ⟨ok, os, oo, on⟩, 0, 0, ⟨⟨#[]⟩, 0, 0⟩, [], []⟩ ⟨lsn, prev, txn, 3, page, next, nu, ⟨ok, os, oo, on⟩, how, root, ⟨ek, ep, es⟩, ts, ds⟩ none A none B 0 c 0 d W4 ⟨(Reads.none_ _ _ _ _), (Reads.none_ _ _ _ _), ⟨by simp, by simp⟩⟩ (HRR.out.below H4.out.below))
      dsimp only [recV, recA, List.length_nil] at HS
      cases he : decide ((⟨lsn, prev, txn, 3, page, next, 0, ⟨ok, os, oo, on⟩, 0, 0, ⟨⟨#[]⟩, 0, 0⟩, [], []⟩ : Rc.Rec) = ⟨lsn, prev, txn, 3, page, next, nu, ⟨ok, os, oo, on⟩, how, root, ⟨ek, ep, es⟩, ts, ds⟩) with
      | false =>
        have HE := Lib.hid he
        clear he
        go_wp2_with (first | (with_reducible refine listLoad (by kernel_rfl) 49 (.tmp 5) rfl w2.heap.size rfl #[.int .i64 lsn, .int .i64 prev, .int .i64 txn, .int .i64 3, .int .i64 page, .int .i64 next, .int .i64 0, .int .i64 ok, .int .i64 os, .string oo, .string on, .int .i64 0, .int .i64 0, .string ⟨#[]⟩, .int .i64 0, .int .i64 0, .slice none 0 0, .slice none 0 0] _ H4.out.bx _ Try.underlying49 (by kernel_rfl) (by kernel_rfl) ?_) | (with_reducible refine listLoad (by kernel_rfl) 49 (.tmp 1) rfl w.heap.size rfl #[.int .i64 lsn, .int .i64 prev, .int .i64 txn, .int .i64 3, .int .i64 page, .int .i64 next, .int .i64 nu, .int .i64 ok, .int .i64 os, .string oo, .string on, .int .i64 how, .int .i64 root, .string ek, .int .i64 ep, .int .i64 es, .slice A ts.length c, .slice B ds.length d] _ H4.out.br _ Try.underlying49 (by kernel_rfl) (by kernel_rfl) ?_) | (go_at_call 66; (with_reducible refine HS.out.mono ?_); rintro e w9 ⟨rfl, hb9⟩; rw [HE.out]))
        go_ret
        refine ⟨?_, joinB H4.out.below hb9⟩
        rw [HQ.out.trans (Rc.rightB_no fun h => of_decide_eq_false HE.out (RI.out.1 h).2.2)]
        rfl
      | true =>
        have HE := Lib.hid he
        clear he
        go_wp2_with (first | (with_reducible refine listLoad (by kernel_rfl) 49 (.tmp 5) rfl w2.heap.size rfl #[.int .i64 lsn, .int .i64 prev, .int .i64 txn, .int .i64 3, .int .i64 page, .int .i64 next, .int .i64 0, .int .i64 ok, .int .i64 os, .string oo, .string on, .int .i64 0, .int .i64 0, .string ⟨#[]⟩, .int .i64 0, .int .i64 0, .slice none 0 0, .slice none 0 0] _ H4.out.bx _ Try.underlying49 (by kernel_rfl) (by kernel_rfl) ?_) | (with_reducible refine listLoad (by kernel_rfl) 49 (.tmp 1) rfl w.heap.size rfl #[.int .i64 lsn, .int .i64 prev, .int .i64 txn, .int .i64 3, .int .i64 page, .int .i64 next, .int .i64 nu, .int .i64 ok, .int .i64 os, .string oo, .string on, .int .i64 how, .int .i64 root, .string ek, .int .i64 ep, .int .i64 es, .slice A ts.length c, .slice B ds.length d] _ H4.out.br _ Try.underlying49 (by kernel_rfl) (by kernel_rfl) ?_) | (go_at_call 66; (with_reducible refine HS.out.mono ?_); rintro e w9 ⟨rfl, hb9⟩; rw [HE.out]))
        go_ret
        refine ⟨?_, joinB H4.out.below hb9⟩
        rw [HQ.out.trans (Rc.rightB_yes (RI.out.2 ⟨HN.out, by have h3 := HA.out; simpa only [Bool.and_eq_true, decide_eq_true_eq] using h3, of_decide_eq_true HE.out⟩))]
        rfl
end Go.Proofs.Ytojaagnfjenhoaa
/- The walk over package rec: Right, of one kind. -/
namespace Go.Proofs.Ytojaagnfjenhoaa
open Go.RowKit
set_option maxRecDepth 100000 in
set_option maxHeartbeats 2000000 in
theorem right_nest (lsn prev txn page next nu ok os how root ep es : Int) (oo on ek : ByteArray) (ts : List Rc.TxnAt) (ds : List Rc.DirtyAt) (A B : Option Addr) (c d : Nat) (w : World) (hr : RecR w ⟨lsn, prev, txn, 4, page, next, nu, ⟨ok, os, oo, on⟩, how, root, ⟨ek, ep, es⟩, ts, ds⟩ A c B d) :
    Calls Try.prog 37 #[.agg #[.int .i64 lsn, .int .i64 prev, .int .i64 txn, .int .i64 4, .int .i64 page, .int .i64 next, .int .i64 nu, .int .i64 ok, .int .i64 os, .string oo, .string on, .int .i64 how, .int .i64 root, .string ek, .int .i64 ep, .int .i64 es, .slice A ts.length c, .slice B ds.length d]] w fun e w' => e = .returned (.bool (Rc.rightB ⟨lsn, prev, txn, 4, page, next, nu, ⟨ok, os, oo, on⟩, how, root, ⟨ek, ep, es⟩, ts, ds⟩)) ∧ Below w.heap.size w w' := by
  have HOF := Lib.hid (fun W => of_any 4 W)
  rw [show ofV 4 = .tuple #[formV false false true false true, .bool true] from rfl] at HOF
  have HNO := Lib.hid (fun W g h => number3 lsn prev txn W g h)
  obtain ⟨Q, hQ⟩ : ∃ Q, Q = Rc.rightB ⟨lsn, prev, txn, 4, page, next, nu, ⟨ok, os, oo, on⟩, how, root, ⟨ek, ep, es⟩, ts, ds⟩ := ⟨_, rfl⟩
  rw [← hQ]
  have HQ := Lib.hid hQ
  have hsm := hr.small
  simp only at hsm
  have hsm1 := hsm.1
  have hsm2 := hsm.2
  have HRR := Lib.hid hr
  clear hQ hr hsm
  have RI := Lib.hid (Rc.right_4 lsn prev txn page next nu how root ⟨ok, os, oo, on⟩ ⟨ek, ep, es⟩ ts ds)
  cases hn : decide (Rc.num lsn ∧ Rc.num prev ∧ Rc.num txn) with
  | false =>
    rw [hn] at HNO
    have HF := Lib.hid (HQ.out.trans (Rc.rightB_no fun h => of_decide_eq_false hn (RI.out.1 h).1))
    clear hn RI
    go_enter Try.func37, Try.ntmps37
    go_wp2_with (first
      | (go_at_call 56; (with_reducible refine (HOF.out _).mono ?_); rintro e w1 ⟨rfl, hb1⟩; have hR := blkCell (blkNew hb1); have hl1 : w.heap.size < w1.heap.size := (by have := hb1.size; simp at this; omega); have HB1 := Lib.hid hb1; clear hb1)
      | (go_at_call 58; (with_reducible refine (HNO.out _ _ ?_).mono ?_); (with_reducible exact new2 _ _ _); rintro e w2 ⟨rfl, hb2⟩; have hR2 := blkCell (blkOld (blkNew HB1.out) (joinB (pastAlloc (allocB _ _)) hb2)); have hl2 : w1.heap.size + 1 < w2.heap.size := (by have := hb2.size; simp at this; omega); have HB2 := Lib.hid hb2; clear hb2)
      | (with_reducible refine wpList_store_new rfl 49 (.tmp 5) (.tmp 33) rfl #[.int .i64 lsn, .int .i64 prev, .int .i64 txn, .int .i64 4, .int .i64 0, .int .i64 0, .int .i64 0, .int .i64 0, .int .i64 0, .string ⟨#[]⟩, .string ⟨#[]⟩, .int .i64 0, .int .i64 0, .string ⟨#[]⟩, .int .i64 0, .int .i64 0, .slice none 0 0, .slice none 0 0] _ _ rfl (by kernel_rfl) (by kernel_rfl) (by kernel_rfl) (by kernel_rfl) ?_))
    go_ret
    exact ⟨by rw [HF.out]; rfl, joinB (joinB (allocB _ _) HB1.out) (joinB (pastAlloc (allocB _ _)) HB2.out)⟩
  | true =>
    rw [hn] at HNO
    have HN := Lib.hid (of_decide_eq_true hn)
    clear hn
    go_enter Try.func37, Try.ntmps37
    go_upto_region 5 with (first
      | (go_at_call 56; (with_reducible refine (HOF.out _).mono ?_); rintro e w1 ⟨rfl, hb1⟩; have hR := blkCell (blkNew hb1); have hl1 : w.heap.size < w1.heap.size := (by have := hb1.size; simp at this; omega); have HB1 := Lib.hid hb1; clear hb1)
      | (go_at_call 58; (with_reducible refine (HNO.out _ _ ?_).mono ?_); (with_reducible exact new2 _ _ _); rintro e w2 ⟨rfl, hb2⟩; have hR2 := blkCell (blkOld (blkNew HB1.out) (joinB (pastAlloc (allocB _ _)) hb2)); have hl2 : w1.heap.size + 1 < w2.heap.size := (by have := hb2.size; simp at this; omega); have HB2 := Lib.hid hb2; clear hb2)
      | (with_reducible refine wpList_store_new rfl 49 (.tmp 5) (.tmp 33) rfl #[.int .i64 lsn, .int .i64 prev, .int .i64 txn, .int .i64 4, .int .i64 0, .int .i64 0, .int .i64 0, .int .i64 0, .int .i64 0, .string ⟨#[]⟩, .string ⟨#[]⟩, .int .i64 0, .int .i64 0, .string ⟨#[]⟩, .int .i64 0, .int .i64 0, .slice none 0 0, .slice none 0 0] _ _ rfl (by kernel_rfl) (by kernel_rfl) (by kernel_rfl) (by kernel_rfl) ?_))
    have HX := Lib.hid (boxes_new (R := #[.int .i64 lsn, .int .i64 prev, .int .i64 txn, .int .i64 4, .int .i64 page, .int .i64 next, .int .i64 nu, .int .i64 ok, .int .i64 os, .string oo, .string on, .int .i64 how, .int .i64 root, .string ek, .int .i64 ep, .int .i64 es, .slice A ts.length c, .slice B ds.length d]) (F := #[.bool false, .bool false, .bool true, .bool false, .bool true]) (X := #[.int .i64 lsn, .int .i64 prev, .int .i64 txn, .int .i64 4, .int .i64 0, .int .i64 0, .int .i64 0, .int .i64 0, .int .i64 0, .string ⟨#[]⟩, .string ⟨#[]⟩, .int .i64 0, .int .i64 0, .string ⟨#[]⟩, .int .i64 0, .int .i64 0, .slice none 0 0, .slice none 0 0]) HB1.out HB2.out)
    clear hR hR2 HNO HOF HB1 HB2
    obtain ⟨V, hV⟩ : ∃ V, V = w2.alloc (.cells #[.int .i64 lsn, .int .i64 prev, .int .i64 txn, .int .i64 4, .int .i64 0, .int .i64 0, .int .i64 0, .int .i64 0, .int .i64 0, .string ⟨#[]⟩, .string ⟨#[]⟩, .int .i64 0, .int .i64 0, .string ⟨#[]⟩, .int .i64 0, .int .i64 0, .slice none 0 0, .slice none 0 0] 49) := ⟨_, rfl⟩
    rw [← hV] at HX ⊢
    clear hV
    have hR := blkCell HX.out.br
    have hF := blkCell HX.out.bf
    go_upto_region 12 with (fail)
    go_cut [4] (fun s we => s = .bool (decide (Rc.num next)) ∧ Boxes w w.heap.size w1.heap.size w2.heap.size #[.int .i64 lsn, .int .i64 prev, .int .i64 txn, .int .i64 4, .int .i64 page, .int .i64 next, .int .i64 nu, .int .i64 ok, .int .i64 os, .string oo, .string on, .int .i64 how, .int .i64 root, .string ek, .int .i64 ep, .int .i64 es, .slice A ts.length c, .slice B ds.length d] #[.bool false, .bool false, .bool true, .bool false, .bool true] #[.int .i64 lsn, .int .i64 prev, .int .i64 txn, .int .i64 4, .int .i64 0, .int .i64 0, .int .i64 0, .int .i64 0, .int .i64 0, .string ⟨#[]⟩, .string ⟨#[]⟩, .int .i64 0, .int .i64 0, .string ⟨#[]⟩, .int .i64 0, .int .i64 0, .slice none 0 0, .slice none 0 0] we)
    case first =>
      generalize hqt : decide (Rc.num next) = qt
      have HT := Lib.hid hqt
      clear hqt
      go_wp2_with (first | (go_at_call 58; (with_reducible refine (number1 next _ _ ?_).mono ?_); (with_reducible exact heap_alloc_new _ _); rintro e w5 ⟨rfl, hb5⟩; rw [HT.out]))
      go_meet
      case rel => exact ⟨by simp [HT.out], HX.out.step (joinB (allocB _ _) hb5)⟩
    case rest =>
    obtain ⟨W1, rfl⟩ : ∃ wm : World, wm = wc := ⟨_, rfl⟩
    obtain ⟨rfl, hB1⟩ := hcut
    have H1 := Lib.hid hB1
    clear hR hF hB1 HX
    have hR := blkCell H1.out.br
    have hF := blkCell H1.out.bf
    have hXc := blkCell H1.out.bx
    have hXz := blkFrozen H1.out.bx
    have hne : w.heap.size ≠ w2.heap.size := by have := H1.out.ab; omega
    go_upto_region 14 with (fail)
    have h := H1.out.set 5 (.int .i64 next)
    have H2 : Hid (Boxes w w.heap.size w1.heap.size w2.heap.size #[.int .i64 lsn, .int .i64 prev, .int .i64 txn, .int .i64 4, .int .i64 page, .int .i64 next, .int .i64 nu, .int .i64 ok, .int .i64 os, .string oo, .string on, .int .i64 how, .int .i64 root, .string ek, .int .i64 ep, .int .i64 es, .slice A ts.length c, .slice B ds.length d] #[.bool false, .bool false, .bool true, .bool false, .bool true] #[.int .i64 lsn, .int .i64 prev, .int .i64 txn, .int .i64 4, .int .i64 0, .int .i64 next, .int .i64 0, .int .i64 0, .int .i64 0, .string ⟨#[]⟩, .string ⟨#[]⟩, .int .i64 0, .int .i64 0, .string ⟨#[]⟩, .int .i64 0, .int .i64 0, .slice none 0 0, .slice none 0 0] _) := Lib.hid (by simpa using h)
    clear h hR hF hXc hXz H1
    generalize World.setCell _ _ _ = W2 at H2 ⊢
    have hR := blkCell H2.out.br
    have hF := blkCell H2.out.bf
    go_upto_region 19 with (fail)
    generalize hqa : (decide (Rc.num next)) = qa
    have HA := Lib.hid hqa
    clear hqa
    cases qa with
    | false =>
      go_wp2_with fail
      go_ret
      refine ⟨?_, H2.out.below⟩
      have HF := HQ.out.trans (Rc.rightB_no fun h => by
        have h2 := (RI.out.1 h).2.1
        have h3 := HA.out
        simp only [decide_eq_false_iff_not] at h3
        grind)
      rw [HF]
      rfl
    | true =>
      have HS := Lib.hid (same_any ⟨lsn, prev, txn, 4, 0, next, 0, ⟨0, 0, ⟨#[]⟩, ⟨#[]⟩⟩, 0, 0, ⟨⟨#[]⟩, 0, 0⟩, [], []⟩ ⟨lsn, prev, txn, 4, page, next, nu, ⟨ok, os, oo, on⟩, how, root, ⟨ek, ep, es⟩, ts, ds⟩ none A none B 0 c 0 d W2 ⟨(Reads.none_ _ _ _ _), (Reads.none_ _ _ _ _), ⟨by simp, by simp⟩⟩ (HRR.out.below H2.out.below))
      dsimp only [recV, recA, List.length_nil] at HS
      cases he : decide ((⟨lsn, prev, txn, 4, 0, next, 0, ⟨0, 0, ⟨#[]⟩, ⟨#[]⟩⟩, 0, 0, ⟨⟨#[]⟩, 0, 0⟩, [], []⟩ : Rc.Rec) = ⟨lsn, prev, txn, 4, page, next, nu, ⟨ok, os, oo, on⟩, how, root, ⟨ek, ep, es⟩, ts, ds⟩) with
      | false =>
        have HE := Lib.hid he
        clear he
        go_wp2_with (first | (with_reducible refine listLoad (by kernel_rfl) 49 (.tmp 5) rfl w2.heap.size rfl #[.int .i64 lsn, .int .i64 prev, .int .i64 txn, .int .i64 4, .int .i64 0, .int .i64 next, .int .i64 0, .int .i64 0, .int .i64 0, .string ⟨#[]⟩, .string ⟨#[]⟩, .int .i64 0, .int .i64 0, .string ⟨#[]⟩, .int .i64 0, .int .i64 0, .slice none 0 0, .slice none 0 0] _ H2.out.bx _ Try.underlying49 (by kernel_rfl) (by kernel_rfl) ?_) | (with_reducible refine listLoad (by kernel_rfl) 49 (.tmp 1) rfl w.heap.size rfl #[.int .i64 lsn, .int .i64 prev, .int .i64 txn, .int .i64 4, .int .i64 page, .int .i64 next, .int .i64 nu, .int .i64 ok, .int .i64 os, .string oo, .string on, .int .i64 how, .int .i64 root, .string ek, .int .i64 ep, .int .i64 es, .slice A ts.length c, .slice B ds.length d] _ H2.out.br _ Try.underlying49 (by kernel_rfl) (by kernel_rfl) ?_) | (go_at_call 66; (with_reducible refine HS.out.mono ?_); rintro e w9 ⟨rfl, hb9⟩; rw [HE.out]))
        go_ret
        refine ⟨?_, joinB H2.out.below hb9⟩
        rw [HQ.out.trans (Rc.rightB_no fun h => of_decide_eq_false HE.out (RI.out.1 h).2.2)]
        rfl
      | true =>
        have HE := Lib.hid he
        clear he
        go_wp2_with (first | (with_reducible refine listLoad (by kernel_rfl) 49 (.tmp 5) rfl w2.heap.size rfl #[.int .i64 lsn, .int .i64 prev, .int .i64 txn, .int .i64 4, .int .i64 0, .int .i64 next, .int .i64 0, .int .i64 0, .int .i64 0, .string ⟨#[]⟩, .string ⟨#[]⟩, .int .i64 0, .int .i64 0, .string ⟨#[]⟩, .int .i64 0, .int .i64 0, .slice none 0 0, .slice none 0 0] _ H2.out.bx _ Try.underlying49 (by kernel_rfl) (by kernel_rfl) ?_) | (with_reducible refine listLoad (by kernel_rfl) 49 (.tmp 1) rfl w.heap.size rfl #[.int .i64 lsn, .int .i64 prev, .int .i64 txn, .int .i64 4, .int .i64 page, .int .i64 next, .int .i64 nu, .int .i64 ok, .int .i64 os, .string oo, .string on, .int .i64 how, .int .i64 root, .string ek, .int .i64 ep, .int .i64 es, .slice A ts.length c, .slice B ds.length d] _ H2.out.br _ Try.underlying49 (by kernel_rfl) (by kernel_rfl) ?_) | (go_at_call 66; (with_reducible refine HS.out.mono ?_); rintro e w9 ⟨rfl, hb9⟩; rw [HE.out]))
        go_ret
        refine ⟨?_, joinB H2.out.below hb9⟩
        rw [HQ.out.trans (Rc.rightB_yes (RI.out.2 ⟨HN.out, by have h3 := HA.out; simpa only [Bool.and_eq_true, decide_eq_true_eq] using h3, of_decide_eq_true HE.out⟩))]
        rfl
end Go.Proofs.Ytojaagnfjenhoaa
/- The walk over package rec: Right, of one kind. -/
namespace Go.Proofs.Ytojaagnfjenhoaa
open Go.RowKit
set_option maxRecDepth 100000 in
set_option maxHeartbeats 2000000 in
theorem right_image (lsn prev txn page next nu ok os how root ep es : Int) (oo on ek : ByteArray) (ts : List Rc.TxnAt) (ds : List Rc.DirtyAt) (A B : Option Addr) (c d : Nat) (w : World) (hr : RecR w ⟨lsn, prev, txn, 8, page, next, nu, ⟨ok, os, oo, on⟩, how, root, ⟨ek, ep, es⟩, ts, ds⟩ A c B d) :
    Calls Try.prog 37 #[.agg #[.int .i64 lsn, .int .i64 prev, .int .i64 txn, .int .i64 8, .int .i64 page, .int .i64 next, .int .i64 nu, .int .i64 ok, .int .i64 os, .string oo, .string on, .int .i64 how, .int .i64 root, .string ek, .int .i64 ep, .int .i64 es, .slice A ts.length c, .slice B ds.length d]] w fun e w' => e = .returned (.bool (Rc.rightB ⟨lsn, prev, txn, 8, page, next, nu, ⟨ok, os, oo, on⟩, how, root, ⟨ek, ep, es⟩, ts, ds⟩)) ∧ Below w.heap.size w w' := by
  have HOF := Lib.hid (fun W => of_any 8 W)
  rw [show ofV 8 = .tuple #[formV true false false false true, .bool true] from rfl] at HOF
  have HNO := Lib.hid (fun W g h => number3 lsn prev txn W g h)
  obtain ⟨Q, hQ⟩ : ∃ Q, Q = Rc.rightB ⟨lsn, prev, txn, 8, page, next, nu, ⟨ok, os, oo, on⟩, how, root, ⟨ek, ep, es⟩, ts, ds⟩ := ⟨_, rfl⟩
  rw [← hQ]
  have HQ := Lib.hid hQ
  have hsm := hr.small
  simp only at hsm
  have hsm1 := hsm.1
  have hsm2 := hsm.2
  have HRR := Lib.hid hr
  clear hQ hr hsm
  have RI := Lib.hid (Rc.right_8 lsn prev txn page next nu how root ⟨ok, os, oo, on⟩ ⟨ek, ep, es⟩ ts ds)
  cases hn : decide (Rc.num lsn ∧ Rc.num prev ∧ Rc.num txn) with
  | false =>
    rw [hn] at HNO
    have HF := Lib.hid (HQ.out.trans (Rc.rightB_no fun h => of_decide_eq_false hn (RI.out.1 h).1))
    clear hn RI
    go_enter Try.func37, Try.ntmps37
    go_wp2_with (first
      | (go_at_call 56; (with_reducible refine (HOF.out _).mono ?_); rintro e w1 ⟨rfl, hb1⟩; have hR := blkCell (blkNew hb1); have hl1 : w.heap.size < w1.heap.size := (by have := hb1.size; simp at this; omega); have HB1 := Lib.hid hb1; clear hb1)
      | (go_at_call 58; (with_reducible refine (HNO.out _ _ ?_).mono ?_); (with_reducible exact new2 _ _ _); rintro e w2 ⟨rfl, hb2⟩; have hR2 := blkCell (blkOld (blkNew HB1.out) (joinB (pastAlloc (allocB _ _)) hb2)); have hl2 : w1.heap.size + 1 < w2.heap.size := (by have := hb2.size; simp at this; omega); have HB2 := Lib.hid hb2; clear hb2)
      | (with_reducible refine wpList_store_new rfl 49 (.tmp 5) (.tmp 33) rfl #[.int .i64 lsn, .int .i64 prev, .int .i64 txn, .int .i64 8, .int .i64 0, .int .i64 0, .int .i64 0, .int .i64 0, .int .i64 0, .string ⟨#[]⟩, .string ⟨#[]⟩, .int .i64 0, .int .i64 0, .string ⟨#[]⟩, .int .i64 0, .int .i64 0, .slice none 0 0, .slice none 0 0] _ _ rfl (by kernel_rfl) (by kernel_rfl) (by kernel_rfl) (by kernel_rfl) ?_))
    go_ret
    exact ⟨by rw [HF.out]; rfl, joinB (joinB (allocB _ _) HB1.out) (joinB (pastAlloc (allocB _ _)) HB2.out)⟩
  | true =>
    rw [hn] at HNO
    have HN := Lib.hid (of_decide_eq_true hn)
    clear hn
    go_enter Try.func37, Try.ntmps37
    go_upto_region 5 with (first
      | (go_at_call 56; (with_reducible refine (HOF.out _).mono ?_); rintro e w1 ⟨rfl, hb1⟩; have hR := blkCell (blkNew hb1); have hl1 : w.heap.size < w1.heap.size := (by have := hb1.size; simp at this; omega); have HB1 := Lib.hid hb1; clear hb1)
      | (go_at_call 58; (with_reducible refine (HNO.out _ _ ?_).mono ?_); (with_reducible exact new2 _ _ _); rintro e w2 ⟨rfl, hb2⟩; have hR2 := blkCell (blkOld (blkNew HB1.out) (joinB (pastAlloc (allocB _ _)) hb2)); have hl2 : w1.heap.size + 1 < w2.heap.size := (by have := hb2.size; simp at this; omega); have HB2 := Lib.hid hb2; clear hb2)
      | (with_reducible refine wpList_store_new rfl 49 (.tmp 5) (.tmp 33) rfl #[.int .i64 lsn, .int .i64 prev, .int .i64 txn, .int .i64 8, .int .i64 0, .int .i64 0, .int .i64 0, .int .i64 0, .int .i64 0, .string ⟨#[]⟩, .string ⟨#[]⟩, .int .i64 0, .int .i64 0, .string ⟨#[]⟩, .int .i64 0, .int .i64 0, .slice none 0 0, .slice none 0 0] _ _ rfl (by kernel_rfl) (by kernel_rfl) (by kernel_rfl) (by kernel_rfl) ?_))
    have HX := Lib.hid (boxes_new (R := #[.int .i64 lsn, .int .i64 prev, .int .i64 txn, .int .i64 8, .int .i64 page, .int .i64 next, .int .i64 nu, .int .i64 ok, .int .i64 os, .string oo, .string on, .int .i64 how, .int .i64 root, .string ek, .int .i64 ep, .int .i64 es, .slice A ts.length c, .slice B ds.length d]) (F := #[.bool true, .bool false, .bool false, .bool false, .bool true]) (X := #[.int .i64 lsn, .int .i64 prev, .int .i64 txn, .int .i64 8, .int .i64 0, .int .i64 0, .int .i64 0, .int .i64 0, .int .i64 0, .string ⟨#[]⟩, .string ⟨#[]⟩, .int .i64 0, .int .i64 0, .string ⟨#[]⟩, .int .i64 0, .int .i64 0, .slice none 0 0, .slice none 0 0]) HB1.out HB2.out)
    clear hR hR2 HNO HOF HB1 HB2
    obtain ⟨V, hV⟩ : ∃ V, V = w2.alloc (.cells #[.int .i64 lsn, .int .i64 prev, .int .i64 txn, .int .i64 8, .int .i64 0, .int .i64 0, .int .i64 0, .int .i64 0, .int .i64 0, .string ⟨#[]⟩, .string ⟨#[]⟩, .int .i64 0, .int .i64 0, .string ⟨#[]⟩, .int .i64 0, .int .i64 0, .slice none 0 0, .slice none 0 0] 49) := ⟨_, rfl⟩
    rw [← hV] at HX ⊢
    clear hV
    have hR := blkCell HX.out.br
    have hF := blkCell HX.out.bf
    go_upto_region 6 with (fail)
    go_cut [4] (fun s we => s = .bool (decide (Rc.pg page) && decide (Rc.opR ⟨ok, os, oo, on⟩)) ∧ Boxes w w.heap.size w1.heap.size w2.heap.size #[.int .i64 lsn, .int .i64 prev, .int .i64 txn, .int .i64 8, .int .i64 page, .int .i64 next, .int .i64 nu, .int .i64 ok, .int .i64 os, .string oo, .string on, .int .i64 how, .int .i64 root, .string ek, .int .i64 ep, .int .i64 es, .slice A ts.length c, .slice B ds.length d] #[.bool true, .bool false, .bool false, .bool false, .bool true] #[.int .i64 lsn, .int .i64 prev, .int .i64 txn, .int .i64 8, .int .i64 0, .int .i64 0, .int .i64 0, .int .i64 0, .int .i64 0, .string ⟨#[]⟩, .string ⟨#[]⟩, .int .i64 0, .int .i64 0, .string ⟨#[]⟩, .int .i64 0, .int .i64 0, .slice none 0 0, .slice none 0 0] we)
    case first =>
      cases hp : decide (Rc.pg page) with
      | false =>
        have HP := Lib.hid hp
        clear hp
        go_wp2_with (first | (go_at_call 59; (with_reducible refine (paged1 page _ _ ?_).mono ?_); (with_reducible exact heap_alloc_new _ _); rintro e w3 ⟨rfl, hb3⟩; rw [HP.out]))
        go_meet
        case rel => exact ⟨by simp [HP.out], HX.out.step (joinB (allocB _ _) hb3)⟩
      | true =>
        have HP := Lib.hid hp
        clear hp
        generalize hqo : decide (Rc.opR ⟨ok, os, oo, on⟩) = qo
        have HO := Lib.hid hqo
        clear hqo
        go_wp2_with (first | (go_at_call 59; (with_reducible refine (paged1 page _ _ ?_).mono ?_); (with_reducible exact heap_alloc_new _ _); rintro e w3 ⟨rfl, hb3⟩; rw [HP.out]; have hR3 := blkCell (HX.out.step (joinB (allocB _ _) hb3)).br) | (go_at_call 60; (with_reducible refine (op_any ⟨ok, os, oo, on⟩ _).mono ?_); rintro e w4 ⟨rfl, hb4⟩; rw [HO.out]))
        go_meet
        case rel => exact ⟨by simp [HP.out, HO.out], (HX.out.step (joinB (allocB _ _) hb3)).step hb4⟩
    case rest =>
    obtain ⟨W1, rfl⟩ : ∃ wm : World, wm = wc := ⟨_, rfl⟩
    obtain ⟨rfl, hB1⟩ := hcut
    have H1 := Lib.hid hB1
    clear hR hF hB1 HX
    have hR := blkCell H1.out.br
    have hF := blkCell H1.out.bf
    have hXc := blkCell H1.out.bx
    have hXz := blkFrozen H1.out.bx
    have hne : w.heap.size ≠ w2.heap.size := by have := H1.out.ab; omega
    go_upto_region 7 with (fail)
    go_cut [] (fun we => Boxes w w.heap.size w1.heap.size w2.heap.size #[.int .i64 lsn, .int .i64 prev, .int .i64 txn, .int .i64 8, .int .i64 page, .int .i64 next, .int .i64 nu, .int .i64 ok, .int .i64 os, .string oo, .string on, .int .i64 how, .int .i64 root, .string ek, .int .i64 ep, .int .i64 es, .slice A ts.length c, .slice B ds.length d] #[.bool true, .bool false, .bool false, .bool false, .bool true] #[.int .i64 lsn, .int .i64 prev, .int .i64 txn, .int .i64 8, .int .i64 page, .int .i64 0, .int .i64 0, .int .i64 ok, .int .i64 os, .string oo, .string on, .int .i64 0, .int .i64 0, .string ⟨#[]⟩, .int .i64 0, .int .i64 0, .slice none 0 0, .slice none 0 0] we)
    case first =>
      go_region
      all_goals
        go_wp2_with fail
        go_meet
        case rel =>
          first
            | (have h := (((((H1.out.set 4 (.int .i64 page)).set 7 (.int .i64 ok)).set 8 (.int .i64 os)).set 9 (.string oo)).set 10 (.string on)).drew; simpa using h)
            | (have h := (((((H1.out.set 7 (.int .i64 ok)).set 8 (.int .i64 os)).set 9 (.string oo)).set 10 (.string on)).set 4 (.int .i64 page)).drew; simpa using h)
    case rest =>
    obtain ⟨W2, rfl⟩ : ∃ wm : World, wm = wc := ⟨_, rfl⟩
    have H2 := Lib.hid hcut
    clear hR hF hXc hXz hcut H1
    have hR := blkCell H2.out.br
    have hF := blkCell H2.out.bf
    go_upto_region 19 with (fail)
    generalize hqa : (decide (Rc.pg page) && decide (Rc.opR ⟨ok, os, oo, on⟩)) = qa
    have HA := Lib.hid hqa
    clear hqa
    cases qa with
    | false =>
      go_wp2_with fail
      go_ret
      refine ⟨?_, H2.out.below⟩
      have HF := HQ.out.trans (Rc.rightB_no fun h => by
        have h2 := (RI.out.1 h).2.1
        have h3 := HA.out
        simp only [Bool.and_eq_false_iff, decide_eq_false_iff_not] at h3
        grind)
      rw [HF]
      rfl
    | true =>
      have HS := Lib.hid (same_any ⟨lsn, prev, txn, 8, page, 0, 0, ⟨ok, os, oo, on⟩, 0, 0, ⟨⟨#[]⟩, 0, 0⟩, [], []⟩ ⟨lsn, prev, txn, 8, page, next, nu, ⟨ok, os, oo, on⟩, how, root, ⟨ek, ep, es⟩, ts, ds⟩ none A none B 0 c 0 d W2 ⟨(Reads.none_ _ _ _ _), (Reads.none_ _ _ _ _), ⟨by simp, by simp⟩⟩ (HRR.out.below H2.out.below))
      dsimp only [recV, recA, List.length_nil] at HS
      cases he : decide ((⟨lsn, prev, txn, 8, page, 0, 0, ⟨ok, os, oo, on⟩, 0, 0, ⟨⟨#[]⟩, 0, 0⟩, [], []⟩ : Rc.Rec) = ⟨lsn, prev, txn, 8, page, next, nu, ⟨ok, os, oo, on⟩, how, root, ⟨ek, ep, es⟩, ts, ds⟩) with
      | false =>
        have HE := Lib.hid he
        clear he
        go_wp2_with (first | (with_reducible refine listLoad (by kernel_rfl) 49 (.tmp 5) rfl w2.heap.size rfl #[.int .i64 lsn, .int .i64 prev, .int .i64 txn, .int .i64 8, .int .i64 page, .int .i64 0, .int .i64 0, .int .i64 ok, .int .i64 os, .string oo, .string on, .int .i64 0, .int .i64 0, .string ⟨#[]⟩, .int .i64 0, .int .i64 0, .slice none 0 0, .slice none 0 0] _ H2.out.bx _ Try.underlying49 (by kernel_rfl) (by kernel_rfl) ?_) | (with_reducible refine listLoad (by kernel_rfl) 49 (.tmp 1) rfl w.heap.size rfl #[.int .i64 lsn, .int .i64 prev, .int .i64 txn, .int .i64 8, .int .i64 page, .int .i64 next, .int .i64 nu, .int .i64 ok, .int .i64 os, .string oo, .string on, .int .i64 how, .int .i64 root, .string ek, .int .i64 ep, .int .i64 es, .slice A ts.length c, .slice B ds.length d] _ H2.out.br _ Try.underlying49 (by kernel_rfl) (by kernel_rfl) ?_) | (go_at_call 66; (with_reducible refine HS.out.mono ?_); rintro e w9 ⟨rfl, hb9⟩; rw [HE.out]))
        go_ret
        refine ⟨?_, joinB H2.out.below hb9⟩
        rw [HQ.out.trans (Rc.rightB_no fun h => of_decide_eq_false HE.out (RI.out.1 h).2.2)]
        rfl
      | true =>
        have HE := Lib.hid he
        clear he
        go_wp2_with (first | (with_reducible refine listLoad (by kernel_rfl) 49 (.tmp 5) rfl w2.heap.size rfl #[.int .i64 lsn, .int .i64 prev, .int .i64 txn, .int .i64 8, .int .i64 page, .int .i64 0, .int .i64 0, .int .i64 ok, .int .i64 os, .string oo, .string on, .int .i64 0, .int .i64 0, .string ⟨#[]⟩, .int .i64 0, .int .i64 0, .slice none 0 0, .slice none 0 0] _ H2.out.bx _ Try.underlying49 (by kernel_rfl) (by kernel_rfl) ?_) | (with_reducible refine listLoad (by kernel_rfl) 49 (.tmp 1) rfl w.heap.size rfl #[.int .i64 lsn, .int .i64 prev, .int .i64 txn, .int .i64 8, .int .i64 page, .int .i64 next, .int .i64 nu, .int .i64 ok, .int .i64 os, .string oo, .string on, .int .i64 how, .int .i64 root, .string ek, .int .i64 ep, .int .i64 es, .slice A ts.length c, .slice B ds.length d] _ H2.out.br _ Try.underlying49 (by kernel_rfl) (by kernel_rfl) ?_) | (go_at_call 66; (with_reducible refine HS.out.mono ?_); rintro e w9 ⟨rfl, hb9⟩; rw [HE.out]))
        go_ret
        refine ⟨?_, joinB H2.out.below hb9⟩
        rw [HQ.out.trans (Rc.rightB_yes (RI.out.2 ⟨HN.out, by have h3 := HA.out; simpa only [Bool.and_eq_true, decide_eq_true_eq] using h3, of_decide_eq_true HE.out⟩))]
        rfl
end Go.Proofs.Ytojaagnfjenhoaa
