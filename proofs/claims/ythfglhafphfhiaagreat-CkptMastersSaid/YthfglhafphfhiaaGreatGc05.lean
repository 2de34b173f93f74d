/- The walk over package rec: Right, of one kind. -/
import Derived.Test.YthfglhafphfhiaaGreatGc04
import Derived.Test.YthfglhafphfhiaaGreatGc02
import Derived.Test.YthfglhafphfhiaaGreatGc01
import Derived.Test.YthfglhafphfhiaaGreatGc03
namespace Go.Proofs.YthfglhafphfhiaaGreat
open Go.RowKit
set_option maxRecDepth 100000 in
set_option maxHeartbeats 2000000 in
theorem right_check (lsn prev txn page next nu ok os how root ep es : Int) (oo on ek : ByteArray) (ts : List Rc.TxnAt) (ds : List Rc.DirtyAt) (A B : Option Addr) (c d : Nat) (w : World) (hr : RecR w ⟨lsn, prev, txn, 9, page, next, nu, ⟨ok, os, oo, on⟩, how, root, ⟨ek, ep, es⟩, ts, ds⟩ A c B d) :
    Calls Tryz.prog 103 #[.agg #[.int .i64 lsn, .int .i64 prev, .int .i64 txn, .int .i64 9, .int .i64 page, .int .i64 next, .int .i64 nu, .int .i64 ok, .int .i64 os, .string oo, .string on, .int .i64 how, .int .i64 root, .string ek, .int .i64 ep, .int .i64 es, .slice A ts.length c, .slice B ds.length d]] w fun e w' => e = .returned (.bool (Rc.rightB ⟨lsn, prev, txn, 9, page, next, nu, ⟨ok, os, oo, on⟩, how, root, ⟨ek, ep, es⟩, ts, ds⟩)) ∧ Below w.heap.size w w' := by
  have HOF := Lib.hid (fun W => of_any 9 W)
  rw [show ofV 9 = .tuple #[formV false false false true true, .bool true] from rfl] at HOF
  have HNO := Lib.hid (fun W g h => number3 lsn prev txn W g h)
  obtain ⟨Q, hQ⟩ : ∃ Q, Q = Rc.rightB ⟨lsn, prev, txn, 9, page, next, nu, ⟨ok, os, oo, on⟩, how, root, ⟨ek, ep, es⟩, ts, ds⟩ := ⟨_, rfl⟩
  rw [← hQ]
  have HQ := Lib.hid hQ
  have hsm := hr.small
  simp only at hsm
  have hsm1 := hsm.1
  have hsm2 := hsm.2
  have HRR := Lib.hid hr
  clear hQ hr hsm
  have RI := Lib.hid (Rc.right_9 lsn prev txn page next nu how root ⟨ok, os, oo, on⟩ ⟨ek, ep, es⟩ ts ds)
  cases hn : decide (Rc.num lsn ∧ Rc.num prev ∧ Rc.num txn) with
  | false =>
    rw [hn] at HNO
    have HF := Lib.hid (HQ.out.trans (Rc.rightB_no fun h => of_decide_eq_false hn (RI.out.1 h).1))
    clear hn RI
    go_enter Tryz.func103, Tryz.ntmps103
    go_wp2_with (first
      | (go_at_call 112; (with_reducible refine (HOF.out _).mono ?_); rintro e w1 ⟨rfl, hb1⟩; have hR := blkCell (blkNew hb1); have hl1 : w.heap.size < w1.heap.size := (by have := hb1.size; simp at this; omega); have HB1 := Lib.hid hb1; clear hb1)
      | (go_at_call 113; (with_reducible refine (HNO.out _ _ ?_).mono ?_); (with_reducible exact new2 _ _ _); rintro e w2 ⟨rfl, hb2⟩; have hR2 := blkCell (blkOld (blkNew HB1.out) (joinB (pastAlloc (allocB _ _)) hb2)); have hl2 : w1.heap.size + 1 < w2.heap.size := (by have := hb2.size; simp at this; omega); have HB2 := Lib.hid hb2; clear hb2)
      | (with_reducible refine wpList_store_new rfl 85 (.tmp 5) (.tmp 33) rfl #[.int .i64 lsn, .int .i64 prev, .int .i64 txn, .int .i64 9, .int .i64 0, .int .i64 0, .int .i64 0, .int .i64 0, .int .i64 0, .string ⟨#[]⟩, .string ⟨#[]⟩, .int .i64 0, .int .i64 0, .string ⟨#[]⟩, .int .i64 0, .int .i64 0, .slice none 0 0, .slice none 0 0] _ _ rfl (by kernel_rfl) (by kernel_rfl) (by kernel_rfl) (by kernel_rfl) ?_))
    go_ret
    exact ⟨by rw [HF.out]; rfl, joinB (joinB (allocB _ _) HB1.out) (joinB (pastAlloc (allocB _ _)) HB2.out)⟩
  | true =>
    rw [hn] at HNO
    have HN := Lib.hid (of_decide_eq_true hn)
    clear hn
    go_enter Tryz.func103, Tryz.ntmps103
    go_upto_region 5 with (first
      | (go_at_call 112; (with_reducible refine (HOF.out _).mono ?_); rintro e w1 ⟨rfl, hb1⟩; have hR := blkCell (blkNew hb1); have hl1 : w.heap.size < w1.heap.size := (by have := hb1.size; simp at this; omega); have HB1 := Lib.hid hb1; clear hb1)
      | (go_at_call 113; (with_reducible refine (HNO.out _ _ ?_).mono ?_); (with_reducible exact new2 _ _ _); rintro e w2 ⟨rfl, hb2⟩; have hR2 := blkCell (blkOld (blkNew HB1.out) (joinB (pastAlloc (allocB _ _)) hb2)); have hl2 : w1.heap.size + 1 < w2.heap.size := (by have := hb2.size; simp at this; omega); have HB2 := Lib.hid hb2; clear hb2)
      | (with_reducible refine wpList_store_new rfl 85 (.tmp 5) (.tmp 33) rfl #[.int .i64 lsn, .int .i64 prev, .int .i64 txn, .int .i64 9, .int .i64 0, .int .i64 0, .int .i64 0, .int .i64 0, .int .i64 0, .string ⟨#[]⟩, .string ⟨#[]⟩, .int .i64 0, .int .i64 0, .string ⟨#[]⟩, .int .i64 0, .int .i64 0, .slice none 0 0, .slice none 0 0] _ _ rfl (by kernel_rfl) (by kernel_rfl) (by kernel_rfl) (by kernel_rfl) ?_))
    have HX := Lib.hid (boxes_new (R := #[.int .i64 lsn, .int .i64 prev, .int .i64 txn, .int .i64 9, .int .i64 page, .int .i64 next, .int .i64 nu, .int .i64 ok, .int .i64 os, .string oo, .string on, .int .i64 how, .int .i64 root, .string ek, .int .i64 ep, .int .i64 es, .slice A ts.length c, .slice B ds.length d]) (F := #[.bool false, .bool false, .bool false, .bool true, .bool true]) (X := #[.int .i64 lsn, .int .i64 prev, .int .i64 txn, .int .i64 9, .int .i64 0, .int .i64 0, .int .i64 0, .int .i64 0, .int .i64 0, .string ⟨#[]⟩, .string ⟨#[]⟩, .int .i64 0, .int .i64 0, .string ⟨#[]⟩, .int .i64 0, .int .i64 0, .slice none 0 0, .slice none 0 0]) HB1.out HB2.out)
    clear hR hR2 HNO HOF HB1 HB2
    obtain ⟨V, hV⟩ : ∃ V, V = w2.alloc (.cells #[.int .i64 lsn, .int .i64 prev, .int .i64 txn, .int .i64 9, .int .i64 0, .int .i64 0, .int .i64 0, .int .i64 0, .int .i64 0, .string ⟨#[]⟩, .string ⟨#[]⟩, .int .i64 0, .int .i64 0, .string ⟨#[]⟩, .int .i64 0, .int .i64 0, .slice none 0 0, .slice none 0 0] 85) := ⟨_, rfl⟩
    rw [← hV] at HX ⊢
    clear hV
    have hR := blkCell HX.out.br
    have hF := blkCell HX.out.bf
    go_upto_region 15 with (fail)
    go_cut [4] (fun s we => s = .bool (decide (Rc.num nu) && (decide (ts.length ≤ 1000) && decide (ds.length ≤ 2000))) ∧ Boxes w w.heap.size w1.heap.size w2.heap.size #[.int .i64 lsn, .int .i64 prev, .int .i64 txn, .int .i64 9, .int .i64 page, .int .i64 next, .int .i64 nu, .int .i64 ok, .int .i64 os, .string oo, .string on, .int .i64 how, .int .i64 root, .string ek, .int .i64 ep, .int .i64 es, .slice A ts.length c, .slice B ds.length d] #[.bool false, .bool false, .bool false, .bool true, .bool true] #[.int .i64 lsn, .int .i64 prev, .int .i64 txn, .int .i64 9, .int .i64 0, .int .i64 0, .int .i64 0, .int .i64 0, .int .i64 0, .string ⟨#[]⟩, .string ⟨#[]⟩, .int .i64 0, .int .i64 0, .string ⟨#[]⟩, .int .i64 0, .int .i64 0, .slice none 0 0, .slice none 0 0] we)
    case first =>
      cases hqt : decide (Rc.num nu) with
      | false =>
        have HT := Lib.hid hqt
        clear hqt
        go_wp2_with (first | (go_at_call 113; (with_reducible refine (number1 nu _ _ ?_).mono ?_); (with_reducible exact heap_alloc_new _ _); rintro e w5 ⟨rfl, hb5⟩; rw [HT.out]; have hR5 := blkCell (HX.out.step (joinB (allocB _ _) hb5)).br))
        go_meet
        case rel => exact ⟨by simp [HT.out], HX.out.step (joinB (allocB _ _) hb5)⟩
      | true =>
        have HT := Lib.hid hqt
        clear hqt
        by_cases h1 : ts.length ≤ 1000
        · have e1 : decide ((ts.length : Int) ≤ 1000) = true := decide_eq_true (by omega)
          have HE1 := Lib.hid (decide_eq_true h1)
          have h1' : (ts.length : Int) ≤ 1000 := by omega
          clear h1
          by_cases h2 : ds.length ≤ 2000
          · have e2 : decide ((ds.length : Int) ≤ 2000) = true := decide_eq_true (by omega)
            have HE2 := Lib.hid (decide_eq_true h2)
            have h2' : (ds.length : Int) ≤ 2000 := by omega
            clear h2
            go_wp2_with (first | (go_at_call 113; (with_reducible refine (number1 nu _ _ ?_).mono ?_); (with_reducible exact heap_alloc_new _ _); rintro e w5 ⟨rfl, hb5⟩; rw [HT.out]; have hR5 := blkCell (HX.out.step (joinB (allocB _ _) hb5)).br))
            go_meet
            case rel => exact ⟨by simp [HT.out, HE1.out, HE2.out], HX.out.step (joinB (allocB _ _) hb5)⟩
          · have e2 : decide ((ds.length : Int) ≤ 2000) = false := decide_eq_false (by omega)
            have HE2 := Lib.hid (decide_eq_false h2)
            have h2' : 2000 < (ds.length : Int) := by omega
            clear h2
            go_wp2_with (first | (go_at_call 113; (with_reducible refine (number1 nu _ _ ?_).mono ?_); (with_reducible exact heap_alloc_new _ _); rintro e w5 ⟨rfl, hb5⟩; rw [HT.out]; have hR5 := blkCell (HX.out.step (joinB (allocB _ _) hb5)).br))
            go_meet
            case rel => exact ⟨by simp [HT.out, HE1.out, HE2.out], HX.out.step (joinB (allocB _ _) hb5)⟩
        · have e1 : decide ((ts.length : Int) ≤ 1000) = false := decide_eq_false (by omega)
          have HE1 := Lib.hid (decide_eq_false h1)
          have h1' : 1000 < (ts.length : Int) := by omega
          clear h1
          go_wp2_with (first | (go_at_call 113; (with_reducible refine (number1 nu _ _ ?_).mono ?_); (with_reducible exact heap_alloc_new _ _); rintro e w5 ⟨rfl, hb5⟩; rw [HT.out]; have hR5 := blkCell (HX.out.step (joinB (allocB _ _) hb5)).br))
          go_meet
          case rel => exact ⟨by simp [HT.out, HE1.out], HX.out.step (joinB (allocB _ _) hb5)⟩
    case rest =>
    obtain ⟨W1, rfl⟩ : ∃ wm : World, wm = wc := ⟨_, rfl⟩
    obtain ⟨rfl, hB1⟩ := hcut
    have H1 := Lib.hid hB1
    clear hR hF hB1 HX
    have hR := blkCell H1.out.br
    have hF := blkCell H1.out.bf
    go_upto_region 16 with (fail)
    go_cut [4] (fun s we => s = .bool ((decide (Rc.num nu) && (decide (ts.length ≤ 1000) && decide (ds.length ≤ 2000))) && decide (∀ t ∈ ts, Rc.txnR t)) ∧ Boxes w w.heap.size w1.heap.size w2.heap.size #[.int .i64 lsn, .int .i64 prev, .int .i64 txn, .int .i64 9, .int .i64 page, .int .i64 next, .int .i64 nu, .int .i64 ok, .int .i64 os, .string oo, .string on, .int .i64 how, .int .i64 root, .string ek, .int .i64 ep, .int .i64 es, .slice A ts.length c, .slice B ds.length d] #[.bool false, .bool false, .bool false, .bool true, .bool true] #[.int .i64 lsn, .int .i64 prev, .int .i64 txn, .int .i64 9, .int .i64 0, .int .i64 0, .int .i64 0, .int .i64 0, .int .i64 0, .string ⟨#[]⟩, .string ⟨#[]⟩, .int .i64 0, .int .i64 0, .string ⟨#[]⟩, .int .i64 0, .int .i64 0, .slice none 0 0, .slice none 0 0] we)
    case first =>
      generalize hqa : (decide (Rc.num nu) && (decide (ts.length ≤ 1000) && decide (ds.length ≤ 2000))) = qa
      have HA := Lib.hid hqa
      clear hqa
      cases qa with
      | false =>
        go_wp2_with fail
        go_meet
        case rel => exact ⟨by simp [HA.out], H1.out⟩
      | true =>
        have hlen : ts.length ≤ 1048576 := by have := (of_decide_eq_true (Bool.and_eq_true_iff.1 (Bool.and_eq_true_iff.1 HA.out).2).1); omega
        have HC := Lib.hid (contains_txn ts hlen A c W1 (HRR.out.txns.below H1.out.below))
        generalize hqt : decide (∀ t ∈ ts, Rc.txnR t) = qt at HC
        have HT := Lib.hid hqt
        clear hqt
        go_wp2_with (first | (go_at_call 117; (with_reducible refine HC.out.mono ?_); rintro e w5 ⟨rfl, hb5⟩))
        go_meet
        case rel => exact ⟨by simp [HA.out, HT.out], H1.out.step hb5⟩
    case rest =>
    obtain ⟨W2, rfl⟩ : ∃ wm : World, wm = wc := ⟨_, rfl⟩
    obtain ⟨rfl, hB2⟩ := hcut
    have H2 := Lib.hid hB2
    clear hR hF hB2 H1
    have hR := blkCell H2.out.br
    have hF := blkCell H2.out.bf
    go_upto_region 17 with (fail)
    go_cut [4] (fun s we => s = .bool (((decide (Rc.num nu) && (decide (ts.length ≤ 1000) && decide (ds.length ≤ 2000))) && decide (∀ t ∈ ts, Rc.txnR t)) && decide (∀ d ∈ ds, Rc.dirtyR d)) ∧ Boxes w w.heap.size w1.heap.size w2.heap.size #[.int .i64 lsn, .int .i64 prev, .int .i64 txn, .int .i64 9, .int .i64 page, .int .i64 next, .int .i64 nu, .int .i64 ok, .int .i64 os, .string oo, .string on, .int .i64 how, .int .i64 root, .string ek, .int .i64 ep, .int .i64 es, .slice A ts.length c, .slice B ds.length d] #[.bool false, .bool false, .bool false, .bool true, .bool true] #[.int .i64 lsn, .int .i64 prev, .int .i64 txn, .int .i64 9, .int .i64 0, .int .i64 0, .int .i64 0, .int .i64 0, .int .i64 0, .string ⟨#[]⟩, .string ⟨#[]⟩, .int .i64 0, .int .i64 0, .string ⟨#[]⟩, .int .i64 0, .int .i64 0, .slice none 0 0, .slice none 0 0] we)
    case first =>
      generalize hqa : ((decide (Rc.num nu) && (decide (ts.length ≤ 1000) && decide (ds.length ≤ 2000))) && decide (∀ t ∈ ts, Rc.txnR t)) = qa
      have HA := Lib.hid hqa
      clear hqa
      cases qa with
      | false =>
        go_wp2_with fail
        go_meet
        case rel => exact ⟨by simp [HA.out], H2.out⟩
      | true =>
        have hlen : ds.length ≤ 1048576 := by have := (of_decide_eq_true (Bool.and_eq_true_iff.1 (Bool.and_eq_true_iff.1 (Bool.and_eq_true_iff.1 HA.out).1).2).2); omega
        have HC := Lib.hid (contains_dirty ds hlen B d W2 (HRR.out.dirty.below H2.out.below))
        generalize hqt : decide (∀ d ∈ ds, Rc.dirtyR d) = qt at HC
        have HT := Lib.hid hqt
        clear hqt
        go_wp2_with (first | (go_at_call 119; (with_reducible refine HC.out.mono ?_); rintro e w5 ⟨rfl, hb5⟩))
        go_meet
        case rel => exact ⟨by simp [HA.out, HT.out], H2.out.step hb5⟩
    case rest =>
    obtain ⟨W3, rfl⟩ : ∃ wm : World, wm = wc := ⟨_, rfl⟩
    obtain ⟨rfl, hB3⟩ := hcut
    have H3 := Lib.hid hB3
    clear hR hF hB3 H2
    have hR := blkCell H3.out.br
    have hF := blkCell H3.out.bf
    have hXc := blkCell H3.out.bx
    have hXz := blkFrozen H3.out.bx
    have hne : w.heap.size ≠ w2.heap.size := by have := H3.out.ab; omega
    go_upto_region 18 with (fail)
    go_cut [] (fun we => Boxes w w.heap.size w1.heap.size w2.heap.size #[.int .i64 lsn, .int .i64 prev, .int .i64 txn, .int .i64 9, .int .i64 page, .int .i64 next, .int .i64 nu, .int .i64 ok, .int .i64 os, .string oo, .string on, .int .i64 how, .int .i64 root, .string ek, .int .i64 ep, .int .i64 es, .slice A ts.length c, .slice B ds.length d] #[.bool false, .bool false, .bool false, .bool true, .bool true] #[.int .i64 lsn, .int .i64 prev, .int .i64 txn, .int .i64 9, .int .i64 0, .int .i64 0, .int .i64 nu, .int .i64 0, .int .i64 0, .string ⟨#[]⟩, .string ⟨#[]⟩, .int .i64 0, .int .i64 0, .string ⟨#[]⟩, .int .i64 0, .int .i64 0, .slice A ts.length c, .slice B ds.length d] we)
    case first =>
      go_region
      all_goals
        go_wp2_with fail
        go_meet
        case rel =>
          first
            | (have h := (((H3.out.set 6 (.int .i64 nu)).set 16 (.slice A ts.length c)).set 17 (.slice B ds.length d)).drew; simpa using h)
            | (have h := (((H3.out.set 6 (.int .i64 nu)).set 17 (.slice B ds.length d)).set 16 (.slice A ts.length c)).drew; simpa using h)
            | (have h := (((H3.out.set 16 (.slice A ts.length c)).set 6 (.int .i64 nu)).set 17 (.slice B ds.length d)).drew; simpa using h)
            | (have h := (((H3.out.set 16 (.slice A ts.length c)).set 17 (.slice B ds.length d)).set 6 (.int .i64 nu)).drew; simpa using h)
            | (have h := (((H3.out.set 17 (.slice B ds.length d)).set 6 (.int .i64 nu)).set 16 (.slice A ts.length c)).drew; simpa using h)
            | (have h := (((H3.out.set 17 (.slice B ds.length d)).set 16 (.slice A ts.length c)).set 6 (.int .i64 nu)).drew; simpa using h)
    case rest =>
    obtain ⟨W4, rfl⟩ : ∃ wm : World, wm = wc := ⟨_, rfl⟩
    have H4 := Lib.hid hcut
    clear hR hF hXc hXz hcut H3
    have hR := blkCell H4.out.br
    have hF := blkCell H4.out.bf
    go_upto_region 19 with (fail)
    generalize hqa : (((decide (Rc.num nu) && (decide (ts.length ≤ 1000) && decide (ds.length ≤ 2000))) && decide (∀ t ∈ ts, Rc.txnR t)) && decide (∀ d ∈ ds, Rc.dirtyR d)) = qa
    have HA := Lib.hid hqa
    clear hqa
    cases qa with
    | false =>
      go_wp2_with fail
      go_ret
      refine ⟨?_, H4.out.below⟩
      have HF := HQ.out.trans (Rc.rightB_no fun h => by
        have h2 := (RI.out.1 h).2.1
        have h3 := HA.out
        simp only [Bool.and_eq_false_iff, decide_eq_false_iff_not] at h3
        grind)
      rw [HF]
      rfl
    | true =>
      have HS := Lib.hid (same_any ⟨lsn, prev, txn, 9, 0, 0, nu, ⟨0, 0, ⟨#[]⟩, ⟨#[]⟩⟩, 0, 0, ⟨⟨#[]⟩, 0, 0⟩, ts, ds⟩ ⟨lsn, prev, txn, 9, page, next, nu, ⟨ok, os, oo, on⟩, how, root, ⟨ek, ep, es⟩, ts, ds⟩ A A B B c c d d W4 ⟨(HRR.out.txns.below H4.out.below), (HRR.out.dirty.below H4.out.below), ⟨hsm1, hsm2⟩⟩ (HRR.out.below H4.out.below))
      dsimp only [recV, recA, List.length_nil] at HS
      cases he : decide ((⟨lsn, prev, txn, 9, 0, 0, nu, ⟨0, 0, ⟨#[]⟩, ⟨#[]⟩⟩, 0, 0, ⟨⟨#[]⟩, 0, 0⟩, ts, ds⟩ : Rc.Rec) = ⟨lsn, prev, txn, 9, page, next, nu, ⟨ok, os, oo, on⟩, how, root, ⟨ek, ep, es⟩, ts, ds⟩) with
      | false =>
        have HE := Lib.hid he
        clear he
        go_wp2_with (first | (with_reducible refine listLoad (by kernel_rfl) 85 (.tmp 5) rfl w2.heap.size rfl #[.int .i64 lsn, .int .i64 prev, .int .i64 txn, .int .i64 9, .int .i64 0, .int .i64 0, .int .i64 nu, .int .i64 0, .int .i64 0, .string ⟨#[]⟩, .string ⟨#[]⟩, .int .i64 0, .int .i64 0, .string ⟨#[]⟩, .int .i64 0, .int .i64 0, .slice A ts.length c, .slice B ds.length d] _ H4.out.bx _ Tryz.underlying85 (by kernel_rfl) (by kernel_rfl) ?_) | (with_reducible refine listLoad (by kernel_rfl) 85 (.tmp 1) rfl w.heap.size rfl #[.int .i64 lsn, .int .i64 prev, .int .i64 txn, .int .i64 9, .int .i64 page, .int .i64 next, .int .i64 nu, .int .i64 ok, .int .i64 os, .string oo, .string on, .int .i64 how, .int .i64 root, .string ek, .int .i64 ep, .int .i64 es, .slice A ts.length c, .slice B ds.length d] _ H4.out.br _ Tryz.underlying85 (by kernel_rfl) (by kernel_rfl) ?_) | (go_at_call 121; (with_reducible refine HS.out.mono ?_); rintro e w9 ⟨rfl, hb9⟩; rw [HE.out]))
        go_ret
        refine ⟨?_, joinB H4.out.below hb9⟩
        rw [HQ.out.trans (Rc.rightB_no fun h => of_decide_eq_false HE.out (RI.out.1 h).2.2)]
        rfl
      | true =>
        have HE := Lib.hid he
        clear he
        go_wp2_with (first | (with_reducible refine listLoad (by kernel_rfl) 85 (.tmp 5) rfl w2.heap.size rfl #[.int .i64 lsn, .int .i64 prev, .int .i64 txn, .int .i64 9, .int .i64 0, .int .i64 0, .int .i64 nu, .int .i64 0, .int .i64 0, .string ⟨#[]⟩, .string ⟨#[]⟩, .int .i64 0, .int .i64 0, .string ⟨#[]⟩, .int .i64 0, .int .i64 0, .slice A ts.length c, .slice B ds.length d] _ H4.out.bx _ Tryz.underlying85 (by kernel_rfl) (by kernel_rfl) ?_) | (with_reducible refine listLoad (by kernel_rfl) 85 (.tmp 1) rfl w.heap.size rfl #[.int .i64 lsn, .int .i64 prev, .int .i64 txn, .int .i64 9, .int .i64 page, .int .i64 next, .int .i64 nu, .int .i64 ok, .int .i64 os, .string oo, .string on, .int .i64 how, .int .i64 root, .string ek, .int .i64 ep, .int .i64 es, .slice A ts.length c, .slice B ds.length d] _ H4.out.br _ Tryz.underlying85 (by kernel_rfl) (by kernel_rfl) ?_) | (go_at_call 121; (with_reducible refine HS.out.mono ?_); rintro e w9 ⟨rfl, hb9⟩; rw [HE.out]))
        go_ret
        refine ⟨?_, joinB H4.out.below hb9⟩
        rw [HQ.out.trans (Rc.rightB_yes (RI.out.2 ⟨HN.out, by have h3 := HA.out; simpa only [Bool.and_eq_true, decide_eq_true_eq] using h3, of_decide_eq_true HE.out⟩))]
        rfl
end Go.Proofs.YthfglhafphfhiaaGreat
/- The walk over package rec: Right, of one kind. -/
namespace Go.Proofs.YthfglhafphfhiaaGreat
open Go.RowKit
set_option maxRecDepth 100000 in
set_option maxHeartbeats 2000000 in
theorem right_bare (kind : Int) (hk : kind = 1 ∨ kind = 5 ∨ kind = 6 ∨ kind = 7) (lsn prev txn page next nu ok os how root ep es : Int) (oo on ek : ByteArray) (ts : List Rc.TxnAt) (ds : List Rc.DirtyAt) (A B : Option Addr) (c d : Nat) (w : World) (hr : RecR w ⟨lsn, prev, txn, kind, page, next, nu, ⟨ok, os, oo, on⟩, how, root, ⟨ek, ep, es⟩, ts, ds⟩ A c B d) :
    Calls Tryz.prog 103 #[.agg #[.int .i64 lsn, .int .i64 prev, .int .i64 txn, .int .i64 kind, .int .i64 page, .int .i64 next, .int .i64 nu, .int .i64 ok, .int .i64 os, .string oo, .string on, .int .i64 how, .int .i64 root, .string ek, .int .i64 ep, .int .i64 es, .slice A ts.length c, .slice B ds.length d]] w fun e w' => e = .returned (.bool (Rc.rightB ⟨lsn, prev, txn, kind, page, next, nu, ⟨ok, os, oo, on⟩, how, root, ⟨ek, ep, es⟩, ts, ds⟩)) ∧ Below w.heap.size w w' := by
  have HOF := Lib.hid (fun W => of_any kind W)
  rw [show ofV kind = .tuple #[formV false false false false true, .bool true] from by rcases hk with rfl | rfl | rfl | rfl <;> rfl] at HOF
  have HNO := Lib.hid (fun W g h => number3 lsn prev txn W g h)
  obtain ⟨Q, hQ⟩ : ∃ Q, Q = Rc.rightB ⟨lsn, prev, txn, kind, page, next, nu, ⟨ok, os, oo, on⟩, how, root, ⟨ek, ep, es⟩, ts, ds⟩ := ⟨_, rfl⟩
  rw [← hQ]
  have HQ := Lib.hid hQ
  have hsm := hr.small
  simp only at hsm
  have hsm1 := hsm.1
  have hsm2 := hsm.2
  have HRR := Lib.hid hr
  clear hQ hr hsm
  have RI := Lib.hid (Rc.right_small kind hk lsn prev txn page next nu how root ⟨ok, os, oo, on⟩ ⟨ek, ep, es⟩ ts ds)
  cases hn : decide (Rc.num lsn ∧ Rc.num prev ∧ Rc.num txn) with
  | false =>
    rw [hn] at HNO
    have HF := Lib.hid (HQ.out.trans (Rc.rightB_no fun h => of_decide_eq_false hn (RI.out.1 h).1))
    clear hn RI
    go_enter Tryz.func103, Tryz.ntmps103
    go_wp2_with (first
      | (go_at_call 112; (with_reducible refine (HOF.out _).mono ?_); rintro e w1 ⟨rfl, hb1⟩; have hR := blkCell (blkNew hb1); have hl1 : w.heap.size < w1.heap.size := (by have := hb1.size; simp at this; omega); have HB1 := Lib.hid hb1; clear hb1)
      | (go_at_call 113; (with_reducible refine (HNO.out _ _ ?_).mono ?_); (with_reducible exact new2 _ _ _); rintro e w2 ⟨rfl, hb2⟩; have hR2 := blkCell (blkOld (blkNew HB1.out) (joinB (pastAlloc (allocB _ _)) hb2)); have hl2 : w1.heap.size + 1 < w2.heap.size := (by have := hb2.size; simp at this; omega); have HB2 := Lib.hid hb2; clear hb2)
      | (with_reducible refine wpList_store_new rfl 85 (.tmp 5) (.tmp 33) rfl #[.int .i64 lsn, .int .i64 prev, .int .i64 txn, .int .i64 kind, .int .i64 0, .int .i64 0, .int .i64 0, .int .i64 0, .int .i64 0, .string ⟨#[]⟩, .string ⟨#[]⟩, .int .i64 0, .int .i64 0, .string ⟨#[]⟩, .int .i64 0, .int .i64 0, .slice none 0 0, .slice none 0 0] _ _ rfl (by kernel_rfl) (by kernel_rfl) (by kernel_rfl) (by kernel_rfl) ?_))
    go_ret
    exact ⟨by rw [HF.out]; rfl, joinB (joinB (allocB _ _) HB1.out) (joinB (pastAlloc (allocB _ _)) HB2.out)⟩
  | true =>
    rw [hn] at HNO
    have HN := Lib.hid (of_decide_eq_true hn)
    clear hn
    go_enter Tryz.func103, Tryz.ntmps103
    go_upto_region 5 with (first
      | (go_at_call 112; (with_reducible refine (HOF.out _).mono ?_); rintro e w1 ⟨rfl, hb1⟩; have hR := blkCell (blkNew hb1); have hl1 : w.heap.size < w1.heap.size := (by have := hb1.size; simp at this; omega); have HB1 := Lib.hid hb1; clear hb1)
      | (go_at_call 113; (with_reducible refine (HNO.out _ _ ?_).mono ?_); (with_reducible exact new2 _ _ _); rintro e w2 ⟨rfl, hb2⟩; have hR2 := blkCell (blkOld (blkNew HB1.out) (joinB (pastAlloc (allocB _ _)) hb2)); have hl2 : w1.heap.size + 1 < w2.heap.size := (by have := hb2.size; simp at this; omega); have HB2 := Lib.hid hb2; clear hb2)
      | (with_reducible refine wpList_store_new rfl 85 (.tmp 5) (.tmp 33) rfl #[.int .i64 lsn, .int .i64 prev, .int .i64 txn, .int .i64 kind, .int .i64 0, .int .i64 0, .int .i64 0, .int .i64 0, .int .i64 0, .string ⟨#[]⟩, .string ⟨#[]⟩, .int .i64 0, .int .i64 0, .string ⟨#[]⟩, .int .i64 0, .int .i64 0, .slice none 0 0, .slice none 0 0] _ _ rfl (by kernel_rfl) (by kernel_rfl) (by kernel_rfl) (by kernel_rfl) ?_))
    have HX := Lib.hid (boxes_new (R := #[.int .i64 lsn, .int .i64 prev, .int .i64 txn, .int .i64 kind, .int .i64 page, .int .i64 next, .int .i64 nu, .int .i64 ok, .int .i64 os, .string oo, .string on, .int .i64 how, .int .i64 root, .string ek, .int .i64 ep, .int .i64 es, .slice A ts.length c, .slice B ds.length d]) (F := #[.bool false, .bool false, .bool false, .bool false, .bool true]) (X := #[.int .i64 lsn, .int .i64 prev, .int .i64 txn, .int .i64 kind, .int .i64 0, .int .i64 0, .int .i64 0, .int .i64 0, .int .i64 0, .string ⟨#[]⟩, .string ⟨#[]⟩, .int .i64 0, .int .i64 0, .string ⟨#[]⟩, .int .i64 0, .int .i64 0, .slice none 0 0, .slice none 0 0]) HB1.out HB2.out)
    clear hR hR2 HNO HOF HB1 HB2
    obtain ⟨V, hV⟩ : ∃ V, V = w2.alloc (.cells #[.int .i64 lsn, .int .i64 prev, .int .i64 txn, .int .i64 kind, .int .i64 0, .int .i64 0, .int .i64 0, .int .i64 0, .int .i64 0, .string ⟨#[]⟩, .string ⟨#[]⟩, .int .i64 0, .int .i64 0, .string ⟨#[]⟩, .int .i64 0, .int .i64 0, .slice none 0 0, .slice none 0 0] 85) := ⟨_, rfl⟩
    rw [← hV] at HX ⊢
    clear hV
    have hR := blkCell HX.out.br
    have hF := blkCell HX.out.bf
    go_upto_region 19 with (fail)
    have HS := Lib.hid (same_any ⟨lsn, prev, txn, kind, 0, 0, 0, ⟨0, 0, ⟨#[]⟩, ⟨#[]⟩⟩, 0, 0, ⟨⟨#[]⟩, 0, 0⟩, [], []⟩ ⟨lsn, prev, txn, kind, page, next, nu, ⟨ok, os, oo, on⟩, how, root, ⟨ek, ep, es⟩, ts, ds⟩ none A none B 0 c 0 d V ⟨(Reads.none_ _ _ _ _), (Reads.none_ _ _ _ _), ⟨by simp, by simp⟩⟩ (HRR.out.below HX.out.below))
    dsimp only [recV, recA, List.length_nil] at HS
    cases he : decide ((⟨lsn, prev, txn, kind, 0, 0, 0, ⟨0, 0, ⟨#[]⟩, ⟨#[]⟩⟩, 0, 0, ⟨⟨#[]⟩, 0, 0⟩, [], []⟩ : Rc.Rec) = ⟨lsn, prev, txn, kind, page, next, nu, ⟨ok, os, oo, on⟩, how, root, ⟨ek, ep, es⟩, ts, ds⟩) with
    | false =>
      have HE := Lib.hid he
      clear he
      go_wp2_with (first | (with_reducible refine listLoad (by kernel_rfl) 85 (.tmp 5) rfl w2.heap.size rfl #[.int .i64 lsn, .int .i64 prev, .int .i64 txn, .int .i64 kind, .int .i64 0, .int .i64 0, .int .i64 0, .int .i64 0, .int .i64 0, .string ⟨#[]⟩, .string ⟨#[]⟩, .int .i64 0, .int .i64 0, .string ⟨#[]⟩, .int .i64 0, .int .i64 0, .slice none 0 0, .slice none 0 0] _ HX.out.bx _ Tryz.underlying85 (by kernel_rfl) (by kernel_rfl) ?_) | (with_reducible refine listLoad (by kernel_rfl) 85 (.tmp 1) rfl w.heap.size rfl #[.int .i64 lsn, .int .i64 prev, .int .i64 txn, .int .i64 kind, .int .i64 page, .int .i64 next, .int .i64 nu, .int .i64 ok, .int .i64 os, .string oo, .string on, .int .i64 how, .int .i64 root, .string ek, .int .i64 ep, .int .i64 es, .slice A ts.length c, .slice B ds.length d] _ HX.out.br _ Tryz.underlying85 (by kernel_rfl) (by kernel_rfl) ?_) | (go_at_call 121; (with_reducible refine HS.out.mono ?_); rintro e w9 ⟨rfl, hb9⟩; rw [HE.out]))
      go_ret
      refine ⟨?_, joinB HX.out.below hb9⟩
      rw [HQ.out.trans (Rc.rightB_no fun h => of_decide_eq_false HE.out (RI.out.1 h).2)]
      rfl
    | true =>
      have HE := Lib.hid he
      clear he
      go_wp2_with (first | (with_reducible refine listLoad (by kernel_rfl) 85 (.tmp 5) rfl w2.heap.size rfl #[.int .i64 lsn, .int .i64 prev, .int .i64 txn, .int .i64 kind, .int .i64 0, .int .i64 0, .int .i64 0, .int .i64 0, .int .i64 0, .string ⟨#[]⟩, .string ⟨#[]⟩, .int .i64 0, .int .i64 0, .string ⟨#[]⟩, .int .i64 0, .int .i64 0, .slice none 0 0, .slice none 0 0] _ HX.out.bx _ Tryz.underlying85 (by kernel_rfl) (by kernel_rfl) ?_) | (with_reducible refine listLoad (by kernel_rfl) 85 (.tmp 1) rfl w.heap.size rfl #[.int .i64 lsn, .int .i64 prev, .int .i64 txn, .int .i64 kind, .int .i64 page, .int .i64 next, .int .i64 nu, .int .i64 ok, .int .i64 os, .string oo, .string on, .int .i64 how, .int .i64 root, .string ek, .int .i64 ep, .int .i64 es, .slice A ts.length c, .slice B ds.length d] _ HX.out.br _ Tryz.underlying85 (by kernel_rfl) (by kernel_rfl) ?_) | (go_at_call 121; (with_reducible refine HS.out.mono ?_); rintro e w9 ⟨rfl, hb9⟩; rw [HE.out]))
      go_ret
      refine ⟨?_, joinB HX.out.below hb9⟩
      rw [HQ.out.trans (Rc.rightB_yes (RI.out.2 ⟨HN.out, of_decide_eq_true HE.out⟩))]
      rfl
end Go.Proofs.YthfglhafphfhiaaGreat
/- The walk over package rec: Right, of any record. -/
namespace Go.Proofs.YthfglhafphfhiaaGreat
open Go.RowKit
set_option maxRecDepth 100000 in
set_option maxHeartbeats 1000000 in
theorem right_out (kind : Int) (hk : ¬ (1 ≤ kind ∧ kind ≤ 9)) (lsn prev txn page next nu ok os how root ep es : Int) (oo on ek : ByteArray) (T D : Value) (w : World) :
    Calls Tryz.prog 103 #[.agg #[.int .i64 lsn, .int .i64 prev, .int .i64 txn, .int .i64 kind, .int .i64 page, .int .i64 next, .int .i64 nu, .int .i64 ok, .int .i64 os, .string oo, .string on, .int .i64 how, .int .i64 root, .string ek, .int .i64 ep, .int .i64 es, T, D]] w fun e w' => e = .returned (.bool false) ∧ Below w.heap.size w w' := by
  have HOF := Lib.hid (fun W => of_any kind W)
  have ho : ∃ a b c d, ofV kind = .tuple #[formV a b c d false, .bool false] := by
    unfold ofV
    rw [decide_eq_false hk]
    exact ⟨_, _, _, _, rfl⟩
  obtain ⟨fa, fb, fc, fd, ho⟩ := ho
  rw [ho] at HOF
  clear ho hk
  go_enter Tryz.func103, Tryz.ntmps103
  go_wp2_with ((go_at_call 112; (with_reducible refine (HOF.out _).mono ?_); rintro e w1 ⟨rfl, hb1⟩))
  go_ret
  exact ⟨rfl, pastAlloc (joinB (allocB _ _) hb1)⟩
theorem cright_rec (x : Rc.Rec) (A B : Option Addr) (c d : Nat) (w : World) (hr : RecR w x A c B d) :
    Calls Tryz.prog 103 #[recV x (.slice A x.txns.length c) (.slice B x.dirty.length d)] w fun e w' => e = .returned (.bool (Rc.rightB x)) ∧ Below w.heap.size w w' := by
  obtain ⟨lsn, prev, txn, kind, page, next, nu, ⟨ok, os, oo, on⟩, how, root, ⟨ek, ep, es⟩, ts, ds⟩ := x
  by_cases h : 1 ≤ kind ∧ kind ≤ 9
  · have h9 : kind = 2 ∨ kind = 3 ∨ kind = 4 ∨ kind = 8 ∨ kind = 9 ∨ kind = 1 ∨ kind = 5 ∨ kind = 6 ∨ kind = 7 := by omega
    rcases h9 with rfl | rfl | rfl | rfl | rfl | h9
    · exact right_change lsn prev txn page next nu ok os how root ep es oo on ek ts ds A B c d w hr
    · exact right_clr lsn prev txn page next nu ok os how root ep es oo on ek ts ds A B c d w hr
    · exact right_nest lsn prev txn page next nu ok os how root ep es oo on ek ts ds A B c d w hr
    · exact right_image lsn prev txn page next nu ok os how root ep es oo on ek ts ds A B c d w hr
    · exact right_check lsn prev txn page next nu ok os how root ep es oo on ek ts ds A B c d w hr
    · exact right_bare kind h9 lsn prev txn page next nu ok os how root ep es oo on ek ts ds A B c d w hr
  · rw [Rc.rightB_no (Rc.right_none h)]
    exact right_out kind h lsn prev txn page next nu ok os how root ep es oo on ek _ _ w
end Go.Proofs.YthfglhafphfhiaaGreat
/- A record's writer: a strings.Builder that lies in another struct; what WriteString and String do there, with a frame that keeps all blocks that are no bytes. -/
namespace Go.Proofs.YthfglhafphfhiaaGreat
open Go.RowKit
/-- Block b is a writer that holds the bytes l; its row of bytes, if there is one, is block number B or later. -/
def BldW (B b : Nat) (l : List UInt8) (w : World) : Prop :=
  b < B ∧ ∃ p v, w.heap[b]? = some (.cells #[p, v] 160 (0, 0)) ∧ (p = .pointer none ∨ p = .pointer (some ⟨b, 0, none⟩)) ∧ w.ownsRow B 5 1 v l.length (Lib.byteCells l)
/-- Is this no row of bytes? -/
def noBytes (o : Option Obj) : Prop := ∃ cs t fr, o = some (.cells cs t fr) ∧ t ≠ 5
/-- Only block b, and rows of bytes from B on, may have turned. -/
structure KeptW (B b : Nat) (w w' : World) : Prop where
  os : w'.os = w.os
  tape : w'.tape = w.tape
  output : w'.output = w.output
  size : w.heap.size ≤ w'.heap.size
  block : ∀ k, k < w.heap.size → k ≠ b → k < B ∨ noBytes w.heap[k]? → w'.heap[k]? = w.heap[k]?
theorem KeptW.refl (B b : Nat) (w : World) : KeptW B b w w := ⟨rfl, rfl, rfl, Nat.le_refl _, fun _ _ _ _ => rfl⟩
theorem KeptW.trans {B b : Nat} {u v w : World} (h : KeptW B b u v) (k : KeptW B b v w) : KeptW B b u w :=
  ⟨k.os.trans h.os, k.tape.trans h.tape, k.output.trans h.output, Nat.le_trans h.size k.size, fun i hi hb hc => by
    have e := h.block i hi hb hc
    exact (k.block i (Nat.lt_of_lt_of_le hi h.size) hb (by rw [e]; exact hc)).trans e⟩
theorem KeptW.of_below {B b : Nat} {u v : World} (h : Below u.heap.size u v) : KeptW B b u v :=
  ⟨h.os, h.tape, h.output, h.size, fun i hi _ _ => h.block i hi⟩
theorem KeptW.below {B b lo : Nat} {u v : World} (h : KeptW B b u v) (h1 : lo ≤ B) (h2 : lo ≤ b) (h3 : lo ≤ u.heap.size) : Below lo u v :=
  ⟨h.os, h.tape, h.output, h.size, fun i hi => h.block i (by omega) (by omega) (.inl (by omega))⟩
theorem KeptW.at_ {B b : Nat} {u v : World} (h : KeptW B b u v) {g : Nat} {cs : Array Value} {t : TypeId} {fr : Nat × Nat} (hg : u.heap[g]? = some (.cells cs t fr)) (hb : g ≠ b) (ht : t ≠ 5) : v.heap[g]? = some (.cells cs t fr) :=
  (h.block g (heapLt hg) hb (.inr ⟨cs, t, fr, hg, ht⟩)).trans hg
theorem bldw_size {B b : Nat} {l : List UInt8} {w : World} (h : BldW B b l w) : b < w.heap.size := by
  obtain ⟨_, p, v, hb, _⟩ := h
  exact heapLt hb
theorem BldW.below {B b : Nat} {l : List UInt8} {w w' : World} (h : BldW B b l w) (hb : Below w.heap.size w w') : BldW B b l w' := by
  obtain ⟨hbB, p, v, hbk, hp, hown⟩ := h
  exact ⟨hbB, p, v, blkOld hbk hb, hp, ownBelow hown hb⟩
theorem BldW.fresh (B b : Nat) (w : World) (hb : b < B) (h : w.heap[b]? = some (.cells #[.pointer none, .slice none 0 0] 160 (0, 0))) : BldW B b [] w :=
  ⟨hb, _, _, h, .inl rfl, ⟨rfl, .inl ⟨rfl, rfl⟩⟩⟩
set_option maxRecDepth 100000 in
set_option maxHeartbeats 1000000 in
theorem copyCheckW_fresh (b : Nat) (w : World) (h0 : w.cell? ⟨b, 0, none⟩ = some (.pointer none)) (hsh : w.shape? b = some (160, 2)) (hfz : w.frozen? ⟨b, 0, none⟩ = false) :
    Calls Tryz.prog 98 #[.pointer (some ⟨b, 0, none⟩)] w fun e w' => e = .returned (.tuple #[]) ∧ w' = w.setCell ⟨b, 0, none⟩ (.pointer (some ⟨b, 0, none⟩)) := by
  obtain ⟨j, hj, hjs⟩ := Option.map_eq_some_iff.1 (show (Tryz.prog.info? 109).map (·.size) = some 2 by kernel_rfl)
  have hlies : liesAt Tryz.prog Tryz.prog.depth 160 (2 / Tryz.prog.cellsOf 160) 0 109 1 = true := by kernel_rfl
  go_enter Tryz.func98, Tryz.ntmps98
  go_wp2
  rw [Lib.run_to_unsafe w ⟨b, 0, none⟩ Tryz.underlying106 Tryz.underlying145 hj (by rw [hjs]; decide) hsh (Nat.zero_lt_succ 1)]
  simp only [Result.andThen]
  rw [Oper.upon_value]
  go_wp2
  rw [run_callFunc_extern Tryz.func108 (by kernel_rfl) (by kernel_rfl) (by kernel_rfl) (e := Extern.AbiNoEscape.same) (by kernel_rfl)]
  rw [Lib.run_noEscape]
  simp only [Result.andThen]
  rw [Oper.upon_value]
  go_wp2
  rw [Lib.run_from_unsafe w ⟨b, 0, none⟩ Tryz.underlying145 Tryz.underlying106 hj hsh hlies]
  simp only [Result.andThen]
  rw [Oper.upon_value]
  go_wp2
  go_end0
  exact ⟨rfl, rfl⟩
theorem setW (B b : Nat) (w : World) (i : Nat) (v : Value) : KeptW B b w (w.setCell ⟨b, i, none⟩ v) :=
  ⟨rfl, rfl, rfl, by simp [World.setCell], fun k _ hk _ => Below.heap_setCell _ _ _ _ hk⟩
theorem copyCheckW_any (B b : Nat) (l : List UInt8) (w : World) (h : BldW B b l w) :
    Calls Tryz.prog 98 #[.pointer (some ⟨b, 0, none⟩)] w fun e w' => e = .returned (.tuple #[]) ∧
      (b < B ∧ ∃ v, w'.heap[b]? = some (.cells #[.pointer (some ⟨b, 0, none⟩), v] 160 (0, 0)) ∧ w'.ownsRow B 5 1 v l.length (Lib.byteCells l)) ∧ KeptW B b w w' := by
  obtain ⟨hbB, p, v, hb, hp, hown⟩ := h
  rcases hp with rfl | rfl
  · refine (copyCheckW_fresh b w (by rw [blkCell hb]; rfl) (by simp [World.shape?, hb]) (by simp [World.frozen?, hb])).mono ?_
    rintro e w' ⟨rfl, rfl⟩
    exact ⟨rfl, ⟨hbB, v, heap_set w b 0 _ _ _ _ hb, own_set hbB hown⟩, setW B b w 0 _⟩
  · refine (copyCheck_used b w (by rw [blkCell hb]; rfl)).mono ?_
    rintro e w' ⟨rfl, rfl⟩
    exact ⟨rfl, ⟨hbB, v, hb, hown⟩, KeptW.refl _ _ _⟩
set_option maxHeartbeats 1000000 in
theorem writeW_any (B b : Nat) (l : List UInt8) (s : ByteArray) (w : World) (h : BldW B b l w) (hlen : l.length + s.size ≤ 140737488355328) (hBw : B ≤ w.heap.size) :
    Calls Tryz.prog 72 #[.pointer (some ⟨b, 0, none⟩), .string s] w fun e w' => e = .returned (.tuple #[.int .i64 s.size, .nilIface]) ∧ BldW B b (l ++ s.data.toList) w' ∧ KeptW B b w w' := by
  obtain ⟨i0, hi, hz0, hz1, hz2⟩ := info_parts info_byte
  have HC := Lib.hid (copyCheckW_any B b l w h)
  clear h
  go_enter Tryz.func72, Tryz.ntmps72
  go_wp2_with (go_at_call 98; refine HC.out.mono ?_)
  rintro e w1 ⟨rfl, ⟨hbB, v, hbk, hown⟩, hk1⟩
  have hs1 := hk1.size
  have c1 : w1.cell? ⟨b, 1, none⟩ = some v := by rw [blkCell hbk]; rfl
  go_wp2_with (at_builtin; refine Lib.wpList_append_own_string _ rfl _ _ 107 9 rfl B 5 i0 Tryz.underlying107 Tryz.underlying9 hi hz0 hz1 hz2 _ _ _ rfl hown s rfl ?c3 ?c4 ?c5 ?_)
  case c3 => unfold maxLen; omega
  case c4 => omega
  case c5 => omega
  intro v' w2 hown' hgrow _
  have hlt : b < w1.heap.size := heapLt hbk
  have hne : v.ownBlock ≠ some b := fun e => by
    have := (hown.lt b e).1; omega
  have hb2 : w2.heap[b]? = some (.cells #[.pointer (some ⟨b, 0, none⟩), v] 160 (0, 0)) := by
    rw [hgrow.block b hlt (fun e => hne e.symm)]; exact hbk
  have d1 : w2.cell? ⟨b, 1, none⟩ = some v := by rw [blkCell hb2]; rfl
  have f1 : w2.frozen? ⟨b, 1, none⟩ = false := by simp [World.frozen?, hb2]
  obtain ⟨ao, n', cap, rfl⟩ : ∃ ao n' cap, v' = .slice ao n' cap := by
    rcases hown'.2 with ⟨hv, _⟩ | ⟨g, cap, cur, hv, _⟩
    · exact ⟨_, _, _, hv⟩
    · exact ⟨_, _, _, hv⟩
  have hk2 : KeptW B b w1 w2 := ⟨hgrow.os, hgrow.tape, hgrow.output, hgrow.size, fun k hk hkb hc => hgrow.block k hk (fun e => by
    have h1 := (hown.lt k e.symm).1
    rcases hc with hc | ⟨cs, t, fr, hcs, ht⟩
    · omega
    · rcases hown.2 with ⟨hv, _⟩ | ⟨g, cap', cur, hv, _, hg, _⟩
      · rw [hv] at e; simp [Value.ownBlock] at e
      · rw [hv] at e
        have hkg : g = k := by simpa [Value.ownBlock] using e.symm
        subst hkg
        rw [hcs] at hg
        injection hg with hg
        injection hg with _ hg2
        exact ht hg2)⟩
  have HKW := Lib.hid (hk1.trans hk2)
  clear hk1 hk2
  go_wp2_with fail
  go_ret2
  refine ⟨rfl, ?_, HKW.out.trans (setW B b w2 1 _)⟩
  have hbs : Lib.byteCells (l ++ s.data.toList) = Lib.byteCells l ++ Lib.strCells s := by
    simp [Lib.byteCells, Lib.strCells]
  refine ⟨hbB, _, _, heap_set w2 b 1 _ _ _ _ hb2, .inr rfl, ?_⟩
  have := own_set (i := 1) (u := .slice ao n' cap) hbB hown'
  rw [hbs, List.length_append, show s.data.toList.length = s.size by simp]
  exact this
end Go.Proofs.YthfglhafphfhiaaGreat
/- The walks over package rec: how a writer gathers numbers and texts. -/
namespace Go.Proofs.YthfglhafphfhiaaGreat
open Go.RowKit
set_option maxHeartbeats 2000000 in
set_option maxRecDepth 100000 in
theorem stringW_any (B b : Nat) (l : List UInt8) (w : World) (h : BldW B b l w) (h0 : l ≠ []) :
    Calls Tryz.prog 74 #[.pointer (some ⟨b, 0, none⟩)] w fun e w' => e = .returned (.string ⟨l.toArray⟩) ∧ KeptW B b w w' := by
  obtain ⟨hbB, p, v, hbk, hp, hown⟩ := h
  have hl0 : l.length ≠ 0 := by simpa using h0
  obtain ⟨g, cap, cur, rfl, hbg, hgc, hnc, hcm, hcs, htake⟩ : ∃ g cap cur, v = .slice (some ⟨g, 0, none⟩) l.length cap ∧ B ≤ g ∧ w.heap[g]? = some (.cells cur 5 (0, 0)) ∧ l.length ≤ cap ∧ cap ≤ maxLen ∧ cur.size = cap * 1 ∧ cur.toList.take (l.length * 1) = Lib.byteCells l := by
    rcases hown.2 with ⟨_, hz⟩ | ⟨g, cap, cur, hv, r⟩
    · exact absurd hz hl0
    · exact ⟨g, cap, cur, hv, r⟩
  have c1 : w.drew.cell? ⟨b, 1, none⟩ = some (.slice (some ⟨g, 0, none⟩) l.length cap) := by
    have : w.drew.heap[b]? = some (.cells #[p, .slice (some ⟨g, 0, none⟩) l.length cap] 160 (0, 0)) := hbk
    rw [blkCell this]; rfl
  have hSD : (Builtin.unsafeSliceData_ #[107] 139 #[.slice (some ⟨g, 0, none⟩) l.length cap]).run Tryz.prog w.drew = .ok (.pointer (some ⟨g, 0, none⟩)) w.drew :=
    Lib.run_unsafeSliceData_row _ _ _ _ _ _ (by omega)
  have hUS : (Builtin.unsafeString_ #[139, 3] 9 #[.pointer (some ⟨g, 0, none⟩), .int .i64 l.length]).run Tryz.prog w.drew = .ok (.string ⟨l.toArray⟩) (w.drew.freeze ⟨g, 0, none⟩ l.length) := by
    refine Lib.run_unsafeString_row w.drew 139 3 9 5 ptr_type cells_byte g cur.size (by have hg' : w.drew.heap[g]? = some (.cells cur 5 (0, 0)) := hgc; simp [World.shape?, hg']) l h0 (by omega) (by unfold maxLen at hcm; omega) ?_
    intro j x hx
    have := hown.cells (g := g) rfl j (.int .u8 x.toNat) (by simp [Lib.byteCells, hx])
    exact this
  have HK : KeptW B b w (w.drew.freeze ⟨g, 0, none⟩ l.length) := by
    have h1 := KeptR.freeze g (g + 1) g l.length w (Nat.le_refl _) (Nat.lt_succ_self _)
    refine ⟨h1.os, h1.tape, h1.output, h1.size, fun k hk hkb hc => h1.block k hk ?_⟩
    rcases Nat.lt_trichotomy k g with h | h | h
    · exact .inl h
    · subst h
      rcases hc with hc | ⟨cs, t, fr, hcs, ht⟩
      · omega
      · rw [hcs] at hgc
        injection hgc with hgc
        injection hgc with _ h2
        exact absurd h2 ht
    · exact .inr h
  clear hown hbk htake hcs hcm hnc hgc h0
  go_enter Tryz.func74, Tryz.ntmps74
  go_wp2
  go_region
  all_goals (go_wp2; go_ret; exact ⟨rfl, HK⟩)
theorem p_bytes (n : Int) (size : Nat) (h8 : size ≤ 8) : (Oct.putB n size).data.toList = Rc.p n size := by
  unfold Oct.putB
  rw [if_neg (by omega)]
  simp [Rc.p]
theorem p_size (n : Int) (size : Nat) : (Rc.p n size).length = size := Oct.putL_length _ _
theorem t_size (s : ByteArray) : (Rc.t s).length = 2 + s.size := by
  unfold Rc.t
  rw [List.length_append, p_size]
  simp
set_option maxRecDepth 100000 in
theorem putText_any (s : ByteArray) (hs : s.size ≤ 65535) (w : World) :
    Calls Tryz.prog 151 #[.string s] w fun e w' => ∃ x : ByteArray, e = .returned (.string x) ∧ x.data.toList = Rc.t s ∧ Below w.heap.size w w' := by
  have HP := Lib.hid (fun W => put_any s.size 2 (by omega) (by omega) W)
  have hmin : min (s.size : Int) 65535 = s.size := by omega
  have hex : s.extract 0 s.size = s := ByteArray.extract_zero_size
  have hsz : (Oct.putB (s.size : Int) 2).size = 2 := Oct.putB_size _ 2 (by omega)
  have hsum : (Oct.putB (s.size : Int) 2).size + s.size ≤ 281474976710656 := by omega
  have hfin : (Oct.putB (s.size : Int) 2 ++ s).data.toList = Rc.t s := by
    have e : (Oct.putB (s.size : Int) 2).data.toList = Rc.p s.size 2 := p_bytes _ 2 (by omega)
    rw [ByteArray.data_append, Array.toList_append, e]; rfl
  go_enter Tryz.func151, Tryz.ntmps151
  go_wp2_with ((go_at_call 66; refine (HP.out _).mono ?_; rintro e w1 ⟨rfl, hb1⟩))
  go_ret
  exact ⟨_, rfl, hfin, hb1⟩
theorem flat_int (size : Nat) (h8 : size ≤ 8) (xs : List Int) (k : Nat) : ((xs.take k).flatMap (fun n => Rc.p n size)).length ≤ k * 8 := by
  refine Nat.le_trans ?_ (Nat.mul_le_mul_right _ (show (xs.take k).length ≤ k by rw [List.length_take]; omega))
  have hh : ∀ ys : List Int, (∀ y ∈ ys, ((fun n => Rc.p n size) y).length ≤ 8) → (ys.flatMap (fun n => Rc.p n size)).length ≤ ys.length * 8 := by
    intro ys
    induction ys with
    | nil => intro _; simp
    | cons y ys ih =>
      intro h
      rw [List.flatMap_cons, List.length_append, List.length_cons, Nat.succ_mul]
      have h1 : (Rc.p y size).length ≤ 8 := h y (List.mem_cons_self ..)
      show (Rc.p y size).length + _ ≤ _
      have h2 := ih (fun z hz => h z (List.mem_cons_of_mem _ hz))
      omega
  exact hh _ (fun y hy => by show (Rc.p y size).length ≤ 8; rw [p_size]; exact h8)
set_option maxRecDepth 100000 in
set_option maxHeartbeats 2000000 in
theorem wput_any (B b g : Nat) (l : List UInt8) (size : Nat) (h8 : size ≤ 8) (xs : List Int) (w : World) (h : BldW B b l w) (hB : B ≤ w.heap.size) (hg : w.heap[g]? = some (.cells (xs.map (Value.int .i64)).toArray 3 (0, 0))) (hgb : g ≠ b) (hlen : l.length + xs.length * 8 ≤ 140737488355328) :
    Calls Tryz.prog 122 #[.pointer (some ⟨b, 0, none⟩), .int .i64 (size : Int), .slice (some ⟨g, 0, none⟩) xs.length xs.length] w fun e w' => e = .returned (.tuple #[]) ∧ BldW B b (l ++ xs.flatMap (fun n => Rc.p n size)) w' ∧ KeptW B b w w' := by
  have HW := Lib.hid h
  have HG := Lib.hid hg
  have hFL := Lib.hid (flat_int size h8 xs)
  have HP := Lib.hid (fun n W => put_any n (size : Int) (by omega) (by omega) W)
  have HPB := Lib.hid (fun n => p_bytes n size h8)
  have HPZ := Lib.hid (fun n => Oct.putB_size n size h8)
  clear h hg
  go_enter Tryz.func122, Tryz.ntmps122
  go_wp2_with fail
  go_loopw [7, 10] (fun _ i wr => ∃ k : Nat, k ≤ xs.length ∧ i = .int .i64 k ∧ BldW B b (l ++ (xs.take k).flatMap (fun n => Rc.p n size)) wr ∧ KeptW B b w wr) (fun _ i _ => xs.length - (intOf i).toNat)
  case atStart => exact ⟨0, Nat.zero_le _, rfl, by simpa using HW.out, KeptW.refl _ _ _⟩
  case round =>
    obtain ⟨k, hk, rfl, hbw, hkw⟩ := hrel
    have HBW := Lib.hid hbw
    have HKW := Lib.hid hkw
    clear hbw hkw
    by_cases hlt : k < xs.length
    · have q0 : wr.cell? ⟨g, k, none⟩ = some (Value.int .i64 xs[k]) := by
        rw [blkCell (HKW.out.at_ HG.out hgb (by decide))]
        simp [hlt]
      have hst : (xs.take (k + 1)).flatMap (fun n => Rc.p n size) = (xs.take k).flatMap (fun n => Rc.p n size) ++ (fun n => Rc.p n size) xs[k] := by
        rw [List.take_add_one, List.flatMap_append, List.getElem?_eq_getElem hlt]
        simp
      have HST := Lib.hid hst
      
      generalize xs[k] = x at q0 HST
      clear hst
      go_upto_region 3 with fail
      refine wp_region_held_drew (S := (fun _ => True)) (by kernel_rfl) ?_ (fun hHeld => ?_)
      · trivial
      refine tkW 0 (some 14) (v := ?_) rfl ?_ ?_
      rotate_left
      · intro w hSw; (try dsimp only at hSw); go_simp; (try with_reducible rfl)
      try simp only [Act.put, List.setIfInBounds_toArray, List.set_cons_zero, List.set_cons_succ]
      refine tkW 1 (some 15) (v := ?_) rfl ?_ ?_
      rotate_left
      · intro w hSw; (try dsimp only at hSw); go_simp; (try with_reducible rfl)
      try simp only [Act.put, List.setIfInBounds_toArray, List.set_cons_zero, List.set_cons_succ]
      refine tkW 2 (some 16) (v := ?_) rfl ?_ ?_
      rotate_left
      · intro w hSw; (try dsimp only at hSw); go_simp; (try with_reducible rfl)
      try simp only [Act.put, List.setIfInBounds_toArray, List.set_cons_zero, List.set_cons_succ]
      refine tkW 3 (some 17) (v := ?_) rfl ?_ ?_
      rotate_left
      · intro w hSw; (try dsimp only at hSw); go_simp; (try with_reducible rfl)
      try simp only [Act.put, List.setIfInBounds_toArray, List.set_cons_zero, List.set_cons_succ]
      refine tkW 4 (some 18) (v := ?_) rfl ?_ ?_
      rotate_left
      · intro w hSw; (try dsimp only at hSw); go_simp; (try with_reducible rfl)
      try simp only [Act.put, List.setIfInBounds_toArray, List.set_cons_zero, List.set_cons_succ]
      refine rdH 5 (some 19) rfl (fun K hK => ?_)
      go_simp
      refine (HP.out x _).mono ?_; rintro e w1 ⟨rfl, hb1⟩; have HB1 := Lib.hid (HBW.out.below ((Below.refl _ wr).drew.trans hb1)); have HS1 := Lib.hid hb1.size; try go_simp
      refine hK.out _ _ ?_ (fun hHeld => ?_)
      · trivial
      clear hK K
      try simp only [Act.put, List.setIfInBounds_toArray, List.set_cons_zero, List.set_cons_succ]
      refine rdH 6 (some 20) rfl (fun K hK => ?_)
      go_simp
      refine (writeW_any B b _ (Oct.putB x (size : Int)) _ HB1.out (by have := HPZ.out x; have := hFL.out k; rw [List.length_append]; omega) (by have h1 := HKW.out.size; have h2 := HS1.out; have h3 : wr.drew.heap.size = wr.heap.size := rfl; omega)).mono ?_; rintro e w2 ⟨rfl, hbw2, hkw2⟩; have HBW2 := Lib.hid hbw2; have HKW2 := Lib.hid ((HKW.out.trans (KeptW.of_below ((Below.refl _ wr).drew.trans hb1))).trans hkw2); clear hbw2 hkw2; try go_simp
      refine hK.out _ _ ?_ (fun hHeld => ?_)
      · trivial
      clear hK K
      try simp only [Act.put, List.setIfInBounds_toArray, List.set_cons_zero, List.set_cons_succ]
      refine wpAnyH_done (by kernel_rfl) ?_ _
      clear hHeld
      go_wp2_with fail
      go_roundw
      case rel => exact ⟨k + 1, by omega, by go_num, by rw [HST.out, ← List.append_assoc]; have h := HBW2.out; rw [HPB.out] at h; exact h, HKW2.out⟩
      case measure => simp [intOf]; omega
    · obtain rfl : k = xs.length := by omega
      go_wp2_with fail
      first | go_end0 | go_ret
      refine ⟨rfl, ?_, HKW.out⟩
      have h := HBW.out
      rw [List.take_length] at h
      exact h
theorem flat_str (xs : List ByteArray) (hx : ∀ s ∈ xs, s.size ≤ 65535) (k : Nat) : ((xs.take k).flatMap Rc.t).length ≤ k * 65537 := by
  refine Nat.le_trans ?_ (Nat.mul_le_mul_right _ (show (xs.take k).length ≤ k by rw [List.length_take]; omega))
  have hh : ∀ ys : List ByteArray, (∀ y ∈ ys, (Rc.t y).length ≤ 65537) → (ys.flatMap Rc.t).length ≤ ys.length * 65537 := by
    intro ys
    induction ys with
    | nil => intro _; simp
    | cons y ys ih =>
      intro h
      rw [List.flatMap_cons, List.length_append, List.length_cons, Nat.succ_mul]
      have h1 : (Rc.t y).length ≤ 65537 := h y (List.mem_cons_self ..)
      show (Rc.t y).length + _ ≤ _
      have h2 := ih (fun z hz => h z (List.mem_cons_of_mem _ hz))
      omega
  exact hh _ (fun y hy => by rw [t_size]; have := hx y (List.mem_of_mem_take hy); omega)
set_option maxRecDepth 100000 in
set_option maxHeartbeats 2000000 in
theorem wtexts_any (B b g : Nat) (l : List UInt8) (xs : List ByteArray) (hx : ∀ s ∈ xs, s.size ≤ 65535) (w : World) (h : BldW B b l w) (hB : B ≤ w.heap.size) (hg : w.heap[g]? = some (.cells (xs.map Value.string).toArray 9 (0, 0))) (hgb : g ≠ b) (hlen : l.length + xs.length * 65537 ≤ 140737488355328) :
    Calls Tryz.prog 123 #[.pointer (some ⟨b, 0, none⟩), .slice (some ⟨g, 0, none⟩) xs.length xs.length] w fun e w' => e = .returned (.tuple #[]) ∧ BldW B b (l ++ xs.flatMap Rc.t) w' ∧ KeptW B b w w' := by
  have HW := Lib.hid h
  have HG := Lib.hid hg
  have hFL := Lib.hid (flat_str xs hx)
  have HP := Lib.hid (fun s hs W => putText_any s hs W)
  have HXS := Lib.hid hx
  
  clear h hg hx
  go_enter Tryz.func123, Tryz.ntmps123
  go_wp2_with fail
  go_loopw [5, 8] (fun _ i wr => ∃ k : Nat, k ≤ xs.length ∧ i = .int .i64 k ∧ BldW B b (l ++ (xs.take k).flatMap Rc.t) wr ∧ KeptW B b w wr) (fun _ i _ => xs.length - (intOf i).toNat)
  case atStart => exact ⟨0, Nat.zero_le _, rfl, by simpa using HW.out, KeptW.refl _ _ _⟩
  case round =>
    obtain ⟨k, hk, rfl, hbw, hkw⟩ := hrel
    have HBW := Lib.hid hbw
    have HKW := Lib.hid hkw
    clear hbw hkw
    by_cases hlt : k < xs.length
    · have q0 : wr.cell? ⟨g, k, none⟩ = some (Value.string xs[k]) := by
        rw [blkCell (HKW.out.at_ HG.out hgb (by decide))]
        simp [hlt]
      have hst : (xs.take (k + 1)).flatMap Rc.t = (xs.take k).flatMap Rc.t ++ Rc.t xs[k] := by
        rw [List.take_add_one, List.flatMap_append, List.getElem?_eq_getElem hlt]
        simp
      have HST := Lib.hid hst
      have HXK := Lib.hid (HXS.out _ (List.getElem_mem hlt))
      generalize xs[k] = x at q0 HST HXK
      clear hst
      go_upto_region 3 with fail
      refine wp_region_held_drew (S := (fun _ => True)) (by kernel_rfl) ?_ (fun hHeld => ?_)
      · trivial
      refine tkW 0 (some 12) (v := ?_) rfl ?_ ?_
      rotate_left
      · intro w hSw; (try dsimp only at hSw); go_simp; (try with_reducible rfl)
      try simp only [Act.put, List.setIfInBounds_toArray, List.set_cons_zero, List.set_cons_succ]
      refine tkW 1 (some 13) (v := ?_) rfl ?_ ?_
      rotate_left
      · intro w hSw; (try dsimp only at hSw); go_simp; (try with_reducible rfl)
      try simp only [Act.put, List.setIfInBounds_toArray, List.set_cons_zero, List.set_cons_succ]
      refine tkW 2 (some 14) (v := ?_) rfl ?_ ?_
      rotate_left
      · intro w hSw; (try dsimp only at hSw); go_simp; (try with_reducible rfl)
      try simp only [Act.put, List.setIfInBounds_toArray, List.set_cons_zero, List.set_cons_succ]
      refine tkW 3 (some 15) (v := ?_) rfl ?_ ?_
      rotate_left
      · intro w hSw; (try dsimp only at hSw); go_simp; (try with_reducible rfl)
      try simp only [Act.put, List.setIfInBounds_toArray, List.set_cons_zero, List.set_cons_succ]
      refine rdH 4 (some 16) rfl (fun K hK => ?_)
      go_simp
      refine (HP.out x HXK.out _).mono ?_; rintro e w1 ⟨y, rfl, hy, hb1⟩; have HB1 := Lib.hid (HBW.out.below ((Below.refl _ wr).drew.trans hb1)); have HY := Lib.hid hy; have HS1 := Lib.hid hb1.size; clear hy; try go_simp
      refine hK.out _ _ ?_ (fun hHeld => ?_)
      · trivial
      clear hK K
      try simp only [Act.put, List.setIfInBounds_toArray, List.set_cons_zero, List.set_cons_succ]
      refine rdH 5 (some 17) rfl (fun K hK => ?_)
      go_simp
      refine (writeW_any B b _ (y) _ HB1.out (by have h1 := hFL.out k; have h2 := t_size x; have h3 : y.size = (Rc.t x).length := (by rw [← HY.out]; first | done | simp); have h4 := HXK.out; rw [List.length_append]; omega) (by have h1 := HKW.out.size; have h2 := HS1.out; have h3 : wr.drew.heap.size = wr.heap.size := rfl; omega)).mono ?_; rintro e w2 ⟨rfl, hbw2, hkw2⟩; have HBW2 := Lib.hid hbw2; have HKW2 := Lib.hid ((HKW.out.trans (KeptW.of_below ((Below.refl _ wr).drew.trans hb1))).trans hkw2); clear hbw2 hkw2; try go_simp
      refine hK.out _ _ ?_ (fun hHeld => ?_)
      · trivial
      clear hK K
      try simp only [Act.put, List.setIfInBounds_toArray, List.set_cons_zero, List.set_cons_succ]
      refine wpAnyH_done (by kernel_rfl) ?_ _
      clear hHeld
      go_wp2_with fail
      go_roundw
      case rel => exact ⟨k + 1, by omega, by go_num, by rw [HST.out, ← List.append_assoc]; have h := HBW2.out; rw [HY.out] at h; exact h, HKW2.out⟩
      case measure => simp [intOf]; omega
    · obtain rfl : k = xs.length := by omega
      go_wp2_with fail
      first | go_end0 | go_ret
      refine ⟨rfl, ?_, HKW.out⟩
      have h := HBW.out
      rw [List.take_length] at h
      exact h
end Go.Proofs.YthfglhafphfhiaaGreat
/- The walks over package rec: the three boxes of body, and what each put and texts does to them. -/
namespace Go.Proofs.YthfglhafphfhiaaGreat
open Go.RowKit
/-- The boxes of body: the record, its form, the writer with its bytes. -/
structure Wr (w : World) (a f b : Nat) (R F : Array Value) (l : List UInt8) (u : World) : Prop where
  br : u.heap[a]? = some (.cells R 85 (0, 0))
  bf : u.heap[f]? = some (.cells F 149 (0, 0))
  wr : BldW (b + 1) b l u
  ab : a < b ∧ f < b
  low : w.heap.size ≤ a
  below : Below w.heap.size w u
theorem Wr.step {w u v : World} {a f b : Nat} {R F : Array Value} {l : List UInt8} (h : Wr w a f b R F l u) (hb : Below u.heap.size u v) : Wr w a f b R F l v :=
  ⟨blkOld h.br hb, blkOld h.bf hb, h.wr.below hb, h.ab, h.low, joinB h.below hb⟩
theorem Wr.turn {w u v : World} {a f b : Nat} {R F : Array Value} {l l' : List UInt8} (h : Wr w a f b R F l u) (hw : BldW (b + 1) b l' v) (hk : KeptW (b + 1) b u v) : Wr w a f b R F l' v :=
  ⟨hk.at_ h.br (by have := h.ab; omega) (by decide), hk.at_ h.bf (by have := h.ab; omega) (by decide), hw, h.ab, h.low, h.below.trans (hk.below (by have := h.ab; have := h.low; omega) (by have := h.ab; have := h.low; omega) h.below.size)⟩
theorem Wr.size {w u : World} {a f b : Nat} {R F : Array Value} {l : List UInt8} (h : Wr w a f b R F l u) : b + 1 ≤ u.heap.size := bldw_size h.wr
theorem Wr.put {w u : World} {a f b : Nat} {R F : Array Value} {l : List UInt8} (h : Wr w a f b R F l u) (size : Nat) (h8 : size ≤ 8) (xs : List Int) (hlen : l.length + xs.length * 8 ≤ 140737488355328) :
    Calls Tryz.prog 122 #[.pointer (some ⟨b, 0, none⟩), .int .i64 (size : Int), .slice (some ⟨u.heap.size, 0, none⟩) xs.length xs.length] (u.alloc (.cells (xs.map (Value.int .i64)).toArray 3)) fun e w' => e = .returned (.tuple #[]) ∧ Wr w a f b R F (l ++ xs.flatMap (fun n => Rc.p n size)) w' := by
  have h2 := h.step (allocB u (.cells (xs.map (Value.int .i64)).toArray 3))
  refine (wput_any (b + 1) b u.heap.size l size h8 xs _ h2.wr h2.size (heap_alloc_new u _) (by have := h.size; omega) hlen).mono ?_
  rintro e w' ⟨rfl, h3, h4⟩
  exact ⟨rfl, h2.turn h3 h4⟩
theorem Wr.put1 {w u : World} {a f b : Nat} {R F : Array Value} {l : List UInt8} (h : Wr w a f b R F l u) (size : Nat) (h8 : size ≤ 8) (x : Int) (hlen : l.length + 8 ≤ 140737488355328) :
    Calls Tryz.prog 122 #[.pointer (some ⟨b, 0, none⟩), .int .i64 (size : Int), .slice (some ⟨u.heap.size, 0, none⟩) 1 1] (u.alloc (.cells #[.int .i64 x] 3)) fun e w' => e = .returned (.tuple #[]) ∧ Wr w a f b R F (l ++ Rc.p x size) w' := by
  refine (h.put size h8 [x] (by simpa using hlen)).mono ?_
  rintro e w' ⟨rfl, h3⟩
  exact ⟨rfl, by simpa using h3⟩
theorem Wr.put2 {w u : World} {a f b : Nat} {R F : Array Value} {l : List UInt8} (h : Wr w a f b R F l u) (size : Nat) (h8 : size ≤ 8) (x y : Int) (hlen : l.length + 16 ≤ 140737488355328) :
    Calls Tryz.prog 122 #[.pointer (some ⟨b, 0, none⟩), .int .i64 (size : Int), .slice (some ⟨u.heap.size, 0, none⟩) 2 2] (u.alloc (.cells #[.int .i64 x, .int .i64 y] 3)) fun e w' => e = .returned (.tuple #[]) ∧ Wr w a f b R F (l ++ (Rc.p x size ++ Rc.p y size)) w' := by
  refine (h.put size h8 [x, y] (by simpa using hlen)).mono ?_
  rintro e w' ⟨rfl, h3⟩
  exact ⟨rfl, by simpa using h3⟩
theorem Wr.put3 {w u : World} {a f b : Nat} {R F : Array Value} {l : List UInt8} (h : Wr w a f b R F l u) (size : Nat) (h8 : size ≤ 8) (x y z : Int) (hlen : l.length + 24 ≤ 140737488355328) :
    Calls Tryz.prog 122 #[.pointer (some ⟨b, 0, none⟩), .int .i64 (size : Int), .slice (some ⟨u.heap.size, 0, none⟩) 3 3] (u.alloc (.cells #[.int .i64 x, .int .i64 y, .int .i64 z] 3)) fun e w' => e = .returned (.tuple #[]) ∧ Wr w a f b R F (l ++ (Rc.p x size ++ (Rc.p y size ++ Rc.p z size))) w' := by
  refine (h.put size h8 [x, y, z] (by simpa using hlen)).mono ?_
  rintro e w' ⟨rfl, h3⟩
  exact ⟨rfl, by simpa using h3⟩
theorem Wr.texts {w u : World} {a f b : Nat} {R F : Array Value} {l : List UInt8} (h : Wr w a f b R F l u) (xs : List ByteArray) (hx : ∀ s ∈ xs, s.size ≤ 65535) (hlen : l.length + xs.length * 65537 ≤ 140737488355328) :
    Calls Tryz.prog 123 #[.pointer (some ⟨b, 0, none⟩), .slice (some ⟨u.heap.size, 0, none⟩) xs.length xs.length] (u.alloc (.cells (xs.map Value.string).toArray 9)) fun e w' => e = .returned (.tuple #[]) ∧ Wr w a f b R F (l ++ xs.flatMap Rc.t) w' := by
  have h2 := h.step (allocB u (.cells (xs.map Value.string).toArray 9))
  refine (wtexts_any (b + 1) b u.heap.size l xs hx _ h2.wr h2.size (heap_alloc_new u _) (by have := h.size; omega) hlen).mono ?_
  rintro e w' ⟨rfl, h3, h4⟩
  exact ⟨rfl, h2.turn h3 h4⟩
theorem Wr.text1 {w u : World} {a f b : Nat} {R F : Array Value} {l : List UInt8} (h : Wr w a f b R F l u) (x : ByteArray) (hx : x.size ≤ 65535) (hlen : l.length + 65537 ≤ 140737488355328) :
    Calls Tryz.prog 123 #[.pointer (some ⟨b, 0, none⟩), .slice (some ⟨u.heap.size, 0, none⟩) 1 1] (u.alloc (.cells #[.string x] 9)) fun e w' => e = .returned (.tuple #[]) ∧ Wr w a f b R F (l ++ Rc.t x) w' := by
  refine (h.texts [x] (by simpa using hx) (by simpa using hlen)).mono ?_
  rintro e w' ⟨rfl, h3⟩
  exact ⟨rfl, by simpa using h3⟩
theorem Wr.text2 {w u : World} {a f b : Nat} {R F : Array Value} {l : List UInt8} (h : Wr w a f b R F l u) (x y : ByteArray) (hx : x.size ≤ 65535) (hy : y.size ≤ 65535) (hlen : l.length + 131074 ≤ 140737488355328) :
    Calls Tryz.prog 123 #[.pointer (some ⟨b, 0, none⟩), .slice (some ⟨u.heap.size, 0, none⟩) 2 2] (u.alloc (.cells #[.string x, .string y] 9)) fun e w' => e = .returned (.tuple #[]) ∧ Wr w a f b R F (l ++ (Rc.t x ++ Rc.t y)) w' := by
  refine (h.texts [x, y] (by simpa using ⟨hx, hy⟩) (by simpa using hlen)).mono ?_
  rintro e w' ⟨rfl, h3⟩
  exact ⟨rfl, by simpa using h3⟩
theorem Wr.done {w u : World} {a f b : Nat} {R F : Array Value} {l : List UInt8} (h : Wr w a f b R F l u) (h0 : l ≠ []) :
    Calls Tryz.prog 74 #[.pointer (some ⟨b, 0, none⟩)] u fun e w' => e = .returned (.string ⟨l.toArray⟩) ∧ Below w.heap.size w w' := by
  refine (stringW_any (b + 1) b l u h.wr h0).mono ?_
  rintro e w' ⟨rfl, hk⟩
  exact ⟨rfl, (h.turn (h.wr) (KeptW.refl _ _ _)).below.trans (hk.below (by have := h.ab; have := h.low; omega) (by have := h.ab; have := h.low; omega) h.below.size)⟩
theorem wr_new {w w1 : World} {R F : Array Value} (hb1 : Below (w.alloc (.cells R 85)).heap.size (w.alloc (.cells R 85)) w1) :
    Wr w w.heap.size w1.heap.size (w1.heap.size + 1) R F [] ((w1.alloc (.cells F 149)).alloc (.cells #[.pointer none, .slice none 0 0] 160)) := by
  have h1 : Below w.heap.size w w1 := joinB (allocB _ _) hb1
  have hs1 := hb1.size
  simp at hs1
  refine ⟨?_, new21 _ _ _, ?_, ⟨by omega, by omega⟩, Nat.le_refl _, pastAlloc (pastAlloc h1)⟩
  · exact blkOld (blkNew hb1) (pastAlloc (allocB _ _))
  · refine BldW.fresh _ _ _ (Nat.lt_succ_self _) ?_
    have := heap_alloc_new (w1.alloc (.cells F 149)) (.cells #[.pointer none, .slice none 0 0] 160)
    simpa using this
end Go.Proofs.YthfglhafphfhiaaGreat
/- The walk over package rec: body, of every kind but the checkpoint's. -/
namespace Go.Proofs.YthfglhafphfhiaaGreat
open Go.RowKit
set_option maxRecDepth 100000 in
set_option maxHeartbeats 2000000 in
theorem body_bare (kind : Int) (hk : kind = 1 ∨ kind = 5 ∨ kind = 6 ∨ kind = 7) (lsn prev txn page next nu ok os how root ep es : Int) (oo on ek : ByteArray) (ts : List Rc.TxnAt) (ds : List Rc.DirtyAt) (T D : Value) (_zo : oo.size ≤ 65535) (_zn : on.size ≤ 65535) (_ze : ek.size ≤ 65535) (w : World) :
    Calls Tryz.prog 104 #[.agg #[.int .i64 lsn, .int .i64 prev, .int .i64 txn, .int .i64 kind, .int .i64 page, .int .i64 next, .int .i64 nu, .int .i64 ok, .int .i64 os, .string oo, .string on, .int .i64 how, .int .i64 root, .string ek, .int .i64 ep, .int .i64 es, T, D]] w fun e w' => e = .returned (.string ⟨(Rc.bodyB ⟨lsn, prev, txn, kind, page, next, nu, ⟨ok, os, oo, on⟩, how, root, ⟨ek, ep, es⟩, ts, ds⟩).toArray⟩) ∧ Below w.heap.size w w' := by
  have HOF := Lib.hid (fun W => of_any kind W)
  rw [show ofV kind = .tuple #[formV false false false false true, .bool true] from by rcases hk with rfl | rfl | rfl | rfl <;> rfl] at HOF
  have HBB := Lib.hid (show Rc.bodyB ⟨lsn, prev, txn, kind, page, next, nu, ⟨ok, os, oo, on⟩, how, root, ⟨ek, ep, es⟩, ts, ds⟩ = Rc.headB ⟨lsn, prev, txn, kind, page, next, nu, ⟨ok, os, oo, on⟩, how, root, ⟨ek, ep, es⟩, ts, ds⟩ ++ [] from by unfold Rc.bodyB; congr 1; unfold Rc.restB; simp only; rw [if_neg (by omega), if_neg (by omega), if_neg (by omega), if_neg (by omega), if_neg (by omega)])
  clear hk
  generalize Rc.bodyB ⟨lsn, prev, txn, kind, page, next, nu, ⟨ok, os, oo, on⟩, how, root, ⟨ek, ep, es⟩, ts, ds⟩ = bb at HBB ⊢
  go_enter Tryz.func104, Tryz.ntmps104
  go_upto_region 3 with ((go_at_call 112; (with_reducible refine (HOF.out _).mono ?_); rintro e w1 ⟨rfl, hb1⟩))
  have H0 := Lib.hid (wr_new (R := #[.int .i64 lsn, .int .i64 prev, .int .i64 txn, .int .i64 kind, .int .i64 page, .int .i64 next, .int .i64 nu, .int .i64 ok, .int .i64 os, .string oo, .string on, .int .i64 how, .int .i64 root, .string ek, .int .i64 ep, .int .i64 es, T, D]) (F := #[.bool false, .bool false, .bool false, .bool false, .bool true]) hb1)
  obtain ⟨V, hV⟩ : ∃ V, V = (w1.alloc (.cells #[.bool false, .bool false, .bool false, .bool false, .bool true] 149)).alloc (.cells #[.pointer none, .slice none 0 0] 160) := ⟨_, rfl⟩
  rw [← hV] at H0 ⊢
  clear hV
  have hR0 := blkCell H0.out.br
  have hF0 := blkCell H0.out.bf
  clear hb1 HOF
  go_upto_region 4 with ((go_at_call 122; refine (H0.out.put1 1 (by omega) kind (by simp only [List.length_nil]; omega)).mono ?_; rintro e v1 ⟨rfl, hx⟩; have H1 := Lib.hid hx; clear hx; have hR1 := blkCell H1.out.br; have hF1 := blkCell H1.out.bf))
  clear hR0 hF0 H0
  go_upto_region 20 with ((go_at_call 122; refine (H1.out.put3 6 (by omega) lsn prev txn (by simp only [List.length_append, p_size, List.length_nil]; omega)).mono ?_; rintro e v2 ⟨rfl, hx⟩; have H2 := Lib.hid hx; clear hx; have hR2 := blkCell H2.out.br; have hF2 := blkCell H2.out.bf))
  clear hR1 hF1 H1
  go_wp2_with ((go_at_call 74; refine (H2.out.done (by intro h; have := congrArg List.length h; simp only [List.length_append, p_size, List.length_nil] at this; omega)).mono ?_; rintro e w9 ⟨rfl, hb9⟩))
  go_ret
  refine ⟨?_, hb9⟩
  rw [HBB.out]
  simp [Rc.headB]
set_option maxRecDepth 100000 in
set_option maxHeartbeats 2000000 in
theorem body_nest (lsn prev txn page next nu ok os how root ep es : Int) (oo on ek : ByteArray) (ts : List Rc.TxnAt) (ds : List Rc.DirtyAt) (T D : Value) (_zo : oo.size ≤ 65535) (_zn : on.size ≤ 65535) (_ze : ek.size ≤ 65535) (w : World) :
    Calls Tryz.prog 104 #[.agg #[.int .i64 lsn, .int .i64 prev, .int .i64 txn, .int .i64 4, .int .i64 page, .int .i64 next, .int .i64 nu, .int .i64 ok, .int .i64 os, .string oo, .string on, .int .i64 how, .int .i64 root, .string ek, .int .i64 ep, .int .i64 es, T, D]] w fun e w' => e = .returned (.string ⟨(Rc.bodyB ⟨lsn, prev, txn, 4, page, next, nu, ⟨ok, os, oo, on⟩, how, root, ⟨ek, ep, es⟩, ts, ds⟩).toArray⟩) ∧ Below w.heap.size w w' := by
  have HOF := Lib.hid (fun W => of_any 4 W)
  rw [show ofV 4 = .tuple #[formV false false true false true, .bool true] from rfl] at HOF
  have HBB := Lib.hid (show Rc.bodyB ⟨lsn, prev, txn, 4, page, next, nu, ⟨ok, os, oo, on⟩, how, root, ⟨ek, ep, es⟩, ts, ds⟩ = Rc.headB ⟨lsn, prev, txn, 4, page, next, nu, ⟨ok, os, oo, on⟩, how, root, ⟨ek, ep, es⟩, ts, ds⟩ ++ Rc.restB ⟨lsn, prev, txn, 4, page, next, nu, ⟨ok, os, oo, on⟩, how, root, ⟨ek, ep, es⟩, ts, ds⟩ from rfl)
  rw [Rc.restB_4 rfl] at HBB
  generalize Rc.bodyB ⟨lsn, prev, txn, 4, page, next, nu, ⟨ok, os, oo, on⟩, how, root, ⟨ek, ep, es⟩, ts, ds⟩ = bb at HBB ⊢
  go_enter Tryz.func104, Tryz.ntmps104
  go_upto_region 3 with ((go_at_call 112; (with_reducible refine (HOF.out _).mono ?_); rintro e w1 ⟨rfl, hb1⟩))
  have H0 := Lib.hid (wr_new (R := #[.int .i64 lsn, .int .i64 prev, .int .i64 txn, .int .i64 4, .int .i64 page, .int .i64 next, .int .i64 nu, .int .i64 ok, .int .i64 os, .string oo, .string on, .int .i64 how, .int .i64 root, .string ek, .int .i64 ep, .int .i64 es, T, D]) (F := #[.bool false, .bool false, .bool true, .bool false, .bool true]) hb1)
  obtain ⟨V, hV⟩ : ∃ V, V = (w1.alloc (.cells #[.bool false, .bool false, .bool true, .bool false, .bool true] 149)).alloc (.cells #[.pointer none, .slice none 0 0] 160) := ⟨_, rfl⟩
  rw [← hV] at H0 ⊢
  clear hV
  have hR0 := blkCell H0.out.br
  have hF0 := blkCell H0.out.bf
  clear hb1 HOF
  go_upto_region 4 with ((go_at_call 122; refine (H0.out.put1 1 (by omega) 4 (by simp only [List.length_nil]; omega)).mono ?_; rintro e v1 ⟨rfl, hx⟩; have H1 := Lib.hid hx; clear hx; have hR1 := blkCell H1.out.br; have hF1 := blkCell H1.out.bf))
  clear hR0 hF0 H0
  go_upto_region 17 with ((go_at_call 122; refine (H1.out.put3 6 (by omega) lsn prev txn (by simp only [List.length_append, p_size, List.length_nil]; omega)).mono ?_; rintro e v2 ⟨rfl, hx⟩; have H2 := Lib.hid hx; clear hx; have hR2 := blkCell H2.out.br; have hF2 := blkCell H2.out.bf))
  clear hR1 hF1 H1
  go_upto_region 20 with ((go_at_call 122; refine (H2.out.put1 6 (by omega) next (by simp only [List.length_append, p_size, List.length_nil]; omega)).mono ?_; rintro e v3 ⟨rfl, hx⟩; have H3 := Lib.hid hx; clear hx; have hR3 := blkCell H3.out.br; have hF3 := blkCell H3.out.bf))
  clear hR2 hF2 H2
  go_wp2_with ((go_at_call 74; refine (H3.out.done (by intro h; have := congrArg List.length h; simp only [List.length_append, p_size, List.length_nil] at this; omega)).mono ?_; rintro e w9 ⟨rfl, hb9⟩))
  go_ret
  refine ⟨?_, hb9⟩
  rw [HBB.out]
  simp [Rc.headB, List.append_assoc]
set_option maxRecDepth 100000 in
set_option maxHeartbeats 2000000 in
theorem body_image (lsn prev txn page next nu ok os how root ep es : Int) (oo on ek : ByteArray) (ts : List Rc.TxnAt) (ds : List Rc.DirtyAt) (T D : Value) (zo : oo.size ≤ 65535) (zn : on.size ≤ 65535) (_ze : ek.size ≤ 65535) (w : World) :
    Calls Tryz.prog 104 #[.agg #[.int .i64 lsn, .int .i64 prev, .int .i64 txn, .int .i64 8, .int .i64 page, .int .i64 next, .int .i64 nu, .int .i64 ok, .int .i64 os, .string oo, .string on, .int .i64 how, .int .i64 root, .string ek, .int .i64 ep, .int .i64 es, T, D]] w fun e w' => e = .returned (.string ⟨(Rc.bodyB ⟨lsn, prev, txn, 8, page, next, nu, ⟨ok, os, oo, on⟩, how, root, ⟨ek, ep, es⟩, ts, ds⟩).toArray⟩) ∧ Below w.heap.size w w' := by
  have HOF := Lib.hid (fun W => of_any 8 W)
  rw [show ofV 8 = .tuple #[formV true false false false true, .bool true] from rfl] at HOF
  have HBB := Lib.hid (show Rc.bodyB ⟨lsn, prev, txn, 8, page, next, nu, ⟨ok, os, oo, on⟩, how, root, ⟨ek, ep, es⟩, ts, ds⟩ = Rc.headB ⟨lsn, prev, txn, 8, page, next, nu, ⟨ok, os, oo, on⟩, how, root, ⟨ek, ep, es⟩, ts, ds⟩ ++ Rc.restB ⟨lsn, prev, txn, 8, page, next, nu, ⟨ok, os, oo, on⟩, how, root, ⟨ek, ep, es⟩, ts, ds⟩ from rfl)
  rw [Rc.restB_8 rfl] at HBB
  generalize Rc.bodyB ⟨lsn, prev, txn, 8, page, next, nu, ⟨ok, os, oo, on⟩, how, root, ⟨ek, ep, es⟩, ts, ds⟩ = bb at HBB ⊢
  go_enter Tryz.func104, Tryz.ntmps104
  go_upto_region 3 with ((go_at_call 112; (with_reducible refine (HOF.out _).mono ?_); rintro e w1 ⟨rfl, hb1⟩))
  have H0 := Lib.hid (wr_new (R := #[.int .i64 lsn, .int .i64 prev, .int .i64 txn, .int .i64 8, .int .i64 page, .int .i64 next, .int .i64 nu, .int .i64 ok, .int .i64 os, .string oo, .string on, .int .i64 how, .int .i64 root, .string ek, .int .i64 ep, .int .i64 es, T, D]) (F := #[.bool true, .bool false, .bool false, .bool false, .bool true]) hb1)
  obtain ⟨V, hV⟩ : ∃ V, V = (w1.alloc (.cells #[.bool true, .bool false, .bool false, .bool false, .bool true] 149)).alloc (.cells #[.pointer none, .slice none 0 0] 160) := ⟨_, rfl⟩
  rw [← hV] at H0 ⊢
  clear hV
  have hR0 := blkCell H0.out.br
  have hF0 := blkCell H0.out.bf
  clear hb1 HOF
  go_upto_region 4 with ((go_at_call 122; refine (H0.out.put1 1 (by omega) 8 (by simp only [List.length_nil]; omega)).mono ?_; rintro e v1 ⟨rfl, hx⟩; have H1 := Lib.hid hx; clear hx; have hR1 := blkCell H1.out.br; have hF1 := blkCell H1.out.bf))
  clear hR0 hF0 H0
  go_upto_region 6 with ((go_at_call 122; refine (H1.out.put3 6 (by omega) lsn prev txn (by simp only [List.length_append, p_size, List.length_nil]; omega)).mono ?_; rintro e v2 ⟨rfl, hx⟩; have H2 := Lib.hid hx; clear hx; have hR2 := blkCell H2.out.br; have hF2 := blkCell H2.out.bf))
  clear hR1 hF1 H1
  go_upto_region 7 with ((go_at_call 122; refine (H2.out.put1 3 (by omega) page (by simp only [List.length_append, p_size, List.length_nil]; omega)).mono ?_; rintro e v3 ⟨rfl, hx⟩; have H3 := Lib.hid hx; clear hx; have hR3 := blkCell H3.out.br; have hF3 := blkCell H3.out.bf))
  clear hR2 hF2 H2
  go_upto_region 8 with ((go_at_call 122; refine (H3.out.put1 1 (by omega) ok (by simp only [List.length_append, p_size, List.length_nil]; omega)).mono ?_; rintro e v4 ⟨rfl, hx⟩; have H4 := Lib.hid hx; clear hx; have hR4 := blkCell H4.out.br; have hF4 := blkCell H4.out.bf))
  clear hR3 hF3 H3
  go_upto_region 9 with ((go_at_call 122; refine (H4.out.put1 2 (by omega) os (by simp only [List.length_append, p_size, List.length_nil]; omega)).mono ?_; rintro e v5 ⟨rfl, hx⟩; have H5 := Lib.hid hx; clear hx; have hR5 := blkCell H5.out.br; have hF5 := blkCell H5.out.bf))
  clear hR4 hF4 H4
  go_upto_region 20 with ((go_at_call 123; refine (H5.out.text2 oo on zo zn (by simp only [List.length_append, p_size, List.length_nil]; omega)).mono ?_; rintro e v6 ⟨rfl, hx⟩; have H6 := Lib.hid hx; clear hx; have hR6 := blkCell H6.out.br; have hF6 := blkCell H6.out.bf))
  clear hR5 hF5 H5
  go_wp2_with ((go_at_call 74; refine (H6.out.done (by intro h; have := congrArg List.length h; simp only [List.length_append, p_size, List.length_nil] at this; omega)).mono ?_; rintro e w9 ⟨rfl, hb9⟩))
  go_ret
  refine ⟨?_, hb9⟩
  rw [HBB.out]
  simp [Rc.headB, Rc.opB, List.append_assoc]
set_option maxRecDepth 100000 in
set_option maxHeartbeats 2000000 in
theorem body_clr (lsn prev txn page next nu ok os how root ep es : Int) (oo on ek : ByteArray) (ts : List Rc.TxnAt) (ds : List Rc.DirtyAt) (T D : Value) (zo : oo.size ≤ 65535) (zn : on.size ≤ 65535) (_ze : ek.size ≤ 65535) (w : World) :
    Calls Tryz.prog 104 #[.agg #[.int .i64 lsn, .int .i64 prev, .int .i64 txn, .int .i64 3, .int .i64 page, .int .i64 next, .int .i64 nu, .int .i64 ok, .int .i64 os, .string oo, .string on, .int .i64 how, .int .i64 root, .string ek, .int .i64 ep, .int .i64 es, T, D]] w fun e w' => e = .returned (.string ⟨(Rc.bodyB ⟨lsn, prev, txn, 3, page, next, nu, ⟨ok, os, oo, on⟩, how, root, ⟨ek, ep, es⟩, ts, ds⟩).toArray⟩) ∧ Below w.heap.size w w' := by
  have HOF := Lib.hid (fun W => of_any 3 W)
  rw [show ofV 3 = .tuple #[formV true false true false true, .bool true] from rfl] at HOF
  have HBB := Lib.hid (show Rc.bodyB ⟨lsn, prev, txn, 3, page, next, nu, ⟨ok, os, oo, on⟩, how, root, ⟨ek, ep, es⟩, ts, ds⟩ = Rc.headB ⟨lsn, prev, txn, 3, page, next, nu, ⟨ok, os, oo, on⟩, how, root, ⟨ek, ep, es⟩, ts, ds⟩ ++ Rc.restB ⟨lsn, prev, txn, 3, page, next, nu, ⟨ok, os, oo, on⟩, how, root, ⟨ek, ep, es⟩, ts, ds⟩ from rfl)
  rw [Rc.restB_3 rfl] at HBB
  generalize Rc.bodyB ⟨lsn, prev, txn, 3, page, next, nu, ⟨ok, os, oo, on⟩, how, root, ⟨ek, ep, es⟩, ts, ds⟩ = bb at HBB ⊢
  go_enter Tryz.func104, Tryz.ntmps104
  go_upto_region 3 with ((go_at_call 112; (with_reducible refine (HOF.out _).mono ?_); rintro e w1 ⟨rfl, hb1⟩))
  have H0 := Lib.hid (wr_new (R := #[.int .i64 lsn, .int .i64 prev, .int .i64 txn, .int .i64 3, .int .i64 page, .int .i64 next, .int .i64 nu, .int .i64 ok, .int .i64 os, .string oo, .string on, .int .i64 how, .int .i64 root, .string ek, .int .i64 ep, .int .i64 es, T, D]) (F := #[.bool true, .bool false, .bool true, .bool false, .bool true]) hb1)
  obtain ⟨V, hV⟩ : ∃ V, V = (w1.alloc (.cells #[.bool true, .bool false, .bool true, .bool false, .bool true] 149)).alloc (.cells #[.pointer none, .slice none 0 0] 160) := ⟨_, rfl⟩
  rw [← hV] at H0 ⊢
  clear hV
  have hR0 := blkCell H0.out.br
  have hF0 := blkCell H0.out.bf
  clear hb1 HOF
  go_upto_region 4 with ((go_at_call 122; refine (H0.out.put1 1 (by omega) 3 (by simp only [List.length_nil]; omega)).mono ?_; rintro e v1 ⟨rfl, hx⟩; have H1 := Lib.hid hx; clear hx; have hR1 := blkCell H1.out.br; have hF1 := blkCell H1.out.bf))
  clear hR0 hF0 H0
  go_upto_region 6 with ((go_at_call 122; refine (H1.out.put3 6 (by omega) lsn prev txn (by simp only [List.length_append, p_size, List.length_nil]; omega)).mono ?_; rintro e v2 ⟨rfl, hx⟩; have H2 := Lib.hid hx; clear hx; have hR2 := blkCell H2.out.br; have hF2 := blkCell H2.out.bf))
  clear hR1 hF1 H1
  go_upto_region 7 with ((go_at_call 122; refine (H2.out.put1 3 (by omega) page (by simp only [List.length_append, p_size, List.length_nil]; omega)).mono ?_; rintro e v3 ⟨rfl, hx⟩; have H3 := Lib.hid hx; clear hx; have hR3 := blkCell H3.out.br; have hF3 := blkCell H3.out.bf))
  clear hR2 hF2 H2
  go_upto_region 8 with ((go_at_call 122; refine (H3.out.put1 1 (by omega) ok (by simp only [List.length_append, p_size, List.length_nil]; omega)).mono ?_; rintro e v4 ⟨rfl, hx⟩; have H4 := Lib.hid hx; clear hx; have hR4 := blkCell H4.out.br; have hF4 := blkCell H4.out.bf))
  clear hR3 hF3 H3
  go_upto_region 9 with ((go_at_call 122; refine (H4.out.put1 2 (by omega) os (by simp only [List.length_append, p_size, List.length_nil]; omega)).mono ?_; rintro e v5 ⟨rfl, hx⟩; have H5 := Lib.hid hx; clear hx; have hR5 := blkCell H5.out.br; have hF5 := blkCell H5.out.bf))
  clear hR4 hF4 H4
  go_upto_region 17 with ((go_at_call 123; refine (H5.out.text2 oo on zo zn (by simp only [List.length_append, p_size, List.length_nil]; omega)).mono ?_; rintro e v6 ⟨rfl, hx⟩; have H6 := Lib.hid hx; clear hx; have hR6 := blkCell H6.out.br; have hF6 := blkCell H6.out.bf))
  clear hR5 hF5 H5
  go_upto_region 20 with ((go_at_call 122; refine (H6.out.put1 6 (by omega) next (by simp only [List.length_append, p_size, t_size, List.length_nil]; omega)).mono ?_; rintro e v7 ⟨rfl, hx⟩; have H7 := Lib.hid hx; clear hx; have hR7 := blkCell H7.out.br; have hF7 := blkCell H7.out.bf))
  clear hR6 hF6 H6
  go_wp2_with ((go_at_call 74; refine (H7.out.done (by intro h; have := congrArg List.length h; simp only [List.length_append, p_size, List.length_nil] at this; omega)).mono ?_; rintro e w9 ⟨rfl, hb9⟩))
  go_ret
  refine ⟨?_, hb9⟩
  rw [HBB.out]
  simp [Rc.headB, Rc.opB, List.append_assoc]
set_option maxRecDepth 100000 in
set_option maxHeartbeats 2000000 in
theorem body_change (lsn prev txn page next nu ok os how root ep es : Int) (oo on ek : ByteArray) (ts : List Rc.TxnAt) (ds : List Rc.DirtyAt) (T D : Value) (zo : oo.size ≤ 65535) (zn : on.size ≤ 65535) (ze : ek.size ≤ 65535) (w : World) :
    Calls Tryz.prog 104 #[.agg #[.int .i64 lsn, .int .i64 prev, .int .i64 txn, .int .i64 2, .int .i64 page, .int .i64 next, .int .i64 nu, .int .i64 ok, .int .i64 os, .string oo, .string on, .int .i64 how, .int .i64 root, .string ek, .int .i64 ep, .int .i64 es, T, D]] w fun e w' => e = .returned (.string ⟨(Rc.bodyB ⟨lsn, prev, txn, 2, page, next, nu, ⟨ok, os, oo, on⟩, how, root, ⟨ek, ep, es⟩, ts, ds⟩).toArray⟩) ∧ Below w.heap.size w w' := by
  have HOF := Lib.hid (fun W => of_any 2 W)
  rw [show ofV 2 = .tuple #[formV true true false false true, .bool true] from rfl] at HOF
  have HBB := Lib.hid (show Rc.bodyB ⟨lsn, prev, txn, 2, page, next, nu, ⟨ok, os, oo, on⟩, how, root, ⟨ek, ep, es⟩, ts, ds⟩ = Rc.headB ⟨lsn, prev, txn, 2, page, next, nu, ⟨ok, os, oo, on⟩, how, root, ⟨ek, ep, es⟩, ts, ds⟩ ++ Rc.restB ⟨lsn, prev, txn, 2, page, next, nu, ⟨ok, os, oo, on⟩, how, root, ⟨ek, ep, es⟩, ts, ds⟩ from rfl)
  rw [Rc.restB_2 rfl] at HBB
  generalize Rc.bodyB ⟨lsn, prev, txn, 2, page, next, nu, ⟨ok, os, oo, on⟩, how, root, ⟨ek, ep, es⟩, ts, ds⟩ = bb at HBB ⊢
  go_enter Tryz.func104, Tryz.ntmps104
  go_upto_region 3 with ((go_at_call 112; (with_reducible refine (HOF.out _).mono ?_); rintro e w1 ⟨rfl, hb1⟩))
  have H0 := Lib.hid (wr_new (R := #[.int .i64 lsn, .int .i64 prev, .int .i64 txn, .int .i64 2, .int .i64 page, .int .i64 next, .int .i64 nu, .int .i64 ok, .int .i64 os, .string oo, .string on, .int .i64 how, .int .i64 root, .string ek, .int .i64 ep, .int .i64 es, T, D]) (F := #[.bool true, .bool true, .bool false, .bool false, .bool true]) hb1)
  obtain ⟨V, hV⟩ : ∃ V, V = (w1.alloc (.cells #[.bool true, .bool true, .bool false, .bool false, .bool true] 149)).alloc (.cells #[.pointer none, .slice none 0 0] 160) := ⟨_, rfl⟩
  rw [← hV] at H0 ⊢
  clear hV
  have hR0 := blkCell H0.out.br
  have hF0 := blkCell H0.out.bf
  clear hb1 HOF
  go_upto_region 4 with ((go_at_call 122; refine (H0.out.put1 1 (by omega) 2 (by simp only [List.length_nil]; omega)).mono ?_; rintro e v1 ⟨rfl, hx⟩; have H1 := Lib.hid hx; clear hx; have hR1 := blkCell H1.out.br; have hF1 := blkCell H1.out.bf))
  clear hR0 hF0 H0
  go_upto_region 6 with ((go_at_call 122; refine (H1.out.put3 6 (by omega) lsn prev txn (by simp only [List.length_append, p_size, List.length_nil]; omega)).mono ?_; rintro e v2 ⟨rfl, hx⟩; have H2 := Lib.hid hx; clear hx; have hR2 := blkCell H2.out.br; have hF2 := blkCell H2.out.bf))
  clear hR1 hF1 H1
  go_upto_region 7 with ((go_at_call 122; refine (H2.out.put1 3 (by omega) page (by simp only [List.length_append, p_size, List.length_nil]; omega)).mono ?_; rintro e v3 ⟨rfl, hx⟩; have H3 := Lib.hid hx; clear hx; have hR3 := blkCell H3.out.br; have hF3 := blkCell H3.out.bf))
  clear hR2 hF2 H2
  go_upto_region 8 with ((go_at_call 122; refine (H3.out.put1 1 (by omega) ok (by simp only [List.length_append, p_size, List.length_nil]; omega)).mono ?_; rintro e v4 ⟨rfl, hx⟩; have H4 := Lib.hid hx; clear hx; have hR4 := blkCell H4.out.br; have hF4 := blkCell H4.out.bf))
  clear hR3 hF3 H3
  go_upto_region 9 with ((go_at_call 122; refine (H4.out.put1 2 (by omega) os (by simp only [List.length_append, p_size, List.length_nil]; omega)).mono ?_; rintro e v5 ⟨rfl, hx⟩; have H5 := Lib.hid hx; clear hx; have hR5 := blkCell H5.out.br; have hF5 := blkCell H5.out.bf))
  clear hR4 hF4 H4
  go_upto_region 11 with ((go_at_call 123; refine (H5.out.text2 oo on zo zn (by simp only [List.length_append, p_size, List.length_nil]; omega)).mono ?_; rintro e v6 ⟨rfl, hx⟩; have H6 := Lib.hid hx; clear hx; have hR6 := blkCell H6.out.br; have hF6 := blkCell H6.out.bf))
  clear hR5 hF5 H5
  go_upto_region 12 with ((go_at_call 122; refine (H6.out.put1 1 (by omega) how (by simp only [List.length_append, p_size, t_size, List.length_nil]; omega)).mono ?_; rintro e v7 ⟨rfl, hx⟩; have H7 := Lib.hid hx; clear hx; have hR7 := blkCell H7.out.br; have hF7 := blkCell H7.out.bf))
  clear hR6 hF6 H6
  by_cases hh : how = 1
  · subst hh
    go_upto_region 20 with fail
    go_wp2_with ((go_at_call 74; refine (H7.out.done (by intro h; have := congrArg List.length h; simp only [List.length_append, p_size, List.length_nil] at this; omega)).mono ?_; rintro e w9 ⟨rfl, hb9⟩))
    go_ret
    refine ⟨?_, hb9⟩
    rw [HBB.out]
    simp [Rc.headB, Rc.opB, Rc.treeB, List.append_assoc]
  · have hh2 : (how != 1) = true := by simpa using hh
    have HH := Lib.hid hh
    clear hh
    go_upto_region 13 with fail
    go_upto_region 14 with ((go_at_call 122; refine (H7.out.put2 3 (by omega) root ep (by simp only [List.length_append, p_size, t_size, List.length_nil]; omega)).mono ?_; rintro e v8 ⟨rfl, hx⟩; have H8 := Lib.hid hx; clear hx; have hR8 := blkCell H8.out.br; have hF8 := blkCell H8.out.bf))
    clear hR7 hF7 H7
    go_upto_region 15 with ((go_at_call 122; refine (H8.out.put1 2 (by omega) es (by simp only [List.length_append, p_size, t_size, List.length_nil]; omega)).mono ?_; rintro e v9 ⟨rfl, hx⟩; have H9 := Lib.hid hx; clear hx; have hR9 := blkCell H9.out.br; have hF9 := blkCell H9.out.bf))
    clear hR8 hF8 H8
    go_upto_region 20 with ((go_at_call 123; refine (H9.out.text1 ek ze (by simp only [List.length_append, p_size, t_size, List.length_nil]; omega)).mono ?_; rintro e v10 ⟨rfl, hx⟩; have H10 := Lib.hid hx; clear hx; have hR10 := blkCell H10.out.br; have hF10 := blkCell H10.out.bf))
    clear hR9 hF9 H9
    go_wp2_with ((go_at_call 74; refine (H10.out.done (by intro h; have := congrArg List.length h; simp only [List.length_append, p_size, List.length_nil] at this; omega)).mono ?_; rintro e w9 ⟨rfl, hb9⟩))
    go_ret
    refine ⟨?_, hb9⟩
    rw [HBB.out]
    have hh3 := HH.out
    simp [hh3, Rc.headB, Rc.opB, Rc.treeB, List.append_assoc]
end Go.Proofs.YthfglhafphfhiaaGreat
