/- The walk over package log: Append. -/
import Derived.Test.YtojaagnfjenhoaaGs12
namespace Lg
theorem append_wrong {l : Lo} {r : Rc.Rec} (h : ¬ Rc.Right { r with lsn := l.end_ + 1 }) : appendD l r = (l, 0, 1) := by
  unfold appendD
  simp only
  rw [if_pos h]
theorem append_full {l : Lo} {r : Rc.Rec} (h : Rc.Right { r with lsn := l.end_ + 1 }) (h2 : l.n * 128 - ((putR { r with lsn := l.end_ + 1 }).length : Int) < l.end_) : appendD l r = (l, 0, 18) := by
  unfold appendD
  simp only
  rw [if_neg (fun hn => hn h), if_pos h2]
theorem append_ok {l : Lo} {r : Rc.Rec} (h : Rc.Right { r with lsn := l.end_ + 1 }) (h2 : ¬ l.n * 128 - ((putR { r with lsn := l.end_ + 1 }).length : Int) < l.end_) : appendD l r = ({ l with end_ := l.end_ + ((putR { r with lsn := l.end_ + 1 }).length : Int), tail := l.tail ++ ⟨(putR { r with lsn := l.end_ + 1 }).toArray⟩ }, l.end_ + 1, 0) := by
  unfold appendD
  simp only
  rw [if_neg (fun hn => hn h), if_neg h2]
end Lg
namespace Go.Proofs.Ytojaagnfjenhoaa
open Go.RowKit
theorem recput_yes (r : Rc.Rec) (hR : Rc.Right r) (A D : Option Addr) (c d : Nat) (w : World) (hr : RecR w r A c D d) :
    Calls Try.prog 25 #[recV r (.slice A r.txns.length c) (.slice D r.dirty.length d)] w fun e w' => e = .returned (.tuple #[.string ⟨(Lg.putR r).toArray⟩, .int .i64 0]) ∧ Below w.heap.size w w' := by
  refine (recput_any r A D c d w hr).mono ?_
  rintro e w' ⟨⟨x, h⟩, hb⟩
  rcases h with ⟨_, rfl, hx⟩ | ⟨h, _⟩
  · exact ⟨by rw [← hx], hb⟩
  · exact absurd hR h
theorem recput_no (r : Rc.Rec) (hR : ¬ Rc.Right r) (A D : Option Addr) (c d : Nat) (w : World) (hr : RecR w r A c D d) :
    Calls Try.prog 25 #[recV r (.slice A r.txns.length c) (.slice D r.dirty.length d)] w fun e w' => e = .returned (.tuple #[.string ⟨#[]⟩, .int .i64 1]) ∧ Below w.heap.size w w' := by
  refine (recput_any r A D c d w hr).mono ?_
  rintro e w' ⟨⟨x, h⟩, hb⟩
  rcases h with ⟨h, _⟩ | ⟨_, rfl⟩
  · exact absurd h hR
  · exact ⟨rfl, hb⟩
/-- What Append answers. -/
def AppOut (x : Lg.Lo × Int × Int) (w : World) (e : Ending) (w' : World) : Prop := e = .returned (.tuple #[logV x.1, .int .i64 x.2.1, .int .i64 x.2.2]) ∧ Below w.heap.size w w'
set_option maxRecDepth 100000 in
set_option maxHeartbeats 4000000 in
theorem append_any (l : Lg.Lo) (he0 : 0 ≤ l.end_) (he1 : l.end_ ≤ 1000000000) (hn0 : -1000000000 ≤ l.n) (hn1 : l.n ≤ 1000000000) (ht : l.tail.size ≤ 1000000000) (r : Rc.Rec) (A D : Option Addr) (c d : Nat) (w : World) (hr : RecR w r A c D d) :
    Calls Try.prog 13 #[logV l, recV r (.slice A r.txns.length c) (.slice D r.dirty.length d)] w (AppOut (Lg.appendD l r) w) := by
  have HPY := Lib.hid (fun hR W (hb : Below w.heap.size w W) => recput_yes { r with lsn := l.end_ + 1 } hR A D c d W ⟨hr.txns.below hb, hr.dirty.below hb, hr.small⟩)
  have HPN := Lib.hid (fun hR W (hb : Below w.heap.size w W) => recput_no { r with lsn := l.end_ + 1 } hR A D c d W ⟨hr.txns.below hb, hr.dirty.below hb, hr.small⟩)
  have HN := Lib.hid (@Lg.append_wrong l r)
  have HFU := Lib.hid (@Lg.append_full l r)
  have HOK := Lib.hid (@Lg.append_ok l r)
  generalize Lg.appendD l r = o at HN HFU HOK ⊢
  clear hr
  obtain ⟨fr, n, en, sf, tl⟩ := l
  obtain ⟨lsn, prev, txn, kind, page, next, nu, ⟨ok, os, oo, on⟩, how, root, ⟨ek, ep, es⟩, ts, ds⟩ := r
  dsimp only [recV, recA, logV] at HPY HPN HN HFU HOK he0 he1 hn0 hn1 ht ⊢
  have hw1 : IntKind.i64.wrap (en + 1) = en + 1 := IntWalk.i64_in _ (by omega)
  by_cases hR : Rc.Right ⟨en + 1, prev, txn, kind, page, next, nu, ⟨ok, os, oo, on⟩, how, root, ⟨ek, ep, es⟩, ts, ds⟩
  · have HP := Lib.hid (HPY.out hR)
    have HFU2 := Lib.hid (HFU.out hR)
    have HOK2 := Lib.hid (HOK.out hR)
    have hpl0 : (Lg.putR ⟨en + 1, prev, txn, kind, page, next, nu, ⟨ok, os, oo, on⟩, how, root, ⟨ek, ep, es⟩, ts, ds⟩).length ≤ 40008 := by rw [Lg.putR_len]; have := (Rc.bodyB_len hR).2; omega
    obtain ⟨x, hx⟩ : ∃ x : ByteArray, x = ⟨(Lg.putR ⟨en + 1, prev, txn, kind, page, next, nu, ⟨ok, os, oo, on⟩, how, root, ⟨ek, ep, es⟩, ts, ds⟩).toArray⟩ := ⟨_, rfl⟩
    have hxs : (Lg.putR ⟨en + 1, prev, txn, kind, page, next, nu, ⟨ok, os, oo, on⟩, how, root, ⟨ek, ep, es⟩, ts, ds⟩).length = x.size := by rw [hx]; show _ = ((Lg.putR ⟨en + 1, prev, txn, kind, page, next, nu, ⟨ok, os, oo, on⟩, how, root, ⟨ek, ep, es⟩, ts, ds⟩).toArray).size; simp
    rw [hxs] at HFU2 HOK2 hpl0
    rw [← hx] at HP HOK2
    have hpl := hpl0
    clear HPY HPN HN HFU HOK hR hx hxs hpl0
    go_enter Try.func13, Try.ntmps13
    go_upto_region 1 with fail
    have H0 := Lib.hid (show BxL w.heap.size w [(#[.int .i64 fr, .int .i64 n, .int .i64 en, .int .i64 sf, .string tl], 28), (#[.int .i64 lsn, .int .i64 prev, .int .i64 txn, .int .i64 kind, .int .i64 page, .int .i64 next, .int .i64 nu, .int .i64 ok, .int .i64 os, .string oo, .string on, .int .i64 how, .int .i64 root, .string ek, .int .i64 ep, .int .i64 es, .slice A ts.length c, .slice D ds.length d], 49), (#[.int .i64 0, .int .i64 0, .int .i64 0, .int .i64 0, .string ⟨#[]⟩], 28)] (((w.alloc (.cells #[.int .i64 fr, .int .i64 n, .int .i64 en, .int .i64 sf, .string tl] 28)).alloc (.cells #[.int .i64 lsn, .int .i64 prev, .int .i64 txn, .int .i64 kind, .int .i64 page, .int .i64 next, .int .i64 nu, .int .i64 ok, .int .i64 os, .string oo, .string on, .int .i64 how, .int .i64 root, .string ek, .int .i64 ep, .int .i64 es, .slice A ts.length c, .slice D ds.length d] 49)).alloc (.cells #[.int .i64 0, .int .i64 0, .int .i64 0, .int .i64 0, .string ⟨#[]⟩] 28)) from (((BxL.nil (Below.refl w.heap.size w)).new (by simp) #[.int .i64 fr, .int .i64 n, .int .i64 en, .int .i64 sf, .string tl] 28).new (by simp) #[.int .i64 lsn, .int .i64 prev, .int .i64 txn, .int .i64 kind, .int .i64 page, .int .i64 next, .int .i64 nu, .int .i64 ok, .int .i64 os, .string oo, .string on, .int .i64 how, .int .i64 root, .string ek, .int .i64 ep, .int .i64 es, .slice A ts.length c, .slice D ds.length d] 49).new (by simp) #[.int .i64 0, .int .i64 0, .int .i64 0, .int .i64 0, .string ⟨#[]⟩] 28)
    obtain ⟨W0, hW0⟩ : ∃ W, W = (((w.alloc (.cells #[.int .i64 fr, .int .i64 n, .int .i64 en, .int .i64 sf, .string tl] 28)).alloc (.cells #[.int .i64 lsn, .int .i64 prev, .int .i64 txn, .int .i64 kind, .int .i64 page, .int .i64 next, .int .i64 nu, .int .i64 ok, .int .i64 os, .string oo, .string on, .int .i64 how, .int .i64 root, .string ek, .int .i64 ep, .int .i64 es, .slice A ts.length c, .slice D ds.length d] 49)).alloc (.cells #[.int .i64 0, .int .i64 0, .int .i64 0, .int .i64 0, .string ⟨#[]⟩] 28)) := ⟨_, rfl⟩
    have hs0 : W0.heap.size = w.heap.size + 3 := by rw [hW0]; simp
    rw [← hW0] at H0 ⊢
    have hc0 := blkCell (H0.out.get 0 _ rfl)
    have hc1 := blkCell (H0.out.get 1 _ rfl)
    have hz1 := blkFrozen (H0.out.get 1 _ rfl)
    simp only [Nat.add_zero] at hc0
    clear hW0
    go_upto_region 2 with fail
    have H1 := Lib.hid (show BxL w.heap.size w [(#[.int .i64 fr, .int .i64 n, .int .i64 en, .int .i64 sf, .string tl], 28), (#[.int .i64 (en + 1), .int .i64 prev, .int .i64 txn, .int .i64 kind, .int .i64 page, .int .i64 next, .int .i64 nu, .int .i64 ok, .int .i64 os, .string oo, .string on, .int .i64 how, .int .i64 root, .string ek, .int .i64 ep, .int .i64 es, .slice A ts.length c, .slice D ds.length d], 49), (#[.int .i64 0, .int .i64 0, .int .i64 0, .int .i64 0, .string ⟨#[]⟩], 28)] (W0.setCell ⟨w.heap.size + 1, 0, none⟩ (.int .i64 (en + 1))) from by have h := H0.out.set 1 0 (.int .i64 (en + 1)) _ rfl; simpa using h)
    obtain ⟨W1, hW1⟩ : ∃ W, W = W0.setCell ⟨w.heap.size + 1, 0, none⟩ (.int .i64 (en + 1)) := ⟨_, rfl⟩
    rw [← hW1] at H1 ⊢
    clear hW1 hc0 hc1 hz1 H0 hs0
    have HX1 := Lib.hid (H1.out.get 1 _ rfl)
    go_upto_region 3 with (first
      | (with_reducible refine listLoad (by kernel_rfl) 49 (.tmp 3) rfl (w.heap.size + 1) rfl #[.int .i64 (en + 1), .int .i64 prev, .int .i64 txn, .int .i64 kind, .int .i64 page, .int .i64 next, .int .i64 nu, .int .i64 ok, .int .i64 os, .string oo, .string on, .int .i64 how, .int .i64 root, .string ek, .int .i64 ep, .int .i64 es, .slice A ts.length c, .slice D ds.length d] _ HX1.out _ Try.underlying49 (by kernel_rfl) (by kernel_rfl) ?_)
      | (go_at_call 25; (with_reducible refine (HP.out _ H1.out.below).mono ?_); rintro e w2 ⟨rfl, hb2⟩))
    have H2 := Lib.hid (H1.out.step hb2)
    clear hb2 H1 HX1 HP
    have hm : IntKind.i64.wrap (n * 128) = n * 128 := IntWalk.i64_in _ (by omega)
    have hm2 : IntKind.i64.wrap (n * 128 - (x.size : Int)) = n * 128 - (x.size : Int) := IntWalk.i64_in _ (by omega)
    have hm3 : IntKind.i64.wrap (en + (x.size : Int)) = en + (x.size : Int) := IntWalk.i64_in _ (by omega)
    by_cases hfull : n * 128 - (x.size : Int) < en
    · have HO := Lib.hid (HFU2.out hfull)
      have HX2 := Lib.hid (show w2.heap[w.heap.size]? = some (.cells #[.int .i64 fr, .int .i64 n, .int .i64 en, .int .i64 sf, .string tl] 28 (0, 0)) from by have h := H2.out.get 0 _ rfl; simpa using h)
      have hc2 := blkCell HX2.out
      clear HFU2 HOK2
      go_wp2_with (first
        | (with_reducible refine listLoad (by kernel_rfl) 28 (.tmp 2) rfl w.heap.size rfl #[.int .i64 fr, .int .i64 n, .int .i64 en, .int .i64 sf, .string tl] _ HX2.out _ Try.underlying28 (by kernel_rfl) (by kernel_rfl) ?_)
        | (with_reducible refine listStore (by kernel_rfl) 28 (.tmp 4) (.tmp 31) rfl (w.heap.size + 2) #[.int .i64 fr, .int .i64 n, .int .i64 en, .int .i64 sf, .string tl] _ _ rfl rfl (H2.out.get 2 _ rfl) (by kernel_rfl) (by kernel_rfl) (by kernel_rfl) ?_))
      refine bodyPost_ret (v := .tuple #[.agg #[.int .i64 fr, .int .i64 n, .int .i64 en, .int .i64 sf, .string tl], .int .i64 0, .int .i64 18]) (results_cell3 rfl _ _ rfl (load_whole (setRow_heap _ _ _ _ _ _ (H2.out.get 2 _ rfl)) Try.underlying28 (by kernel_rfl) (by kernel_rfl)) rfl rfl) rfl ?_
      rw [HO.out]
      exact ⟨rfl, (H2.out.row 2 _ _ rfl).below⟩
    · have HO := Lib.hid (HOK2.out (by omega))
      have hadd : ∀ W : World, (Op.stringOp .add tl x).run Try.prog W = .ok (.string (tl ++ x)) W := fun W => run_string_add_sum W _ _ (by omega)
      have HX2 := Lib.hid (show w2.heap[w.heap.size]? = some (.cells #[.int .i64 fr, .int .i64 n, .int .i64 en, .int .i64 sf, .string tl] 28 (0, 0)) from by have h := H2.out.get 0 _ rfl; simpa using h)
      have hc2 := blkCell HX2.out
      have hz2 := blkFrozen HX2.out
      clear HFU2 HOK2
      go_upto_region 8 with fail
      have H3 := Lib.hid (show BxL w.heap.size w [(#[.int .i64 fr, .int .i64 n, .int .i64 (en + (x.size : Int)), .int .i64 sf, .string tl], 28), (#[.int .i64 (en + 1), .int .i64 prev, .int .i64 txn, .int .i64 kind, .int .i64 page, .int .i64 next, .int .i64 nu, .int .i64 ok, .int .i64 os, .string oo, .string on, .int .i64 how, .int .i64 root, .string ek, .int .i64 ep, .int .i64 es, .slice A ts.length c, .slice D ds.length d], 49), (#[.int .i64 0, .int .i64 0, .int .i64 0, .int .i64 0, .string ⟨#[]⟩], 28)] (w2.setCell ⟨w.heap.size, 2, none⟩ (.int .i64 (en + (x.size : Int)))) from by have h := H2.out.set 0 2 (.int .i64 (en + (x.size : Int))) _ rfl; simpa using h)
      obtain ⟨W3, hW3⟩ : ∃ W, W = w2.setCell ⟨w.heap.size, 2, none⟩ (.int .i64 (en + (x.size : Int))) := ⟨_, rfl⟩
      rw [← hW3] at H3 ⊢
      clear hW3 hc2 hz2 HX2 H2
      have hc3 := blkCell (H3.out.get 0 _ rfl)
      have hz3 := blkFrozen (H3.out.get 0 _ rfl)
      simp only [Nat.add_zero] at hc3 hz3
      go_upto_region 9 with fail
      have H4 := Lib.hid (show BxL w.heap.size w [(#[.int .i64 fr, .int .i64 n, .int .i64 (en + (x.size : Int)), .int .i64 sf, .string (tl ++ x)], 28), (#[.int .i64 (en + 1), .int .i64 prev, .int .i64 txn, .int .i64 kind, .int .i64 page, .int .i64 next, .int .i64 nu, .int .i64 ok, .int .i64 os, .string oo, .string on, .int .i64 how, .int .i64 root, .string ek, .int .i64 ep, .int .i64 es, .slice A ts.length c, .slice D ds.length d], 49), (#[.int .i64 0, .int .i64 0, .int .i64 0, .int .i64 0, .string ⟨#[]⟩], 28)] (W3.setCell ⟨w.heap.size, 4, none⟩ (.string (tl ++ x))) from by have h := H3.out.set 0 4 (.string (tl ++ x)) _ rfl; simpa using h)
      obtain ⟨W4, hW4⟩ : ∃ W, W = W3.setCell ⟨w.heap.size, 4, none⟩ (.string (tl ++ x)) := ⟨_, rfl⟩
      rw [← hW4] at H4 ⊢
      clear hW4 hc3 hz3 H3 hadd
      have HD4 := Lib.hid H4.out.drew
      refine wp_region_held_drew (S := (fun u => u.heap[w.heap.size]? = some (.cells #[.int .i64 fr, .int .i64 n, .int .i64 (en + (x.size : Int)), .int .i64 sf, .string (tl ++ x)] 28 (0, 0)) ∧ u.heap[w.heap.size + 1]? = some (.cells #[.int .i64 (en + 1), .int .i64 prev, .int .i64 txn, .int .i64 kind, .int .i64 page, .int .i64 next, .int .i64 nu, .int .i64 ok, .int .i64 os, .string oo, .string on, .int .i64 how, .int .i64 root, .string ek, .int .i64 ep, .int .i64 es, .slice A ts.length c, .slice D ds.length d] 49 (0, 0)))) (by kernel_rfl) ?_ (fun hHeld => ?_)
      · first | exact hSn | exact ⟨(by have h := HD4.out.get 0 _ rfl; simpa using h), HD4.out.get 1 _ rfl⟩
      refine wpAnyH_take (i := 0) (oi := { dst := some 43, op := _, type := _, pos := _, after := _, guard := _ }) (v := ?_) rfl (by kernel_rfl) (by kernel_rfl) (by kernel_rfl) (fun _ _ _ h => h) (Or.inl ⟨by rfl, ?_⟩) (by assumption) ?_
      rotate_left
      · intro u hSu; have hSa := blkCell hSu.1; have hSb := blkCell hSu.2; clear hSu; go_simp; (try with_reducible rfl)
      try simp only [Act.put, List.setIfInBounds_toArray, List.set_cons_zero, List.set_cons_succ]
      refine wpAnyH_take (i := 1) (oi := { dst := some 44, op := _, type := _, pos := _, after := _, guard := _ }) (v := ?_) rfl (by kernel_rfl) (by kernel_rfl) (by kernel_rfl) (fun _ _ _ h => h) (Or.inl ⟨by rfl, ?_⟩) (by assumption) ?_
      rotate_left
      · intro u hSu; have hSa := blkCell hSu.1; have hSb := blkCell hSu.2; clear hSu; go_simp; (try with_reducible rfl)
      try simp only [Act.put, List.setIfInBounds_toArray, List.set_cons_zero, List.set_cons_succ]
      refine wpAnyH_take (i := 2) (oi := { dst := some 45, op := _, type := _, pos := _, after := _, guard := _ }) (v := ?_) rfl (by kernel_rfl) (by kernel_rfl) (by kernel_rfl) (fun _ _ _ h => h) (Or.inl ⟨by rfl, ?_⟩) (by assumption) ?_
      rotate_left
      · intro u hSu; have hSa := blkCell hSu.1; have hSb := blkCell hSu.2; clear hSu; go_simp; (try with_reducible rfl)
      try simp only [Act.put, List.setIfInBounds_toArray, List.set_cons_zero, List.set_cons_succ]
      refine wpAnyH_ready (rs := [3]) (by kernel_rfl) (by simp) ?_
      refine AllReadyH.cons (o := { dst := none, op := _, type := _, pos := _, after := _, guard := _ }) rfl (fun K hK => ?_) ?_
      rotate_left
      · exact AllReadyH.nil
      refine wantedIf (by rfl) ?_
      refine wp_store_whole 28 (.tmp 4) (.tmp 43) rfl (w.heap.size + 2) #[.int .i64 fr, .int .i64 n, .int .i64 (en + (x.size : Int)), .int .i64 sf, .string (tl ++ x)] _ _ rfl rfl (HD4.out.get 2 _ rfl) (by kernel_rfl) (by kernel_rfl) (by kernel_rfl) ?_
      have hB5 := HD4.out.row 2 #[.int .i64 fr, .int .i64 n, .int .i64 (en + (x.size : Int)), .int .i64 sf, .string (tl ++ x)] _ rfl
      have hSn := And.intro (show _ = some (Obj.cells #[.int .i64 fr, .int .i64 n, .int .i64 (en + (x.size : Int)), .int .i64 sf, .string (tl ++ x)] 28 (0, 0)) from by have h := hB5.get 0 _ rfl; simpa using h) (hB5.get 1 _ rfl)
      refine hK.out _ _ ?_ (fun hHeld => ?_)
      · first | exact hSn | exact ⟨(by have h := HD4.out.get 0 _ rfl; simpa using h), HD4.out.get 1 _ rfl⟩
      clear hK K
      try simp only [Act.put]
      refine wpAnyH_take (i := 4) (oi := { dst := some 5, op := _, type := _, pos := _, after := _, guard := _ }) (v := ?_) rfl (by kernel_rfl) (by kernel_rfl) (by kernel_rfl) (fun _ _ _ h => h) (Or.inl ⟨by rfl, ?_⟩) (by assumption) ?_
      rotate_left
      · intro u hSu; have hSa := blkCell hSu.1; have hSb := blkCell hSu.2; clear hSu; go_simp; (try with_reducible rfl)
      try simp only [Act.put, List.setIfInBounds_toArray, List.set_cons_zero, List.set_cons_succ]
      refine wpAnyH_take (i := 5) (oi := { dst := some 6, op := _, type := _, pos := _, after := _, guard := _ }) (v := ?_) rfl (by kernel_rfl) (by kernel_rfl) (by kernel_rfl) (fun _ _ _ h => h) (Or.inl ⟨by rfl, ?_⟩) (by assumption) ?_
      rotate_left
      · intro u hSu; have hSa := blkCell hSu.1; have hSb := blkCell hSu.2; clear hSu; go_simp; (try with_reducible rfl)
      try simp only [Act.put, List.setIfInBounds_toArray, List.set_cons_zero, List.set_cons_succ]
      refine wpAnyH_done (by kernel_rfl) ?_ _
      clear hHeld
      go_wp2_with fail
      refine bodyPost_ret (v := .tuple #[.agg #[.int .i64 fr, .int .i64 n, .int .i64 (en + (x.size : Int)), .int .i64 sf, .string (tl ++ x)], .int .i64 (en + 1), .int .i64 0]) (results_cell3 rfl _ _ rfl (load_whole (setRow_heap _ _ _ _ _ _ (HD4.out.get 2 _ rfl)) Try.underlying28 (by kernel_rfl) (by kernel_rfl)) rfl rfl) rfl ?_
      rw [HO.out]
      exact ⟨rfl, hB5.below⟩
  · have HO := Lib.hid (HN.out hR)
    have HP := Lib.hid (HPN.out hR)
    clear HPY HPN HN HFU HOK hR
    go_enter Try.func13, Try.ntmps13
    go_upto_region 1 with fail
    have H0 := Lib.hid (show BxL w.heap.size w [(#[.int .i64 fr, .int .i64 n, .int .i64 en, .int .i64 sf, .string tl], 28), (#[.int .i64 lsn, .int .i64 prev, .int .i64 txn, .int .i64 kind, .int .i64 page, .int .i64 next, .int .i64 nu, .int .i64 ok, .int .i64 os, .string oo, .string on, .int .i64 how, .int .i64 root, .string ek, .int .i64 ep, .int .i64 es, .slice A ts.length c, .slice D ds.length d], 49), (#[.int .i64 0, .int .i64 0, .int .i64 0, .int .i64 0, .string ⟨#[]⟩], 28)] (((w.alloc (.cells #[.int .i64 fr, .int .i64 n, .int .i64 en, .int .i64 sf, .string tl] 28)).alloc (.cells #[.int .i64 lsn, .int .i64 prev, .int .i64 txn, .int .i64 kind, .int .i64 page, .int .i64 next, .int .i64 nu, .int .i64 ok, .int .i64 os, .string oo, .string on, .int .i64 how, .int .i64 root, .string ek, .int .i64 ep, .int .i64 es, .slice A ts.length c, .slice D ds.length d] 49)).alloc (.cells #[.int .i64 0, .int .i64 0, .int .i64 0, .int .i64 0, .string ⟨#[]⟩] 28)) from (((BxL.nil (Below.refl w.heap.size w)).new (by simp) #[.int .i64 fr, .int .i64 n, .int .i64 en, .int .i64 sf, .string tl] 28).new (by simp) #[.int .i64 lsn, .int .i64 prev, .int .i64 txn, .int .i64 kind, .int .i64 page, .int .i64 next, .int .i64 nu, .int .i64 ok, .int .i64 os, .string oo, .string on, .int .i64 how, .int .i64 root, .string ek, .int .i64 ep, .int .i64 es, .slice A ts.length c, .slice D ds.length d] 49).new (by simp) #[.int .i64 0, .int .i64 0, .int .i64 0, .int .i64 0, .string ⟨#[]⟩] 28)
    obtain ⟨W0, hW0⟩ : ∃ W, W = (((w.alloc (.cells #[.int .i64 fr, .int .i64 n, .int .i64 en, .int .i64 sf, .string tl] 28)).alloc (.cells #[.int .i64 lsn, .int .i64 prev, .int .i64 txn, .int .i64 kind, .int .i64 page, .int .i64 next, .int .i64 nu, .int .i64 ok, .int .i64 os, .string oo, .string on, .int .i64 how, .int .i64 root, .string ek, .int .i64 ep, .int .i64 es, .slice A ts.length c, .slice D ds.length d] 49)).alloc (.cells #[.int .i64 0, .int .i64 0, .int .i64 0, .int .i64 0, .string ⟨#[]⟩] 28)) := ⟨_, rfl⟩
    have hs0 : W0.heap.size = w.heap.size + 3 := by rw [hW0]; simp
    rw [← hW0] at H0 ⊢
    have hc0 := blkCell (H0.out.get 0 _ rfl)
    have hc1 := blkCell (H0.out.get 1 _ rfl)
    have hz1 := blkFrozen (H0.out.get 1 _ rfl)
    simp only [Nat.add_zero] at hc0
    clear hW0
    go_upto_region 2 with fail
    have H1 := Lib.hid (show BxL w.heap.size w [(#[.int .i64 fr, .int .i64 n, .int .i64 en, .int .i64 sf, .string tl], 28), (#[.int .i64 (en + 1), .int .i64 prev, .int .i64 txn, .int .i64 kind, .int .i64 page, .int .i64 next, .int .i64 nu, .int .i64 ok, .int .i64 os, .string oo, .string on, .int .i64 how, .int .i64 root, .string ek, .int .i64 ep, .int .i64 es, .slice A ts.length c, .slice D ds.length d], 49), (#[.int .i64 0, .int .i64 0, .int .i64 0, .int .i64 0, .string ⟨#[]⟩], 28)] (W0.setCell ⟨w.heap.size + 1, 0, none⟩ (.int .i64 (en + 1))) from by have h := H0.out.set 1 0 (.int .i64 (en + 1)) _ rfl; simpa using h)
    obtain ⟨W1, hW1⟩ : ∃ W, W = W0.setCell ⟨w.heap.size + 1, 0, none⟩ (.int .i64 (en + 1)) := ⟨_, rfl⟩
    rw [← hW1] at H1 ⊢
    clear hW1 hc0 hc1 hz1 H0 hs0
    have HX1 := Lib.hid (H1.out.get 1 _ rfl)
    go_upto_region 3 with (first
      | (with_reducible refine listLoad (by kernel_rfl) 49 (.tmp 3) rfl (w.heap.size + 1) rfl #[.int .i64 (en + 1), .int .i64 prev, .int .i64 txn, .int .i64 kind, .int .i64 page, .int .i64 next, .int .i64 nu, .int .i64 ok, .int .i64 os, .string oo, .string on, .int .i64 how, .int .i64 root, .string ek, .int .i64 ep, .int .i64 es, .slice A ts.length c, .slice D ds.length d] _ HX1.out _ Try.underlying49 (by kernel_rfl) (by kernel_rfl) ?_)
      | (go_at_call 25; (with_reducible refine (HP.out _ H1.out.below).mono ?_); rintro e w2 ⟨rfl, hb2⟩))
    have H2 := Lib.hid (H1.out.step hb2)
    clear hb2 H1 HX1 HP
    have HX2 := Lib.hid (show w2.heap[w.heap.size]? = some (.cells #[.int .i64 fr, .int .i64 n, .int .i64 en, .int .i64 sf, .string tl] 28 (0, 0)) from by have h := H2.out.get 0 _ rfl; simpa using h)
    go_wp2_with (first
      | (with_reducible refine listLoad (by kernel_rfl) 28 (.tmp 2) rfl w.heap.size rfl #[.int .i64 fr, .int .i64 n, .int .i64 en, .int .i64 sf, .string tl] _ HX2.out _ Try.underlying28 (by kernel_rfl) (by kernel_rfl) ?_)
      | (with_reducible refine listStore (by kernel_rfl) 28 (.tmp 4) (.tmp 20) rfl (w.heap.size + 2) #[.int .i64 fr, .int .i64 n, .int .i64 en, .int .i64 sf, .string tl] _ _ rfl rfl (H2.out.get 2 _ rfl) (by kernel_rfl) (by kernel_rfl) (by kernel_rfl) ?_))
    refine bodyPost_ret (v := .tuple #[.agg #[.int .i64 fr, .int .i64 n, .int .i64 en, .int .i64 sf, .string tl], .int .i64 0, .int .i64 1]) (results_cell3 rfl _ _ rfl (load_whole (setRow_heap _ _ _ _ _ _ (H2.out.get 2 _ rfl)) Try.underlying28 (by kernel_rfl) (by kernel_rfl)) rfl rfl) rfl ?_
    rw [HO.out]
    exact ⟨rfl, (H2.out.row 2 _ _ rfl).below⟩
end Go.Proofs.Ytojaagnfjenhoaa
