/- The walk over the reference of the log: lists of records alike. -/
import Derived.Test.YtojaagnfjenhoaaGs03
import Derived.Test.YtojaagnfjenhoaaGs14
import Derived.Test.YtojaagnfjenhoaaGs01
import Derived.Deep.Slices
namespace Go.Proofs.Ytojaagnfjenhoaa
open Go.RowKit
abbrev PRecR (w : World) (p : PRec) : Prop := RecR w p.r p.A p.c p.B p.d
theorem recs_no {l m : List PRec} {k : Nat} (h1 : k < l.length) (h2 : k < m.length) (h : l[k].r ≠ m[k].r) : decide (l.map (·.r) = m.map (·.r)) = false :=
  Rc.eq_no (l := l.map (·.r)) (m := m.map (·.r)) (k := k) (by simpa using h1) (by simpa using h2) (by simpa using h)
set_option maxRecDepth 100000 in
set_option maxHeartbeats 4000000 in
theorem recs_any (l m : List PRec) (hn : l.length ≤ 140737488355328) (_hm : m.length ≤ 140737488355328) (A A' : Option Addr) (c c' : Nat) (w : World) (hr : Reads w A c l.length (l.flatMap recC)) (hr' : Reads w A' c' m.length (m.flatMap recC)) (hl : ∀ p ∈ l, PRecR w p) (hm' : ∀ p ∈ m, PRecR w p) :
    Calls Try.prog 10 #[.slice A l.length c, .slice A' m.length c'] w fun e w' => e = .returned (.bool (decide (l.map (·.r) = m.map (·.r)))) ∧ Below w.heap.size w w' := by
  have HR := Lib.hid hr
  have HR' := Lib.hid hr'
  have HL := Lib.hid hl
  have HM := Lib.hid hm'
  obtain ⟨b, hb⟩ : ∃ b, b = decide (l.map (·.r) = m.map (·.r)) := ⟨_, rfl⟩
  rw [← hb]
  have HB := Lib.hid hb
  clear hr hr' hb hl hm'
  go_enter Try.func10, Try.ntmps10
  go_wp2_with fail
  go_loopw [5] (fun i wr => ∃ k : Nat, k ≤ l.length ∧ k ≤ m.length ∧ i = .int .i64 k ∧ (∀ j (hj : j < l.length) (hj' : j < m.length), j < k → l[j].r = m[j].r) ∧ Below w.heap.size w wr) (fun i _ => l.length - (intOf i).toNat)
  case atStart => exact ⟨0, Nat.zero_le _, Nat.zero_le _, rfl, fun _ _ _ h => absurd h (by omega), Below.refl _ _⟩
  case round =>
    obtain ⟨k, hk, hkm, rfl, hall, hbw⟩ := hrel
    have HA := Lib.hid hall
    clear hall
    by_cases hl1 : k < l.length
    · have hi3 : decide (k < l.length) = true := decide_eq_true hl1
      by_cases hl2 : k < m.length
      · have hi4 : decide (k < m.length) = true := decide_eq_true hl2
        have hpl := (HL.out _ (List.getElem_mem hl1)).below hbw
        have hpm := (HM.out _ (List.getElem_mem hl2)).below hbw
        obtain ⟨b1, off, rfl, hc, hbl, hcell⟩ := read_at recC_len (HR.out.below hbw) hl1
        obtain ⟨b2, off2, rfl, hc2, hbl2, hcell2⟩ := read_at recC_len (HR'.out.below hbw) hl2
        have HN := Lib.hid (show l[k].r ≠ m[k].r → b = false from fun h => HB.out.trans (recs_no hl1 hl2 h))
        have HY := Lib.hid (show l[k].r = m[k].r → ∀ j (hj : j < l.length) (hj' : j < m.length), j < k + 1 → l[j].r = m[j].r from fun h j hj hj' hjk => by
          rcases Nat.lt_or_eq_of_le (Nat.le_of_lt_succ hjk) with h1 | h1
          · exact HA.out j hj hj' h1
          · subst h1; exact h)
        clear HA
        generalize l[k] = x at hcell HN HY hpl
        generalize m[k] = y at hcell2 HN HY hpm
        have hj1 : (0 : Int) ≤ (k : Int) := by omega
        have hj2 : (k : Int) < (l.length : Int) := by omega
        have hj3 : (k : Int) < (m.length : Int) := by omega
        have hj4 : IntKind.i64.wrap ((k : Int) + 1) = (k : Int) + 1 := IntWalk.i64_in _ (by omega)
        have HE := Lib.hid (fun W (hb : Below wr.heap.size wr W) => rsame_any x.r y.r x.A y.A x.B y.B x.c y.c x.d y.d W (hpl.below hb) (hpm.below hb))
        have HQ := Lib.hid (show ∀ u, Below wr.heap.size wr u → u.rangeAt b1 (off + k * 18) (recC x) from fun u hu j v hj => by
          rw [hu.cell (p := ⟨b1, off + k * 18 + j, none⟩) hbl]; exact hcell j v hj)
        have HQ2 := Lib.hid (show ∀ u, Below wr.heap.size wr u → u.rangeAt b2 (off2 + k * 18) (recC y) from fun u hu j v hj => by
          rw [hu.cell (p := ⟨b2, off2 + k * 18 + j, none⟩) hbl2]; exact hcell2 j v hj)
        clear hcell hcell2 hpl hpm
        cases hd : decide (x.r = y.r) with
        | true =>
          have HY2 := Lib.hid (HY.out (of_decide_eq_true hd))
          have heq := HE.out
          rw [hd] at heq
          clear HN HY hd HE
          go_upto_region 4 with fail
          have hSn : Below wr.heap.size wr wr.drew := (Below.refl _ wr).drew
          refine wp_region_held_drew (S := (fun u => Below wr.heap.size wr u)) (by kernel_rfl) ?_ (fun hHeld => ?_)
          · exact hSn
          refine wpAnyH_take (i := 0) (oi := { dst := some 18, op := _, type := _, pos := _, after := _, guard := _ }) (v := ?_) rfl (by kernel_rfl) (by kernel_rfl) (by kernel_rfl) (fun _ _ _ h => h) (Or.inl ⟨by rfl, ?_⟩) (by assumption) ?_
          rotate_left
          · intro u hSu; go_simp; (try with_reducible rfl)
          try simp only [Act.put, List.setIfInBounds_toArray, List.set_cons_zero, List.set_cons_succ]
          refine wpAnyH_take (i := 1) (oi := { dst := some 19, op := _, type := _, pos := _, after := _, guard := _ }) (v := ?_) rfl (by kernel_rfl) (by kernel_rfl) (by kernel_rfl) (fun _ _ _ h => h) (Or.inl ⟨by rfl, ?_⟩) (by assumption) ?_
          rotate_left
          · intro u hSu; go_simp; (try with_reducible rfl)
          try simp only [Act.put, List.setIfInBounds_toArray, List.set_cons_zero, List.set_cons_succ]
          refine wpAnyH_take (i := 2) (oi := { dst := some 20, op := _, type := _, pos := _, after := _, guard := _ }) (v := ?_) rfl (by kernel_rfl) (by kernel_rfl) (by kernel_rfl) (fun _ _ _ h => h) (Or.inl ⟨by rfl, ?_⟩) (by assumption) ?_
          rotate_left
          · intro u hSu; go_simp; (try with_reducible rfl)
          try simp only [Act.put, List.setIfInBounds_toArray, List.set_cons_zero, List.set_cons_succ]
          refine wpAnyH_take (i := 3) (oi := { dst := some 21, op := _, type := _, pos := _, after := _, guard := _ }) (v := recV x.r (.slice x.A x.r.txns.length x.c) (.slice x.B x.r.dirty.length x.d)) rfl (by kernel_rfl) (by kernel_rfl) (by kernel_rfl) (fun _ _ _ h => h) (yieldsIf_load_mid (by rfl) 49 (.tmp 20) rfl b1 (off + k * 18) (by rfl) (recC x) _ HQ.out Try.underlying49 (by kernel_rfl) (by kernel_rfl)) (by assumption) ?_
          try simp only [Act.put, List.setIfInBounds_toArray, List.set_cons_zero, List.set_cons_succ]
          refine wpAnyH_take (i := 4) (oi := { dst := some 22, op := _, type := _, pos := _, after := _, guard := _ }) (v := ?_) rfl (by kernel_rfl) (by kernel_rfl) (by kernel_rfl) (fun _ _ _ h => h) (Or.inl ⟨by rfl, ?_⟩) (by assumption) ?_
          rotate_left
          · intro u hSu; go_simp; (try with_reducible rfl)
          try simp only [Act.put, List.setIfInBounds_toArray, List.set_cons_zero, List.set_cons_succ]
          refine wpAnyH_take (i := 5) (oi := { dst := some 23, op := _, type := _, pos := _, after := _, guard := _ }) (v := ?_) rfl (by kernel_rfl) (by kernel_rfl) (by kernel_rfl) (fun _ _ _ h => h) (Or.inl ⟨by rfl, ?_⟩) (by assumption) ?_
          rotate_left
          · intro u hSu; go_simp; (try with_reducible rfl)
          try simp only [Act.put, List.setIfInBounds_toArray, List.set_cons_zero, List.set_cons_succ]
          refine wpAnyH_take (i := 6) (oi := { dst := some 24, op := _, type := _, pos := _, after := _, guard := _ }) (v := ?_) rfl (by kernel_rfl) (by kernel_rfl) (by kernel_rfl) (fun _ _ _ h => h) (Or.inl ⟨by rfl, ?_⟩) (by assumption) ?_
          rotate_left
          · intro u hSu; go_simp; (try with_reducible rfl)
          try simp only [Act.put, List.setIfInBounds_toArray, List.set_cons_zero, List.set_cons_succ]
          refine wpAnyH_take (i := 7) (oi := { dst := some 25, op := _, type := _, pos := _, after := _, guard := _ }) (v := recV y.r (.slice y.A y.r.txns.length y.c) (.slice y.B y.r.dirty.length y.d)) rfl (by kernel_rfl) (by kernel_rfl) (by kernel_rfl) (fun _ _ _ h => h) (yieldsIf_load_mid (by rfl) 49 (.tmp 24) rfl b2 (off2 + k * 18) (by rfl) (recC y) _ HQ2.out Try.underlying49 (by kernel_rfl) (by kernel_rfl)) (by assumption) ?_
          try simp only [Act.put, List.setIfInBounds_toArray, List.set_cons_zero, List.set_cons_succ]
          refine wpAnyH_ready (rs := [8]) (by kernel_rfl) (by simp) ?_
          refine AllReadyH.cons (o := { dst := some 26, op := _, type := _, pos := _, after := _, guard := _ }) rfl (fun K hK => ?_) ?_
          rotate_left
          · exact AllReadyH.nil
          go_simp
          refine (heq _ hSn).mono ?_; rintro e w2 ⟨rfl, hb2⟩; have hSm := joinB hSn hb2; clear hSn; have hSn := hSm; clear hSm; try go_simp
          refine hK.out _ _ ?_ (fun hHeld => ?_)
          · exact hSn
          clear hK K
          try simp only [Act.put, List.setIfInBounds_toArray, List.set_cons_zero, List.set_cons_succ]
          refine wpAnyH_take (i := 9) (oi := { dst := some 27, op := _, type := _, pos := _, after := _, guard := _ }) (v := ?_) rfl (by kernel_rfl) (by kernel_rfl) (by kernel_rfl) (fun _ _ _ h => h) (Or.inl ⟨by rfl, ?_⟩) (by assumption) ?_
          rotate_left
          · intro u hSu; go_simp; (try with_reducible rfl)
          try simp only [Act.put, List.setIfInBounds_toArray, List.set_cons_zero, List.set_cons_succ]
          refine wpAnyH_done (by kernel_rfl) ?_ _
          clear hHeld heq HQ HQ2
          go_wp2_with fail
          go_roundw
          case rel => exact ⟨k + 1, by omega, by omega, by go_num, HY2.out, joinB hbw hSn⟩
          case measure => simp [intOf]; omega
        | false =>
          have HN2 := Lib.hid (HN.out (of_decide_eq_false hd))
          have heq := HE.out
          rw [hd] at heq
          clear HN HY hd HE
          go_upto_region 4 with fail
          have hSn : Below wr.heap.size wr wr.drew := (Below.refl _ wr).drew
          refine wp_region_held_drew (S := (fun u => Below wr.heap.size wr u)) (by kernel_rfl) ?_ (fun hHeld => ?_)
          · exact hSn
          refine wpAnyH_take (i := 0) (oi := { dst := some 18, op := _, type := _, pos := _, after := _, guard := _ }) (v := ?_) rfl (by kernel_rfl) (by kernel_rfl) (by kernel_rfl) (fun _ _ _ h => h) (Or.inl ⟨by rfl, ?_⟩) (by assumption) ?_
          rotate_left
          · intro u hSu; go_simp; (try with_reducible rfl)
          try simp only [Act.put, List.setIfInBounds_toArray, List.set_cons_zero, List.set_cons_succ]
          refine wpAnyH_take (i := 1) (oi := { dst := some 19, op := _, type := _, pos := _, after := _, guard := _ }) (v := ?_) rfl (by kernel_rfl) (by kernel_rfl) (by kernel_rfl) (fun _ _ _ h => h) (Or.inl ⟨by rfl, ?_⟩) (by assumption) ?_
          rotate_left
          · intro u hSu; go_simp; (try with_reducible rfl)
          try simp only [Act.put, List.setIfInBounds_toArray, List.set_cons_zero, List.set_cons_succ]
          refine wpAnyH_take (i := 2) (oi := { dst := some 20, op := _, type := _, pos := _, after := _, guard := _ }) (v := ?_) rfl (by kernel_rfl) (by kernel_rfl) (by kernel_rfl) (fun _ _ _ h => h) (Or.inl ⟨by rfl, ?_⟩) (by assumption) ?_
          rotate_left
          · intro u hSu; go_simp; (try with_reducible rfl)
          try simp only [Act.put, List.setIfInBounds_toArray, List.set_cons_zero, List.set_cons_succ]
          refine wpAnyH_take (i := 3) (oi := { dst := some 21, op := _, type := _, pos := _, after := _, guard := _ }) (v := recV x.r (.slice x.A x.r.txns.length x.c) (.slice x.B x.r.dirty.length x.d)) rfl (by kernel_rfl) (by kernel_rfl) (by kernel_rfl) (fun _ _ _ h => h) (yieldsIf_load_mid (by rfl) 49 (.tmp 20) rfl b1 (off + k * 18) (by rfl) (recC x) _ HQ.out Try.underlying49 (by kernel_rfl) (by kernel_rfl)) (by assumption) ?_
          try simp only [Act.put, List.setIfInBounds_toArray, List.set_cons_zero, List.set_cons_succ]
          refine wpAnyH_take (i := 4) (oi := { dst := some 22, op := _, type := _, pos := _, after := _, guard := _ }) (v := ?_) rfl (by kernel_rfl) (by kernel_rfl) (by kernel_rfl) (fun _ _ _ h => h) (Or.inl ⟨by rfl, ?_⟩) (by assumption) ?_
          rotate_left
          · intro u hSu; go_simp; (try with_reducible rfl)
          try simp only [Act.put, List.setIfInBounds_toArray, List.set_cons_zero, List.set_cons_succ]
          refine wpAnyH_take (i := 5) (oi := { dst := some 23, op := _, type := _, pos := _, after := _, guard := _ }) (v := ?_) rfl (by kernel_rfl) (by kernel_rfl) (by kernel_rfl) (fun _ _ _ h => h) (Or.inl ⟨by rfl, ?_⟩) (by assumption) ?_
          rotate_left
          · intro u hSu; go_simp; (try with_reducible rfl)
          try simp only [Act.put, List.setIfInBounds_toArray, List.set_cons_zero, List.set_cons_succ]
          refine wpAnyH_take (i := 6) (oi := { dst := some 24, op := _, type := _, pos := _, after := _, guard := _ }) (v := ?_) rfl (by kernel_rfl) (by kernel_rfl) (by kernel_rfl) (fun _ _ _ h => h) (Or.inl ⟨by rfl, ?_⟩) (by assumption) ?_
          rotate_left
          · intro u hSu; go_simp; (try with_reducible rfl)
          try simp only [Act.put, List.setIfInBounds_toArray, List.set_cons_zero, List.set_cons_succ]
          refine wpAnyH_take (i := 7) (oi := { dst := some 25, op := _, type := _, pos := _, after := _, guard := _ }) (v := recV y.r (.slice y.A y.r.txns.length y.c) (.slice y.B y.r.dirty.length y.d)) rfl (by kernel_rfl) (by kernel_rfl) (by kernel_rfl) (fun _ _ _ h => h) (yieldsIf_load_mid (by rfl) 49 (.tmp 24) rfl b2 (off2 + k * 18) (by rfl) (recC y) _ HQ2.out Try.underlying49 (by kernel_rfl) (by kernel_rfl)) (by assumption) ?_
          try simp only [Act.put, List.setIfInBounds_toArray, List.set_cons_zero, List.set_cons_succ]
          refine wpAnyH_ready (rs := [8]) (by kernel_rfl) (by simp) ?_
          refine AllReadyH.cons (o := { dst := some 26, op := _, type := _, pos := _, after := _, guard := _ }) rfl (fun K hK => ?_) ?_
          rotate_left
          · exact AllReadyH.nil
          go_simp
          refine (heq _ hSn).mono ?_; rintro e w2 ⟨rfl, hb2⟩; have hSm := joinB hSn hb2; clear hSn; have hSn := hSm; clear hSm; try go_simp
          refine hK.out _ _ ?_ (fun hHeld => ?_)
          · exact hSn
          clear hK K
          try simp only [Act.put, List.setIfInBounds_toArray, List.set_cons_zero, List.set_cons_succ]
          refine wpAnyH_take (i := 9) (oi := { dst := some 27, op := _, type := _, pos := _, after := _, guard := _ }) (v := ?_) rfl (by kernel_rfl) (by kernel_rfl) (by kernel_rfl) (fun _ _ _ h => h) (Or.inl ⟨by rfl, ?_⟩) (by assumption) ?_
          rotate_left
          · intro u hSu; go_simp; (try with_reducible rfl)
          try simp only [Act.put, List.setIfInBounds_toArray, List.set_cons_zero, List.set_cons_succ]
          refine wpAnyH_done (by kernel_rfl) ?_ _
          clear hHeld heq HQ HQ2
          go_wp2_with fail
          go_ret
          exact ⟨by rw [HN2.out]; rfl, joinB hbw hSn⟩
      · have hi4 : decide (k < m.length) = false := decide_eq_false hl2
        have hne3 : (l.length == m.length) = false := by simp; omega
        have hne4 : ((l.length : Int) == (m.length : Int)) = false := by simp; omega
        have HN2 := Lib.hid (HB.out.trans (decide_eq_false (fun e => by have := congrArg List.length e; simp at this; omega)))
        go_wp2_with fail
        go_ret
        exact ⟨by rw [HN2.out]; simp; try omega, hbw⟩
    · have hi3 : decide (k < l.length) = false := decide_eq_false hl1
      obtain rfl : k = l.length := by omega
      by_cases hlm : l.length = m.length
      · have HE := Lib.hid (show b = true from HB.out.trans (Rc.eq_yes (by simpa using hlm) fun j hj hj' => by
          have h1 := HA.out j (by simpa using hj) (by simpa using hj') (by simpa using hj)
          simpa using h1))
        have hne3 : (l.length == m.length) = true := by simp [hlm]
        have hne4 : ((l.length : Int) == (m.length : Int)) = true := by simp [hlm]
        have HLM := Lib.hid hlm
        clear hlm
        go_wp2_with fail
        go_ret
        exact ⟨by rw [HE.out]; have hlm := HLM.out; simp [hlm], hbw⟩
      · have hne3 : (l.length == m.length) = false := by simp; omega
        have hne4 : ((l.length : Int) == (m.length : Int)) = false := by simp; omega
        have HN2 := Lib.hid (HB.out.trans (decide_eq_false (fun e => hlm (by have := congrArg List.length e; simpa using this))))
        go_wp2_with fail
        go_ret
        exact ⟨by rw [HN2.out]; simp; try omega, hbw⟩
end Go.Proofs.Ytojaagnfjenhoaa
/- Arguments that are records, rows of records, of truths, disks: opened. -/
namespace Go.Proofs.Ytojaagnfjenhoaa
open Go.ChangeShapes Go.WideShapes Go.ChangeAt Go.RowKit
theorem cellsS : Try.prog.cellsOf 9 = 1 := by kernel_rfl
theorem cellsI : Try.prog.cellsOf 3 = 1 := by kernel_rfl
theorem cellsB : Try.prog.cellsOf 4 = 1 := by kernel_rfl
theorem cellsOp : Try.prog.cellsOf 41 = 4 := by kernel_rfl
theorem cellsEn : Try.prog.cellsOf 45 = 3 := by kernel_rfl
theorem cellsRi : Try.prog.cellsOf 43 = 2 := by kernel_rfl
theorem cellsTx : Try.prog.cellsOf 106 = 4 := by kernel_rfl
theorem cellsDi : Try.prog.cellsOf 108 = 2 := by kernel_rfl
theorem cellsTs : Try.prog.cellsOf 46 = 1 := by kernel_rfl
theorem cellsDs : Try.prog.cellsOf 47 = 1 := by kernel_rfl
theorem cellsSs : Try.prog.cellsOf 22 = 1 := by kernel_rfl
theorem cellsRe : Try.prog.cellsOf 49 = 18 := by kernel_rfl
theorem cellsDk : Try.prog.cellsOf 24 = 3 := by kernel_rfl
theorem opFields : ∃ f0 f1 f2 f3 : Field, Try.prog.underlying 41 = some (.struct #[f0, f1, f2, f3]) ∧ (f0.offset = 0 ∧ f1.offset = 1 ∧ f2.offset = 2 ∧ f3.offset = 3) ∧ f0.type = 3 ∧ f1.type = 3 ∧ f2.type = 9 ∧ f3.type = 9 := ⟨_, _, _, _, Try.underlying41, ⟨rfl, rfl, rfl, rfl⟩, rfl, rfl, rfl, rfl⟩
theorem enFields : ∃ f0 f1 : Field, Try.prog.underlying 45 = some (.struct #[f0, f1]) ∧ (f0.offset = 0 ∧ f1.offset = 1) ∧ f0.type = 9 ∧ f1.type = 43 := ⟨_, _, Try.underlying45, ⟨rfl, rfl⟩, rfl, rfl⟩
theorem riFields : ∃ f0 f1 : Field, Try.prog.underlying 43 = some (.struct #[f0, f1]) ∧ (f0.offset = 0 ∧ f1.offset = 1) ∧ f0.type = 3 ∧ f1.type = 3 := ⟨_, _, Try.underlying43, ⟨rfl, rfl⟩, rfl, rfl⟩
theorem txFields : ∃ f0 f1 f2 f3 : Field, Try.prog.underlying 106 = some (.struct #[f0, f1, f2, f3]) ∧ (f0.offset = 0 ∧ f1.offset = 1 ∧ f2.offset = 2 ∧ f3.offset = 3) ∧ f0.type = 3 ∧ f1.type = 3 ∧ f2.type = 3 ∧ f3.type = 4 := ⟨_, _, _, _, Try.underlying106, ⟨rfl, rfl, rfl, rfl⟩, rfl, rfl, rfl, rfl⟩
theorem diFields : ∃ f0 f1 : Field, Try.prog.underlying 108 = some (.struct #[f0, f1]) ∧ (f0.offset = 0 ∧ f1.offset = 1) ∧ f0.type = 3 ∧ f1.type = 3 := ⟨_, _, Try.underlying108, ⟨rfl, rfl⟩, rfl, rfl⟩
theorem dkFields : ∃ f0 f1 f2 : Field, Try.prog.underlying 24 = some (.struct #[f0, f1, f2]) ∧ (f0.offset = 0 ∧ f1.offset = 1 ∧ f2.offset = 2) ∧ f0.type = 22 ∧ f1.type = 3 ∧ f2.type = 4 := ⟨_, _, _, Try.underlying24, ⟨rfl, rfl, rfl⟩, rfl, rfl, rfl⟩
theorem reFields : ∃ f0 f1 f2 f3 f4 f5 f6 f7 f8 f9 f10 f11 f12 : Field, Try.prog.underlying 49 = some (.struct #[f0, f1, f2, f3, f4, f5, f6, f7, f8, f9, f10, f11, f12]) ∧
    (f0.offset = 0 ∧ f1.offset = 1 ∧ f2.offset = 2 ∧ f3.offset = 3 ∧ f4.offset = 4 ∧ f5.offset = 5 ∧ f6.offset = 6 ∧ f7.offset = 7 ∧ f8.offset = 11 ∧ f9.offset = 12 ∧ f10.offset = 13 ∧ f11.offset = 16 ∧ f12.offset = 17) ∧
    (f0.type = 3 ∧ f1.type = 3 ∧ f2.type = 3 ∧ f3.type = 3 ∧ f4.type = 3 ∧ f5.type = 3 ∧ f6.type = 3 ∧ f7.type = 41 ∧ f8.type = 3 ∧ f9.type = 3 ∧ f10.type = 45 ∧ f11.type = 46 ∧ f12.type = 47) :=
  ⟨_, _, _, _, _, _, _, _, _, _, _, _, _, Try.underlying49, ⟨rfl, rfl, rfl, rfl, rfl, rfl, rfl, rfl, rfl, rfl, rfl, rfl, rfl⟩, ⟨rfl, rfl, rfl, rfl, rfl, rfl, rfl, rfl, rfl, rfl, rfl, rfl, rfl⟩⟩
theorem list2' {α : Type} {l : List α} (h : l.length = 2) : ∃ a b, l = [a, b] := by
  match l, h with
  | [a, b], _ => exact ⟨a, b, rfl⟩
theorem list3' {α : Type} {l : List α} (h : l.length = 3) : ∃ a b c, l = [a, b, c] := by
  match l, h with
  | [a, b, c], _ => exact ⟨a, b, c, rfl⟩
theorem list4' {α : Type} {l : List α} (h : l.length = 4) : ∃ a b c d, l = [a, b, c, d] := by
  match l, h with
  | [a, b, c, d], _ => exact ⟨a, b, c, d, rfl⟩
theorem list18 {α : Type} {l : List α} (h : l.length = 18) : ∃ a0 a1 a2 a3 a4 a5 a6 a7 a8 a9 b0 b1 b2 b3 b4 b5 b6 b7, l = [a0, a1, a2, a3, a4, a5, a6, a7, a8, a9, b0, b1, b2, b3, b4, b5, b6, b7] := by
  match l, h with
  | [a0, a1, a2, a3, a4, a5, a6, a7, a8, a9, b0, b1, b2, b3, b4, b5, b6, b7], _ => exact ⟨a0, a1, a2, a3, a4, a5, a6, a7, a8, a9, b0, b1, b2, b3, b4, b5, b6, b7, rfl⟩
theorem spotOf {w : World} {a : Addr} {v : Value} (h : w.cell? a = some v) : a = ⟨a.block, a.off, none⟩ ∧ a.block < w.heap.size := by
  obtain ⟨b, off, sp⟩ := a
  unfold World.cell? at h
  cases hh : w.heap[b]? with
  | none => simp [hh] at h
  | some o =>
    have hlt : b < w.heap.size := (Array.getElem?_eq_some_iff.1 hh).1
    cases o with
    | cells c t f =>
      simp only [hh] at h
      cases sp with
      | none => exact ⟨rfl, hlt⟩
      | some x => simp at h
    | _ => simp [hh] at h
/-- A datum that a machine can hold. -/
def Light {H : Type} (t : TypeId) (d : DataW H) : Prop := ∀ n ∈ DataW.weights Try.prog t d, n ≤ reachBytes
theorem light_of {H : Type} {ts : List TypeId} {ds : List (DataW H)} {j : Nat} {t : TypeId} {d : DataW H} (h : (DataW.weightsEach Try.prog ts ds).all (· ≤ reachBytes) = true) (ht : ts[j]? = some t) (hd : ds[j]? = some d) : Light t d := fun n hn => by
  have := List.all_eq_true.1 h _ (DataW.weights_mem_each ht hd n hn)
  simpa using this
theorem weights_mem_all {H : Type} {P : Program} {e : TypeId} {d : DataW H} {n : Nat} (hn : n ∈ DataW.weights P e d) : ∀ {l : List (DataW H)}, d ∈ l → n ∈ DataW.weightsAll P e l := by
  intro l
  induction l with
  | nil => intro h; cases h
  | cons a l ih =>
    intro h
    unfold DataW.weightsAll
    rcases List.mem_cons.1 h with h1 | h1
    · subst h1; exact List.mem_append_left _ hn
    · exact List.mem_append_right _ (ih h1)
theorem bytesS : 1 ≤ Try.prog.bytesOf 9 := by decide +kernel
theorem bytesB : 1 ≤ Try.prog.bytesOf 4 := by decide +kernel
theorem bytesTx : 1 ≤ Try.prog.bytesOf 106 := by decide +kernel
theorem bytesDi : 1 ≤ Try.prog.bytesOf 108 := by decide +kernel
theorem bytesRe : 1 ≤ Try.prog.bytesOf 49 := by decide +kernel
section
variable {H : Type} {enc : TypeId × Value → H} {w : World} {base : Nat} {spare : Nat → Bool} {held : Bool}
theorem trod_field {t : TypeId} {fs : Array Field} {fuel : Nat} {cs : List Value} {x : DataW H × List MemPlace} (ht : Try.prog.underlying t = some (.struct fs)) (h : DataW.trod enc Try.prog w base spare held fuel t cs = some x) :
    ∃ n, cs.length = Try.prog.cellsOf t ∧ ∀ (i : Nat) (f : Field), fs[i]? = some f → ∃ y, DataW.trod enc Try.prog w base spare held n f.type ((cs.drop f.offset).take (Try.prog.cellsOf f.type)) = some y ∧ (Light t x.1 → Light f.type y.1) := by
  obtain ⟨xs, n, _, rfl, hl, hlen, hf⟩ := DataW.trod_struct ht h
  refine ⟨n, hl, fun i f hi => ?_⟩
  have hi' : i < xs.length := by rw [hlen]; exact (Array.getElem?_eq_some_iff.1 hi).1
  refine ⟨xs[i], by rw [hf i f hi, List.getElem?_eq_getElem hi'], fun hL m hm => hL m ?_⟩
  unfold DataW.weights
  rw [ht]
  exact DataW.weights_mem_each (j := i) (t := f.type) (d := xs[i].1) (by simp [hi]) (by simp [hi']) m hm
/-- A slice, opened, whatever its elements are. -/
theorem trod_row {α : Type} [Inhabited α] {en : α → List Value} {k : Nat} (hk : ∀ x, (en x).length = k) (hk0 : 0 < k) {t e : TypeId} (ht : Try.prog.underlying t = some (.slice e)) (hce : Try.prog.cellsOf e = k) (hbe : 1 ≤ Try.prog.bytesOf e) {Q : α → Prop}
    (he : ∀ (fuel : Nat) (cs : List Value) (x : DataW H × List MemPlace), DataW.trod enc Try.prog w base spare held fuel e cs = some x → Light e x.1 → ∃ o, cs = en o ∧ Q o)
    {fuel : Nat} {cs : List Value} {x : DataW H × List MemPlace} (hL : Light t x.1) (h : DataW.trod enc Try.prog w base spare held fuel t cs = some x) :
    ∃ (A : Option Addr) (c : Nat) (l : List α), cs = [.slice A l.length c] ∧ Reads w A c l.length (l.flatMap en) ∧ (∀ o ∈ l, Q o) ∧ l.length ≤ 140737488355328 := by
  rcases Deep.open_slice ht h with ⟨hcs, _⟩ | ⟨a', len', cap', m, n, D, Pl, hcs, hb, hl, hm, hmm, hx, hall⟩
  · exact ⟨none, 0, [], hcs, Reads.none_ _ _ _ _, (fun _ h => by cases h), Nat.zero_le _⟩
  · have hlm : len' ≤ m := by rw [hmm]; split <;> omega
    rw [hce] at hall
    rw [hx] at hL
    have hlen : len' ≤ 140737488355328 := by
      have h1 := hL _ (by unfold DataW.weights; rw [ht]; exact List.mem_cons_self ..)
      rw [List.length_map, List.length_range] at h1
      have h2 := reachBytes_lt
      have h3 := Nat.le_mul_of_pos_right (len' + (List.map (fun j => D (len' + j)) (List.range (m - len'))).length) hbe
      omega
    have hLe : ∀ i, i < len' → Light e (D i) := fun i hi n' hn' => hL n' (by
      unfold DataW.weights; rw [ht]
      exact List.mem_cons_of_mem _ (List.mem_append_left _ (weights_mem_all hn' (List.mem_map.2 ⟨i, List.mem_range.2 hi, rfl⟩))))
    obtain ⟨f, hf⟩ := Deep.choose_lt (α := α) (n := len') (p := fun i o => (∀ q u, (en o)[q]? = some u → w.cell? ((a'.add (i * k)).add q) = some u) ∧ Q o) (fun i hi => by
      obtain ⟨cs', h1, h2⟩ := hall i (by omega)
      obtain ⟨o, rfl, hQ⟩ := he _ _ _ h2 (hLe i hi)
      obtain ⟨_, _, h3⟩ := World.cells?_some h1
      refine ⟨o, fun q u hq => ?_, hQ⟩
      have hqk : q < k := by have := (List.getElem?_eq_some_iff.1 hq).1; rw [hk] at this; exact this
      rw [h3 q hqk]; exact hq)
    refine ⟨some a', cap', (List.range len').map f, by rw [hcs]; simp, ?_, ?_, by simpa using hlen⟩
    · intro h0
      have h0' : 0 < len' := by simpa using h0
      obtain ⟨u, hu⟩ : ∃ u, (en (f 0))[0]? = some u := ⟨_, List.getElem?_eq_getElem (by rw [hk]; exact hk0)⟩
      have hz := (hf 0 h0').1 0 u hu
      have hz2 : w.cell? a' = some u := by simpa [Addr.add] using hz
      obtain ⟨hsp, hlt⟩ := spotOf hz2
      refine ⟨a'.block, a'.off, by rw [← hsp], by simpa using hl, hlt, fun j u hj => ?_⟩
      have hjl : j < len' * k := by
        have := (List.getElem?_eq_some_iff.1 hj).1
        rw [flat_len hk] at this
        simpa using this
      obtain ⟨q, i, hi, rfl⟩ : ∃ q i, i < k ∧ j = q * k + i := ⟨j / k, j % k, Nat.mod_lt _ hk0, by rw [Nat.mul_comm]; exact (Nat.div_add_mod j k).symm⟩
      have hq : q < len' := by
        rcases Nat.lt_or_ge q len' with h5 | h5
        · exact h5
        · have := Nat.mul_le_mul_right k h5; omega
      rw [flat_at hk _ q i (by simpa using hq) hi] at hj
      have h5 := (hf q hq).1 i u (by simpa using hj)
      rw [hsp, Addr.add_mid, Addr.add_mid] at h5
      rw [← Nat.add_assoc]
      exact h5
    · intro o ho
      obtain ⟨i, hi, rfl⟩ := List.mem_map.1 ho
      exact (hf i (List.mem_range.1 hi)).2
theorem trod_tx (fuel : Nat) (cs : List Value) (x : DataW H × List MemPlace) (h : DataW.trod enc Try.prog w base spare held fuel 106 cs = some x) (_ : Light 106 x.1) : ∃ o : Rc.TxnAt, cs = txC o ∧ True := by
  obtain ⟨f0, f1, f2, f3, hu, ⟨o0, o1, o2, o3⟩, t0, t1, t2, t3⟩ := txFields
  obtain ⟨n, hl, hf⟩ := trod_field hu h
  rw [cellsTx] at hl
  obtain ⟨c0, c1, c2, c3, rfl⟩ := list4' hl
  obtain ⟨y0, h0, gh0⟩ := hf 0 f0 rfl
  obtain ⟨y1, h1, gh1⟩ := hf 1 f1 rfl
  obtain ⟨y2, h2, gh2⟩ := hf 2 f2 rfl
  obtain ⟨y3, h3, gh3⟩ := hf 3 f3 rfl
  rw [o0, t0, cellsI] at h0
  rw [o1, t1, cellsI] at h1
  rw [o2, t2, cellsI] at h2
  rw [o3, t3, cellsB] at h3
  obtain ⟨i0, e0, _, _⟩ := DataW.trod_int Try.underlying3 h0
  obtain ⟨i1, e1, _, _⟩ := DataW.trod_int Try.underlying3 h1
  obtain ⟨i2, e2, _, _⟩ := DataW.trod_int Try.underlying3 h2
  obtain ⟨b3, e3, _⟩ := DataW.trod_bool Try.underlying4 h3
  simp at e0 e1 e2 e3
  exact ⟨⟨i0, i1, i2, b3⟩, by rw [e0, e1, e2, e3]; rfl, trivial⟩
theorem trod_di (fuel : Nat) (cs : List Value) (x : DataW H × List MemPlace) (h : DataW.trod enc Try.prog w base spare held fuel 108 cs = some x) (_ : Light 108 x.1) : ∃ o : Rc.DirtyAt, cs = diC o ∧ True := by
  obtain ⟨f0, f1, hu, ⟨o0, o1⟩, t0, t1⟩ := diFields
  obtain ⟨n, hl, hf⟩ := trod_field hu h
  rw [cellsDi] at hl
  obtain ⟨c0, c1, rfl⟩ := list2' hl
  obtain ⟨y0, h0, gh0⟩ := hf 0 f0 rfl
  obtain ⟨y1, h1, gh1⟩ := hf 1 f1 rfl
  rw [o0, t0, cellsI] at h0
  rw [o1, t1, cellsI] at h1
  obtain ⟨i0, e0, _, _⟩ := DataW.trod_int Try.underlying3 h0
  obtain ⟨i1, e1, _, _⟩ := DataW.trod_int Try.underlying3 h1
  simp at e0 e1
  exact ⟨⟨i0, i1⟩, by rw [e0, e1]; rfl, trivial⟩
theorem trod_opr {fuel : Nat} {cs : List Value} {x : DataW H × List MemPlace} (h : DataW.trod enc Try.prog w base spare held fuel 41 cs = some x) : ∃ o : Rc.Op, cs = [.int .i64 o.kind, .int .i64 o.slot, .string o.old, .string o.new] := by
  obtain ⟨f0, f1, f2, f3, hu, ⟨o0, o1, o2, o3⟩, t0, t1, t2, t3⟩ := opFields
  obtain ⟨n, hl, hf⟩ := trod_field hu h
  rw [cellsOp] at hl
  obtain ⟨c0, c1, c2, c3, rfl⟩ := list4' hl
  obtain ⟨y0, h0, gh0⟩ := hf 0 f0 rfl
  obtain ⟨y1, h1, gh1⟩ := hf 1 f1 rfl
  obtain ⟨y2, h2, gh2⟩ := hf 2 f2 rfl
  obtain ⟨y3, h3, gh3⟩ := hf 3 f3 rfl
  rw [o0, t0, cellsI] at h0
  rw [o1, t1, cellsI] at h1
  rw [o2, t2, cellsS] at h2
  rw [o3, t3, cellsS] at h3
  obtain ⟨i0, e0, _, _⟩ := DataW.trod_int Try.underlying3 h0
  obtain ⟨i1, e1, _, _⟩ := DataW.trod_int Try.underlying3 h1
  obtain ⟨i2, e2, _, _⟩ := DataW.trod_string Try.underlying9 h2
  obtain ⟨i3, e3, _, _⟩ := DataW.trod_string Try.underlying9 h3
  simp at e0 e1 e2 e3
  exact ⟨⟨i0, i1, i2, i3⟩, by rw [e0, e1, e2, e3]⟩
theorem trod_en {fuel : Nat} {cs : List Value} {x : DataW H × List MemPlace} (h : DataW.trod enc Try.prog w base spare held fuel 45 cs = some x) : ∃ o : Rc.Key, cs = [.string o.key, .int .i64 o.page, .int .i64 o.slot] := by
  obtain ⟨f0, f1, hu, ⟨o0, o1⟩, t0, t1⟩ := enFields
  obtain ⟨g0, g1, hu2, ⟨p0, p1⟩, u0, u1⟩ := riFields
  obtain ⟨n, hl, hf⟩ := trod_field hu h
  rw [cellsEn] at hl
  obtain ⟨c0, c1, c2, rfl⟩ := list3' hl
  obtain ⟨y0, h0, gh0⟩ := hf 0 f0 rfl
  obtain ⟨y1, h1, gh1⟩ := hf 1 f1 rfl
  rw [o0, t0, cellsS] at h0
  rw [o1, t1, cellsRi] at h1
  obtain ⟨i0, e0, _, _⟩ := DataW.trod_string Try.underlying9 h0
  obtain ⟨n2, hl2, hf2⟩ := trod_field hu2 h1
  obtain ⟨y2, h2, gh2⟩ := hf2 0 g0 rfl
  obtain ⟨y3, h3, gh3⟩ := hf2 1 g1 rfl
  rw [p0, u0, cellsI] at h2
  rw [p1, u1, cellsI] at h3
  obtain ⟨i2, e2, _, _⟩ := DataW.trod_int Try.underlying3 h2
  obtain ⟨i3, e3, _, _⟩ := DataW.trod_int Try.underlying3 h3
  simp at e0 e2 e3
  exact ⟨⟨i0, i2, i3⟩, by rw [e0, e2, e3]⟩
instance : Inhabited Rc.TxnAt := ⟨⟨0, 0, 0, false⟩⟩
instance : Inhabited Rc.DirtyAt := ⟨⟨0, 0⟩⟩
instance : Inhabited PRec := ⟨⟨⟨0, 0, 0, 0, 0, 0, 0, ⟨0, 0, ⟨#[]⟩, ⟨#[]⟩⟩, 0, 0, ⟨⟨#[]⟩, 0, 0⟩, [], []⟩, none, 0, none, 0⟩⟩
set_option maxRecDepth 100000 in
theorem trod_rec (fuel : Nat) (cs : List Value) (x : DataW H × List MemPlace) (h : DataW.trod enc Try.prog w base spare held fuel 49 cs = some x) (hL : Light 49 x.1) : ∃ p : PRec, cs = recC p ∧ PRecR w p := by
  obtain ⟨f0, f1, f2, f3, f4, f5, f6, f7, f8, f9, f10, f11, f12, hu, ⟨o0, o1, o2, o3, o4, o5, o6, o7, o8, o9, o10, o11, o12⟩, ⟨t0, t1, t2, t3, t4, t5, t6, t7, t8, t9, t10, t11, t12⟩⟩ := reFields
  obtain ⟨n, hl, hf⟩ := trod_field hu h
  rw [cellsRe] at hl
  obtain ⟨a0, a1, a2, a3, a4, a5, a6, a7, a8, a9, b0, b1, b2, b3, b4, b5, b6, b7, rfl⟩ := list18 hl
  obtain ⟨y0, h0, gh0⟩ := hf 0 f0 rfl
  obtain ⟨y1, h1, gh1⟩ := hf 1 f1 rfl
  obtain ⟨y2, h2, gh2⟩ := hf 2 f2 rfl
  obtain ⟨y3, h3, gh3⟩ := hf 3 f3 rfl
  obtain ⟨y4, h4, gh4⟩ := hf 4 f4 rfl
  obtain ⟨y5, h5, gh5⟩ := hf 5 f5 rfl
  obtain ⟨y6, h6, gh6⟩ := hf 6 f6 rfl
  obtain ⟨y7, h7, gh7⟩ := hf 7 f7 rfl
  obtain ⟨y8, h8, gh8⟩ := hf 8 f8 rfl
  obtain ⟨y9, h9, gh9⟩ := hf 9 f9 rfl
  obtain ⟨y10, h10, gh10⟩ := hf 10 f10 rfl
  obtain ⟨y11, h11, gh11⟩ := hf 11 f11 rfl
  obtain ⟨y12, h12, gh12⟩ := hf 12 f12 rfl
  rw [o0, t0, cellsI] at h0
  rw [o1, t1, cellsI] at h1
  rw [o2, t2, cellsI] at h2
  rw [o3, t3, cellsI] at h3
  rw [o4, t4, cellsI] at h4
  rw [o5, t5, cellsI] at h5
  rw [o6, t6, cellsI] at h6
  rw [o7, t7, cellsOp] at h7
  rw [o8, t8, cellsI] at h8
  rw [o9, t9, cellsI] at h9
  rw [o10, t10, cellsEn] at h10
  rw [o11, t11, cellsTs] at h11
  rw [o12, t12, cellsDs] at h12
  obtain ⟨i0, e0, _, _⟩ := DataW.trod_int Try.underlying3 h0
  obtain ⟨i1, e1, _, _⟩ := DataW.trod_int Try.underlying3 h1
  obtain ⟨i2, e2, _, _⟩ := DataW.trod_int Try.underlying3 h2
  obtain ⟨i3, e3, _, _⟩ := DataW.trod_int Try.underlying3 h3
  obtain ⟨i4, e4, _, _⟩ := DataW.trod_int Try.underlying3 h4
  obtain ⟨i5, e5, _, _⟩ := DataW.trod_int Try.underlying3 h5
  obtain ⟨i6, e6, _, _⟩ := DataW.trod_int Try.underlying3 h6
  obtain ⟨op, e7⟩ := trod_opr h7
  obtain ⟨i8, e8, _, _⟩ := DataW.trod_int Try.underlying3 h8
  obtain ⟨i9, e9, _, _⟩ := DataW.trod_int Try.underlying3 h9
  obtain ⟨ek, e10⟩ := trod_en h10
  obtain ⟨A, c, ts, e11, r11, _, l11⟩ := trod_row (en := txC) (k := 4) (fun _ => rfl) (by omega) Try.underlying46 cellsTx bytesTx (Q := fun _ => True) trod_tx (by rw [← t11]; exact gh11 hL) h11
  obtain ⟨B, d, ds, e12, r12, _, l12⟩ := trod_row (en := diC) (k := 2) (fun _ => rfl) (by omega) Try.underlying47 cellsDi bytesDi (Q := fun _ => True) trod_di (by rw [← t12]; exact gh12 hL) h12
  simp at e0 e1 e2 e3 e4 e5 e6 e7 e8 e9 e10 e11 e12
  obtain ⟨e70, e71, e72, e73⟩ := e7
  obtain ⟨e100, e101, e102⟩ := e10
  refine ⟨⟨⟨i0, i1, i2, i3, i4, i5, i6, op, i8, i9, ek, ts, ds⟩, A, c, B, d⟩, ?_, ⟨r11, r12, l11, l12⟩⟩
  rw [e0, e1, e2, e3, e4, e5, e6, e70, e71, e72, e73, e8, e9, e100, e101, e102, e11, e12]
  rfl
set_option maxRecDepth 100000 in
/-- A record, opened. -/
theorem open_rec {r : Reach} {b0 : Nat} {v : Value} {d : DataW H} {ps : List MemPlace} (hval : Value.okWide Try.prog w r b0 49 v) (hd : DataW.Trod enc Try.prog w base spare held 49 v d ps) (hL : Light 49 d) :
    ∃ p : PRec, v = recV p.r (.slice p.A p.r.txns.length p.c) (.slice p.B p.r.dirty.length p.d) ∧ PRecR w p := by
  obtain ⟨f0, f1, f2, f3, f4, f5, f6, f7, f8, f9, f10, f11, f12, hu, _⟩ := reFields
  obtain ⟨cs, rfl, hsz⟩ := okWide_struct hu hval
  obtain ⟨fuel, hf⟩ := hd
  obtain ⟨p, hc, hR⟩ := trod_rec _ _ _ hf hL
  refine ⟨p, ?_, hR⟩
  have hc2 : cs.toList = recC p := by simpa [Value.cells] using hc
  show Value.agg cs = .agg _
  congr 1
  exact Array.toList_inj.1 hc2
set_option maxRecDepth 100000 in
/-- A row of records, opened. -/
theorem open_recs {r : Reach} {b0 : Nat} {v : Value} {d : DataW H} {ps : List MemPlace} (hval : Value.okWide Try.prog w r b0 29 v) (hd : DataW.Trod enc Try.prog w base spare held 29 v d ps) (hL : Light 29 d) :
    ∃ (A : Option Addr) (c : Nat) (l : List PRec), v = .slice A l.length c ∧ Reads w A c l.length (l.flatMap recC) ∧ (∀ p ∈ l, PRecR w p) ∧ l.length ≤ 140737488355328 := by
  obtain ⟨a, len, cap, rfl⟩ := okWide_slice Try.underlying29 hval
  obtain ⟨fuel, hf⟩ := hd
  obtain ⟨A, c, l, h1, h2, h3, h4⟩ := trod_row (en := recC) (k := 18) recC_len (by omega) Try.underlying29 cellsRe bytesRe (Q := PRecR w) trod_rec hL hf
  exact ⟨A, c, l, by simpa [Value.cells] using h1, h2, h3, h4⟩
def booC (b : Bool) : List Value := [.bool b]
theorem booC_len (b : Bool) : (booC b).length = 1 := rfl
theorem trod_bo (fuel : Nat) (cs : List Value) (x : DataW H × List MemPlace) (h : DataW.trod enc Try.prog w base spare held fuel 4 cs = some x) (_ : Light 4 x.1) : ∃ o : Bool, cs = booC o ∧ True := by
  obtain ⟨b, e, _⟩ := DataW.trod_bool Try.underlying4 h
  exact ⟨b, e, trivial⟩
set_option maxRecDepth 100000 in
theorem open_bools {r : Reach} {b0 : Nat} {v : Value} {d : DataW H} {ps : List MemPlace} (hval : Value.okWide Try.prog w r b0 35 v) (hd : DataW.Trod enc Try.prog w base spare held 35 v d ps) (hL : Light 35 d) :
    ∃ (A : Option Addr) (c : Nat) (l : List Bool), v = .slice A l.length c ∧ Reads w A c l.length (l.flatMap booC) ∧ l.length ≤ 140737488355328 := by
  obtain ⟨a, len, cap, rfl⟩ := okWide_slice Try.underlying35 hval
  obtain ⟨fuel, hf⟩ := hd
  obtain ⟨A, c, l, h1, h2, _, h4⟩ := trod_row (en := booC) (k := 1) booC_len (by omega) Try.underlying35 cellsB bytesB (Q := fun _ => True) trod_bo hL hf
  exact ⟨A, c, l, by simpa [Value.cells] using h1, h2, h4⟩
theorem trod_st (fuel : Nat) (cs : List Value) (x : DataW H × List MemPlace) (h : DataW.trod enc Try.prog w base spare held fuel 9 cs = some x) (hL : Light 9 x.1) : ∃ o : ByteArray, cs = strC o ∧ o.size ≤ 140737488355328 := by
  obtain ⟨b, e, rfl, _⟩ := DataW.trod_string Try.underlying9 h
  refine ⟨b, e, ?_⟩
  have h1 := hL b.data.toList.length (by unfold DataW.weights; exact List.mem_singleton.2 rfl)
  have h2 := reachBytes_lt
  have h3 : b.data.toList.length = b.size := by simp
  omega
set_option maxRecDepth 100000 in
/-- A disk, opened. -/
theorem open_disk {r : Reach} {b0 : Nat} {v : Value} {d : DataW H} {ps : List MemPlace} (hval : Value.okWide Try.prog w r b0 24 v) (hd : DataW.Trod enc Try.prog w base spare held 24 v d ps) (hL : Light 24 d) :
    ∃ (A : Option Addr) (c : Nat) (k : Lg.Dk), v = diskV k A c ∧ Reads w A c k.sectors.length (k.sectors.flatMap strC) ∧ (∀ b ∈ k.sectors, b.size ≤ 140737488355328) ∧ k.sectors.length ≤ 140737488355328 ∧ (Lit.int .i64 k.left).wf = true := by
  obtain ⟨f0, f1, f2, hu, ⟨o0, o1, o2⟩, t0, t1, t2⟩ := dkFields
  obtain ⟨cs, rfl, hsz⟩ := okWide_struct hu hval
  obtain ⟨fuel, h⟩ := hd
  obtain ⟨n, hl, hf⟩ := trod_field hu h
  rw [cellsDk] at hl
  obtain ⟨c0, c1, c2, hcs⟩ := list3' hl
  rw [hcs] at hf
  obtain ⟨y0, h0, gh0⟩ := hf 0 f0 rfl
  obtain ⟨y1, h1, gh1⟩ := hf 1 f1 rfl
  obtain ⟨y2, h2, gh2⟩ := hf 2 f2 rfl
  rw [o0, t0, cellsSs] at h0
  rw [o1, t1, cellsI] at h1
  rw [o2, t2, cellsB] at h2
  obtain ⟨A, c, l, e0, r0, q0, l0⟩ := trod_row (en := strC) (k := 1) strC_len (by omega) Try.underlying22 cellsS bytesS (Q := fun o => o.size ≤ 140737488355328) trod_st (by rw [← t0]; exact gh0 hL) h0
  obtain ⟨i1, e1, _, w1⟩ := DataW.trod_int Try.underlying3 h1
  obtain ⟨b2, e2, _⟩ := DataW.trod_bool Try.underlying4 h2
  simp at e0 e1 e2
  refine ⟨A, c, ⟨l, i1, b2⟩, ?_, r0, q0, l0, w1⟩
  have hc2 : cs.toList = [c0, c1, c2] := by simpa [Value.cells] using hcs
  show Value.agg cs = .agg _
  congr 1
  apply Array.toList_inj.1
  rw [hc2, e0, e1, e2]
end
end Go.Proofs.Ytojaagnfjenhoaa
/- The walk over package log: Open. -/
namespace Go.Proofs.Ytojaagnfjenhoaa
open Go.RowKit
set_option maxRecDepth 100000 in
set_option maxHeartbeats 8000000 in
theorem open_any (d : Lg.Dk) (hw : ∀ b ∈ d.sectors, b.size ≤ 128) (hdl : d.sectors.length ≤ 7000) (A : Option Addr) (c : Nat) (f0 n0 : Int) (hf1 : -9223372036854775808 ≤ f0) (hf2 : f0 ≤ 9223372036854775807) (hn : n0 ≤ 100000) (w : World) (h : DiskR w d A c) :
    Calls Try.prog 8 #[diskV d A c, .int .i64 f0, .int .i64 n0] w (OpenOut (Lg.openD d f0 n0) w) := by
  have HS := Lib.hid (fun W (hb : Below w.heap.size w W) => sectors_any d (fun b hb => Nat.le_trans (hw b hb) (by omega)) A c f0 n0 hf1 hf2 hn W (h.below hb))
  have hlen := @Lg.secs_len d hw n0.toNat f0
  have HO := Lib.hid (fun ps v w' x (hx : Lg.openD d f0 n0 = x) (h1 : ps.map (·.r) = x.2.1) (h2 : OwnL recC 18 49 w.heap.size w' v ps) (h3 : RecsN w.heap.size w' ps) (h4 : Below w.heap.size w w') => show OpenOut (Lg.openD d f0 n0) w (.returned (.tuple #[logV x.1, v, .int .i64 x.2.2])) w' from ⟨ps, v, by rw [hx]; exact h1, by rw [hx], h2, h3, h4⟩)
  have hdef : Lg.openD d f0 n0 = Lg.openD d f0 n0 := rfl
  conv at hdef => rhs; unfold Lg.openD
  have hne := @Lg.secs_fault d n0.toNat f0
  generalize Lg.openD d f0 n0 = o at HO hdef ⊢
  generalize OpenOut o w = Q at HO ⊢
  clear h hw
  cases hs : Lg.secsD d f0 n0.toNat with
  | error e =>
    rw [hs] at HS hdef
    have he := hne hs
    simp only at hdef
    have HDEF := Lib.hid hdef
    have he1 : (e == 0) = false := by simpa using he
    have he2 : (e != 0) = true := by simpa using he
    clear hdef hne hlen hs he hn hf1 hf2 hdl
    go_enter Try.func8, Try.ntmps8
    go_upto_region 1 with fail
    have H0 := Lib.hid (show BxL w.heap.size w [(#[.slice A d.sectors.length c, .int .i64 d.left, .bool d.down], 24), (#[.int .i64 0, .int .i64 0, .int .i64 0, .int .i64 0, .string ⟨#[]⟩], 28)] ((w.alloc (.cells #[.slice A d.sectors.length c, .int .i64 d.left, .bool d.down] 24)).alloc (.cells #[.int .i64 0, .int .i64 0, .int .i64 0, .int .i64 0, .string ⟨#[]⟩] 28)) from ((BxL.nil (Below.refl w.heap.size w)).new (by simp) #[.slice A d.sectors.length c, .int .i64 d.left, .bool d.down] 24).new (by simp) #[.int .i64 0, .int .i64 0, .int .i64 0, .int .i64 0, .string ⟨#[]⟩] 28)
    obtain ⟨W0, hW0⟩ : ∃ W, W = ((w.alloc (.cells #[.slice A d.sectors.length c, .int .i64 d.left, .bool d.down] 24)).alloc (.cells #[.int .i64 0, .int .i64 0, .int .i64 0, .int .i64 0, .string ⟨#[]⟩] 28)) := ⟨_, rfl⟩
    rw [← hW0] at H0 ⊢
    clear hW0
    dsimp only [diskV] at HS
    go_wp2_with (first
      | (with_reducible refine listLoad (by kernel_rfl) 24 (.tmp 3) rfl w.heap.size rfl #[.slice A d.sectors.length c, .int .i64 d.left, .bool d.down] _ H0.out.get0 _ Try.underlying24 (by kernel_rfl) (by kernel_rfl) ?_)
      | (go_at_call 19; (with_reducible refine (HS.out _ H0.out.below).mono ?_); rintro e1 w1 ⟨hb1, rfl⟩; (try dsimp only [secV]); have H1 := Lib.hid (H0.out.step hb1); clear hb1)
      | (with_reducible refine listStore (by kernel_rfl) 28 (.tmp 6) (.tmp 26) rfl (w.heap.size + 1) #[.int .i64 0, .int .i64 0, .int .i64 0, .int .i64 0, .string ⟨#[]⟩] _ _ rfl rfl H1.out.get1 (by kernel_rfl) (by kernel_rfl) (by kernel_rfl) ?_))
    refine bodyPost_ret (v := .tuple #[.agg #[.int .i64 0, .int .i64 0, .int .i64 0, .int .i64 0, .string ⟨#[]⟩], .slice none 0 0, .int .i64 e]) (results_cell3 rfl _ _ rfl (load_whole (setRow_heap _ _ _ _ _ _ H1.out.get1) Try.underlying28 (by kernel_rfl) (by kernel_rfl)) rfl rfl) rfl ?_
    exact HO.out [] _ _ (Lg.noLog, [], e) HDEF.out rfl (ownNil _ _ _ _) (RecsN.nil _ _) ((H1.out.row 1 _ _ rfl).below)
  | ok L =>
    rw [hs] at HS hdef
    simp only at hdef
    have hl2 := hlen hs
    have hLl : L.length ≤ 1000000 := by
      rcases hl2.2 with h0 | h0
      · have := hl2.1; rw [h0] at this; omega
      · have := hl2.1
        have h3 : n0.toNat ≤ 7000 := by omega
        omega
    have HDEF := Lib.hid hdef
    clear hdef hne hlen hs hn hf1 hf2 hdl hl2
    obtain ⟨S, hS⟩ : ∃ S : ByteArray, S = ⟨L.toArray⟩ := ⟨_, rfl⟩
    have hSl : S.data.toList = L := by rw [hS]
    have hSs : S.size = L.length := by rw [← hSl]; simp
    have hSm : S.size ≤ 1000000 := by omega
    have HG := Lib.hid (fun a W => get_rec S a hSm W)
    rw [hSl] at HG
    have HSV : Hid (secV (.ok L) = .tuple #[.string S, .int .i64 0]) := Lib.hid (by rw [hS]; rfl)
    have HSL := Lib.hid hSl
    have HTL := Lib.hid (fun k m (hk : k ≤ S.size) (hm : m ≤ k) => show (⟨((L.take k).drop (k - m)).toArray⟩ : ByteArray) = S.extract (k - m) k from by
      rw [← HSL.out]
      apply ByteArray.ext
      rw [ByteArray.data_extract]
      apply Array.toList_inj.1
      rw [Array.toList_extract, List.extract_eq_take_drop, List.drop_take])
    rw [← hSs] at HDEF
    clear hS hSl hLl hSs
    go_enter Try.func8, Try.ntmps8
    go_upto_region 1 with fail
    have H0 := Lib.hid (show BxL w.heap.size w [(#[.slice A d.sectors.length c, .int .i64 d.left, .bool d.down], 24), (#[.int .i64 0, .int .i64 0, .int .i64 0, .int .i64 0, .string ⟨#[]⟩], 28)] ((w.alloc (.cells #[.slice A d.sectors.length c, .int .i64 d.left, .bool d.down] 24)).alloc (.cells #[.int .i64 0, .int .i64 0, .int .i64 0, .int .i64 0, .string ⟨#[]⟩] 28)) from ((BxL.nil (Below.refl w.heap.size w)).new (by simp) #[.slice A d.sectors.length c, .int .i64 d.left, .bool d.down] 24).new (by simp) #[.int .i64 0, .int .i64 0, .int .i64 0, .int .i64 0, .string ⟨#[]⟩] 28)
    obtain ⟨W0, hW0⟩ : ∃ W, W = ((w.alloc (.cells #[.slice A d.sectors.length c, .int .i64 d.left, .bool d.down] 24)).alloc (.cells #[.int .i64 0, .int .i64 0, .int .i64 0, .int .i64 0, .string ⟨#[]⟩] 28)) := ⟨_, rfl⟩
    rw [← hW0] at H0 ⊢
    clear hW0
    dsimp only [diskV] at HS
    go_upto_block 0 with (first
      | (with_reducible refine listLoad (by kernel_rfl) 24 (.tmp 3) rfl w.heap.size rfl #[.slice A d.sectors.length c, .int .i64 d.left, .bool d.down] _ H0.out.get0 _ Try.underlying24 (by kernel_rfl) (by kernel_rfl) ?_)
      | (go_at_call 19; (with_reducible refine (HS.out _ H0.out.below).mono ?_); rintro e1 w1 ⟨hb1, rfl⟩; rw [HSV.out]; have H1 := Lib.hid (H0.out.step hb1); clear hb1))
    clear H0 HS HSV
    go_cut [11, 12] (fun v a wc => ∃ (ps : List PRec) (k : Nat), a = .int .i64 (k : Int) ∧ k ≤ S.size ∧ Lg.openL L (S.size + 1) 0 = (ps.map (·.r), k) ∧ BxL w.heap.size w [(#[.slice A d.sectors.length c, .int .i64 d.left, .bool d.down], 24), (#[.int .i64 0, .int .i64 0, .int .i64 0, .int .i64 0, .string ⟨#[]⟩], 28)] wc ∧ OwnL recC 18 49 (w.heap.size + 2) wc v ps ∧ RecsN (w.heap.size + 2) wc ps)
    case first =>
      go_wp2_with fail
      go_loopw [11, 12] (fun v a wr => ∃ (ps : List PRec) (k f : Nat), a = .int .i64 (k : Int) ∧ k ≤ S.size ∧ S.size + 1 ≤ f + k ∧ ps.length ≤ k ∧ Lg.openL L (S.size + 1) 0 = (ps.map (·.r) ++ (Lg.openL L f k).1, (Lg.openL L f k).2) ∧ BxL w.heap.size w [(#[.slice A d.sectors.length c, .int .i64 d.left, .bool d.down], 24), (#[.int .i64 0, .int .i64 0, .int .i64 0, .int .i64 0, .string ⟨#[]⟩], 28)] wr ∧ OwnL recC 18 49 (w.heap.size + 2) wr v ps ∧ RecsN (w.heap.size + 2) wr ps) (fun _ a _ => S.size - (intOf a).toNat)
      case atStart => exact ⟨[], 0, S.size + 1, rfl, Nat.zero_le _, Nat.le_refl _, Nat.le_refl _, rfl, H1.out, ownNil _ _ _ _, RecsN.nil _ _⟩
      case round =>
        obtain ⟨ps, k, f, rfl, hk, hf, hpk, hop, hbx, hown, hrs⟩ := hrel
        obtain ⟨f, rfl⟩ : ∃ g, f = g + 1 := ⟨f - 1, by omega⟩
        have HOP := Lib.hid hop
        have HB := Lib.hid hbx
        have HRS := Lib.hid hrs
        obtain ⟨A8, c8, rfl⟩ := ownLen hown
        have HOW := Lib.hid hown
        clear hop hbx hrs hown H1
        have hGk := HG.out k
        have hGN := @Lg.openL_none L f k
        have hGS := @Lg.openL_stop L f k
        have hGG := @Lg.openL_go L f k
        have hGI := @Lg.getO_some L k
        rw [show L.length = S.size by rw [← HSL.out]; simp] at hGI
        cases hg : Lg.getO L k with
        | none =>
          rw [hg] at hGk
          have HGk := Lib.hid hGk
          have HX := Lib.hid (HOP.out.trans (by rw [hGN hg, List.append_nil]))
          clear hGk hGN hGS hGG hGI hg
          go_wp2_with (first
            | (go_at_call 20; (with_reducible refine (HGk.out _).mono ?_); rintro e w2 ⟨hb2, kk, hkk, rfl⟩; have he1 : (kk == 0) = false := (by simpa using hkk); have he2 : (kk != 0) = true := (by simpa using hkk); clear hkk)
            | (with_reducible refine wpList_store_new rfl 49 (.tmp 13) (.tmp 32) rfl #[.int .i64 0, .int .i64 0, .int .i64 0, .int .i64 0, .int .i64 0, .int .i64 0, .int .i64 0, .int .i64 0, .int .i64 0, .string ⟨#[]⟩, .string ⟨#[]⟩, .int .i64 0, .int .i64 0, .string ⟨#[]⟩, .int .i64 0, .int .i64 0, .slice none 0 0, .slice none 0 0] _ _ rfl (by kernel_rfl) (by kernel_rfl) (by kernel_rfl) (by kernel_rfl) ?_))
          go_meet
          case rel => exact ⟨ps, k, rfl, hk, HX.out, HB.out.step (pastAlloc hb2), ownBelow HOW.out (pastAlloc hb2), HRS.out.below (pastAlloc hb2)⟩
        | some rb =>
          obtain ⟨r, b⟩ := rb
          rw [hg] at hGk
          have HGk := Lib.hid hGk
          obtain ⟨_, hb8, hbs⟩ := hGI hg
          by_cases hl : r.lsn = (k : Int) + 1
          · have HX := Lib.hid (HOP.out.trans (by rw [hGG hg hl]))
            clear hGk hGN hGS hGG hGI hg
            obtain ⟨lsn, prev, txn, kind, page, next, nu, ⟨ok, os, oo, on⟩, how, root, ⟨ek, ep, es⟩, ts, ds⟩ := r
            simp only at hl
            subst hl
            have hwk : IntKind.i64.wrap ((k : Int) + 1) = (k : Int) + 1 := IntWalk.i64_in _ (by omega)
            have hself : (((k : Int) + 1) != ((k : Int) + 1)) = false := by simp
            go_upto_region 8 with (first
              | (go_at_call 20; (with_reducible refine (HGk.out _).mono ?_); rintro e w2 ⟨hb2, A1, c1, D1, d1, rfl, hrr⟩; (try dsimp only [recV, recA]); have hx2 := blkCell (heap_alloc_new w2 (.cells #[.int .i64 ((k : Int) + 1), .int .i64 prev, .int .i64 txn, .int .i64 kind, .int .i64 page, .int .i64 next, .int .i64 nu, .int .i64 ok, .int .i64 os, .string oo, .string on, .int .i64 how, .int .i64 root, .string ek, .int .i64 ep, .int .i64 es, .slice A1 ts.length c1, .slice D1 ds.length d1] 49)); simp at hx2)
              | (with_reducible refine wpList_store_new rfl 49 (.tmp 13) (.tmp 32) rfl #[.int .i64 ((k : Int) + 1), .int .i64 prev, .int .i64 txn, .int .i64 kind, .int .i64 page, .int .i64 next, .int .i64 nu, .int .i64 ok, .int .i64 os, .string oo, .string on, .int .i64 how, .int .i64 root, .string ek, .int .i64 ep, .int .i64 es, .slice A1 ts.length c1, .slice D1 ds.length d1] _ _ rfl (by kernel_rfl) (by kernel_rfl) (by kernel_rfl) (by kernel_rfl) ?_))
            have HX2 := Lib.hid (heap_alloc_new w2 (.cells #[.int .i64 ((k : Int) + 1), .int .i64 prev, .int .i64 txn, .int .i64 kind, .int .i64 page, .int .i64 next, .int .i64 nu, .int .i64 ok, .int .i64 os, .string oo, .string on, .int .i64 how, .int .i64 root, .string ek, .int .i64 ep, .int .i64 es, .slice A1 ts.length c1, .slice D1 ds.length d1] 49))
            have HB2 := Lib.hid (HB.out.step (pastAlloc (o := .cells #[.int .i64 ((k : Int) + 1), .int .i64 prev, .int .i64 txn, .int .i64 kind, .int .i64 page, .int .i64 next, .int .i64 nu, .int .i64 ok, .int .i64 os, .string oo, .string on, .int .i64 how, .int .i64 root, .string ek, .int .i64 ep, .int .i64 es, .slice A1 ts.length c1, .slice D1 ds.length d1] 49) hb2))
            have HO2 := Lib.hid (ownBelow HOW.out (pastAlloc (o := .cells #[.int .i64 ((k : Int) + 1), .int .i64 prev, .int .i64 txn, .int .i64 kind, .int .i64 page, .int .i64 next, .int .i64 nu, .int .i64 ok, .int .i64 os, .string oo, .string on, .int .i64 how, .int .i64 root, .string ek, .int .i64 ep, .int .i64 es, .slice A1 ts.length c1, .slice D1 ds.length d1] 49) hb2))
            have HR2 := Lib.hid ((HRS.out.below (pastAlloc (o := .cells #[.int .i64 ((k : Int) + 1), .int .i64 prev, .int .i64 txn, .int .i64 kind, .int .i64 page, .int .i64 next, .int .i64 nu, .int .i64 ok, .int .i64 os, .string oo, .string on, .int .i64 how, .int .i64 root, .string ek, .int .i64 ep, .int .i64 es, .slice A1 ts.length c1, .slice D1 ds.length d1] 49) hb2)).push (p := ⟨⟨(k : Int) + 1, prev, txn, kind, page, next, nu, ⟨ok, os, oo, on⟩, how, root, ⟨ek, ep, es⟩, ts, ds⟩, A1, c1, D1, d1⟩) ((hrr.mono (by have h1 := HB.out.lt (i := 1) (by simp); omega)).below (allocB w2 _)))
            obtain ⟨g, hge⟩ : ∃ g, g = w2.heap.size := ⟨_, rfl⟩
            obtain ⟨w3, hw3⟩ : ∃ W, W = w2.alloc (.cells #[.int .i64 ((k : Int) + 1), .int .i64 prev, .int .i64 txn, .int .i64 kind, .int .i64 page, .int .i64 next, .int .i64 nu, .int .i64 ok, .int .i64 os, .string oo, .string on, .int .i64 how, .int .i64 root, .string ek, .int .i64 ep, .int .i64 es, .slice A1 ts.length c1, .slice D1 ds.length d1] 49) := ⟨_, rfl⟩
            rw [← hge, ← hw3] at HX2
            rw [← hw3] at HB2 HO2 HR2
            try rw [← hge]
            try rw [← hw3]
            clear hge hw3 hx2 hb2 hrr HOW HRS HB HGk hself
            have hll : ps.length + 1 ≤ 1048576 := by omega
            go_wp2_with (first
              | (with_reducible refine listLoad (by kernel_rfl) 49 (.tmp 13) rfl g rfl #[.int .i64 ((k : Int) + 1), .int .i64 prev, .int .i64 txn, .int .i64 kind, .int .i64 page, .int .i64 next, .int .i64 nu, .int .i64 ok, .int .i64 os, .string oo, .string on, .int .i64 how, .int .i64 root, .string ek, .int .i64 ep, .int .i64 es, .slice A1 ts.length c1, .slice D1 ds.length d1] _ HX2.out _ Try.underlying49 (by kernel_rfl) (by kernel_rfl) ?_)
              | (at_builtin; refine wpList_push (by kernel_rfl) (.tmp 44) (.tmp 46) 29 49 Try.underlying29 info_rec2 rfl (by omega) (by omega) rfl (w.heap.size + 2) _ ps.length (ps.flatMap recC) rfl (ownBelow HO2.out (allocB _ _)) w3.heap.size (recC ⟨⟨(k : Int) + 1, prev, txn, kind, page, next, nu, ⟨ok, os, oo, on⟩, how, root, ⟨ek, ep, es⟩, ts, ds⟩, A1, c1, D1, d1⟩) 49 rfl (heap_alloc_new w3 _) rfl (recC_one _) hll (by have := HB2.out.lt (i := 1) (by simp); simp; omega) ?_; intro v7 w7 ho hg hb; have hR7 := fun q hq => ((HR2.out.below (allocB w3 (.cells #[.int .i64 ((k : Int) + 1), .int .i64 prev, .int .i64 txn, .int .i64 kind, .int .i64 page, .int .i64 next, .int .i64 nu, .int .i64 ok, .int .i64 os, .string oo, .string on, .int .i64 how, .int .i64 root, .string ek, .int .i64 ep, .int .i64 es, .slice A1 ts.length c1, .slice D1 ds.length d1] 49))) q hq).grown (ownBelow HO2.out (allocB w3 (.cells #[.int .i64 ((k : Int) + 1), .int .i64 prev, .int .i64 txn, .int .i64 kind, .int .i64 page, .int .i64 next, .int .i64 nu, .int .i64 ok, .int .i64 os, .string oo, .string on, .int .i64 how, .int .i64 root, .string ek, .int .i64 ep, .int .i64 es, .slice A1 ts.length c1, .slice D1 ds.length d1] 49))) (by decide) (by decide) hg; have HB7 := Lib.hid ((HB2.out.step (allocB w3 (.cells #[.int .i64 ((k : Int) + 1), .int .i64 prev, .int .i64 txn, .int .i64 kind, .int .i64 page, .int .i64 next, .int .i64 nu, .int .i64 ok, .int .i64 os, .string oo, .string on, .int .i64 how, .int .i64 root, .string ek, .int .i64 ep, .int .i64 es, .slice A1 ts.length c1, .slice D1 ds.length d1] 49))).under (M := w.heap.size + 2) (Nat.le_refl _) hb); have HO7 := Lib.hid (OwnL.push (enc := recC) ho); have HR7 := Lib.hid hR7; clear ho hg hb hR7))
            go_roundw
            case rel => exact ⟨_, b, f, rfl, hbs, by omega, by rw [List.length_append, List.length_singleton]; omega, by rw [HX.out, List.map_append, List.append_assoc]; rfl, HB7.out, HO7.out, HR7.out⟩
            case measure => simp [intOf]; omega
          · have HX := Lib.hid (HOP.out.trans (by rw [hGS hg hl, List.append_nil]))
            clear hGk hGN hGS hGG hGI hg
            obtain ⟨lsn, prev, txn, kind, page, next, nu, ⟨ok, os, oo, on⟩, how, root, ⟨ek, ep, es⟩, ts, ds⟩ := r
            simp only at hl
            have hwk : IntKind.i64.wrap ((k : Int) + 1) = (k : Int) + 1 := IntWalk.i64_in _ (by omega)
            have hl1 : (lsn == ((k : Int) + 1)) = false := by simpa using hl
            have hl2 : (lsn != ((k : Int) + 1)) = true := by simpa using hl
            clear hl
            go_wp2_with (first
              | (go_at_call 20; (with_reducible refine (HGk.out _).mono ?_); rintro e w2 ⟨hb2, A1, c1, D1, d1, rfl, hrr⟩; (try dsimp only [recV, recA]); have hx2 := blkCell (heap_alloc_new w2 (.cells #[.int .i64 lsn, .int .i64 prev, .int .i64 txn, .int .i64 kind, .int .i64 page, .int .i64 next, .int .i64 nu, .int .i64 ok, .int .i64 os, .string oo, .string on, .int .i64 how, .int .i64 root, .string ek, .int .i64 ep, .int .i64 es, .slice A1 ts.length c1, .slice D1 ds.length d1] 49)); simp at hx2)
              | (with_reducible refine wpList_store_new rfl 49 (.tmp 13) (.tmp 32) rfl #[.int .i64 lsn, .int .i64 prev, .int .i64 txn, .int .i64 kind, .int .i64 page, .int .i64 next, .int .i64 nu, .int .i64 ok, .int .i64 os, .string oo, .string on, .int .i64 how, .int .i64 root, .string ek, .int .i64 ep, .int .i64 es, .slice A1 ts.length c1, .slice D1 ds.length d1] _ _ rfl (by kernel_rfl) (by kernel_rfl) (by kernel_rfl) (by kernel_rfl) ?_))
            go_meet
            case rel => exact ⟨ps, k, rfl, hk, HX.out, HB.out.step (pastAlloc hb2), ownBelow HOW.out (pastAlloc hb2), HRS.out.below (pastAlloc hb2)⟩
    case rest =>
      obtain ⟨ps, k, rfl, hk, hop, hbx, hown, hrs⟩ := hcut
      obtain ⟨wb, rfl⟩ : ∃ wm : World, wm = wc := ⟨_, rfl⟩
      obtain ⟨A8, c8, rfl⟩ := ownLen hown
      have HB2 := Lib.hid hbx
      have HO2 := Lib.hid hown
      have HR2 := Lib.hid hrs
      obtain ⟨m, hm⟩ : ∃ m : Nat, m = k % 128 := ⟨_, rfl⟩
      have hmI : (k : Int) % 128 = (m : Int) := by omega
      have hwm : IntKind.i64.wrap ((k : Int) - (m : Int)) = (k : Int) - (m : Int) := IntWalk.i64_in _ (by omega)
      have hm1 : (0 : Int) ≤ (k : Int) - (m : Int) := by omega
      have hm2 : (k : Int) - (m : Int) ≤ (k : Int) := by omega
      have hm3 : (k : Int) ≤ (S.size : Int) := by omega
      have hm4 : ((k : Int) - (m : Int)).toNat = k - m := by omega
      have HFIN := Lib.hid (show o = (⟨f0, n0, (k : Int), (k : Int), S.extract (k - m) k⟩, ps.map (·.r), 0) from by
        rw [HDEF.out, hop]
        simp only
        rw [← hm, HTL.out k m hk (by omega)])
      clear hop hbx hown hrs H1 HDEF HTL HG HSL hm
      have HNW := Lib.hid (fun W => lnew_any f0 n0 W)
      dsimp only [logV] at HNW
      go_upto_region 11 with (first
        | (go_at_call 12; (with_reducible refine (HNW.out _).mono ?_); rintro e w4 ⟨rfl, hb4⟩)
        | (with_reducible refine wpList_store_new rfl 28 (.tmp 16) (.tmp 51) rfl #[.int .i64 f0, .int .i64 n0, .int .i64 0, .int .i64 0, .string ⟨#[]⟩] _ _ rfl (by kernel_rfl) (by kernel_rfl) (by kernel_rfl) (by kernel_rfl) ?_))
      have HL5 := Lib.hid (heap_alloc_new w4 (.cells #[.int .i64 f0, .int .i64 n0, .int .i64 0, .int .i64 0, .string ⟨#[]⟩] 28))
      have HB5 := Lib.hid (HB2.out.step (pastAlloc (o := .cells #[.int .i64 f0, .int .i64 n0, .int .i64 0, .int .i64 0, .string ⟨#[]⟩] 28) hb4))
      have HO5 := Lib.hid (ownBelow HO2.out (pastAlloc (o := .cells #[.int .i64 f0, .int .i64 n0, .int .i64 0, .int .i64 0, .string ⟨#[]⟩] 28) hb4))
      have HR5 := Lib.hid (HR2.out.below (pastAlloc (o := .cells #[.int .i64 f0, .int .i64 n0, .int .i64 0, .int .i64 0, .string ⟨#[]⟩] 28) hb4))
      have hg4 : w.heap.size + 2 ≤ w4.heap.size := by have h1 := HB2.out.lt (i := 1) (by simp); have := hb4.size; omega
      obtain ⟨g, hge⟩ : ∃ g, g = w4.heap.size := ⟨_, rfl⟩
      obtain ⟨w5, hw5⟩ : ∃ W, W = w4.alloc (.cells #[.int .i64 f0, .int .i64 n0, .int .i64 0, .int .i64 0, .string ⟨#[]⟩] 28) := ⟨_, rfl⟩
      rw [← hge, ← hw5] at HL5
      rw [← hw5] at HB5 HO5 HR5 ⊢
      rw [← hge] at hg4 ⊢
      clear hge hw5 hb4 HB2 HO2 HR2 HNW
      have hcl := blkCell HL5.out
      have hzl := blkFrozen HL5.out
      go_upto_region 12 with fail
      have HL6 := Lib.hid (show ((w5.setCell ⟨g, 2, none⟩ (.int .i64 (k : Int))).setCell ⟨g, 3, none⟩ (.int .i64 (k : Int))).heap[g]? = some (.cells #[.int .i64 f0, .int .i64 n0, .int .i64 (k : Int), .int .i64 (k : Int), .string ⟨#[]⟩] 28 (0, 0)) from by have h := blkSet 3 (blkSet 2 HL5.out (.int .i64 (k : Int))) (.int .i64 (k : Int)); simpa using h)
      have hcl6 := blkCell HL6.out
      have hzl6 := blkFrozen HL6.out
      clear hcl hzl
      go_upto_region 13 with fail
      have HL7 := Lib.hid (show (((w5.setCell ⟨g, 2, none⟩ (.int .i64 (k : Int))).setCell ⟨g, 3, none⟩ (.int .i64 (k : Int))).setCell ⟨g, 4, none⟩ (.string (S.extract (k - m) k))).heap[g]? = some (.cells #[.int .i64 f0, .int .i64 n0, .int .i64 (k : Int), .int .i64 (k : Int), .string (S.extract (k - m) k)] 28 (0, 0)) from by have h := blkSet 4 HL6.out (.string (S.extract (k - m) k)); simpa using h)
      have HAP := Lib.hid ((((Apart.refl g (g + 1) w5).cell g 2 (.int .i64 (k : Int)) (Nat.le_refl _) (Nat.lt_succ_self _)).cell g 3 (.int .i64 (k : Int)) (Nat.le_refl _) (Nat.lt_succ_self _)).cell g 4 (.string (S.extract (k - m) k)) (Nat.le_refl _) (Nat.lt_succ_self _))
      have HBE := Lib.hid (show Below g w5 (((w5.setCell ⟨g, 2, none⟩ (.int .i64 (k : Int))).setCell ⟨g, 3, none⟩ (.int .i64 (k : Int))).setCell ⟨g, 4, none⟩ (.string (S.extract (k - m) k))) from (((Below.refl g w5).setCell (p := ⟨g, 2, none⟩) (Nat.le_refl _) _).setCell (p := ⟨g, 3, none⟩) (Nat.le_refl _) _).setCell (p := ⟨g, 4, none⟩) (Nat.le_refl _) _)
      have HB7 := Lib.hid (HB5.out.under (M := g) (by show w.heap.size + 2 ≤ g; exact hg4) HBE.out)
      have HO7 := Lib.hid (ownSetOther HO5.out HL5.out (by decide) HAP.out)
      have HR7 := Lib.hid (show RecsN (w.heap.size + 2) _ ps from fun p hp => (HR5.out p hp).turn HAP.out.size (fun j cs T fr hj hjc hT => HAP.out.block j (heapLt hjc) (by
        rcases Nat.lt_trichotomy j g with h1 | h1 | h1
        · exact .inl h1
        · exfalso
          subst h1
          rw [HL5.out] at hjc
          injection hjc with hjc
          injection hjc with _ hjc
          rcases hT with h3 | h3
          · rw [h3] at hjc; exact absurd hjc (by decide)
          · rw [h3] at hjc; exact absurd hjc (by decide)
        · exact .inr h1)))
      generalize (((w5.setCell ⟨g, 2, none⟩ (.int .i64 (k : Int))).setCell ⟨g, 3, none⟩ (.int .i64 (k : Int))).setCell ⟨g, 4, none⟩ (.string (S.extract (k - m) k))) = w7 at HL7 HB7 HO7 HR7 ⊢
      clear HL5 HL6 HAP HBE HB5 HO5 HR5 hcl6 hzl6
      go_wp2_with (first
        | (with_reducible refine listLoad (by kernel_rfl) 28 (.tmp 16) rfl g rfl #[.int .i64 f0, .int .i64 n0, .int .i64 (k : Int), .int .i64 (k : Int), .string (S.extract (k - m) k)] _ HL7.out _ Try.underlying28 (by kernel_rfl) (by kernel_rfl) ?_)
        | (with_reducible refine listStore (by kernel_rfl) 28 (.tmp 6) (.tmp 64) rfl (w.heap.size + 1) #[.int .i64 f0, .int .i64 n0, .int .i64 (k : Int), .int .i64 (k : Int), .string (S.extract (k - m) k)] _ _ rfl rfl HB7.out.get1 (by kernel_rfl) (by kernel_rfl) (by kernel_rfl) ?_))
      refine bodyPost_ret (v := .tuple #[.agg #[.int .i64 f0, .int .i64 n0, .int .i64 (k : Int), .int .i64 (k : Int), .string (S.extract (k - m) k)], .slice A8 ps.length c8, .int .i64 0]) (results_cell3 rfl _ _ rfl (load_whole (setRow_heap _ _ _ _ _ _ HB7.out.get1) Try.underlying28 (by kernel_rfl) (by kernel_rfl)) rfl rfl) rfl ?_
      exact HO.out ps _ _ (⟨f0, n0, (k : Int), (k : Int), S.extract (k - m) k⟩, ps.map (·.r), 0) HFIN.out rfl (ownMono (ownRowOff HO7.out _ _ (by omega)) (by omega)) (fun p hp => ((HR7.out p hp).row _ _ (by omega)).mono (by omega)) ((HB7.out.row 1 _ _ rfl).below)
end Go.Proofs.Ytojaagnfjenhoaa
