/- The walk over the reference of the log: lists of records alike. -/
import Derived.Test.YtojaagnfjenhoaaHo02
import Derived.Test.YtojaagnfjenhoaaHo09
import Derived.Test.YtojaagnfjenhoaaHo01
import Derived.Deep.Slices
import Derived.Test.YtojaagnfjenhoaaHo06
namespace Go.Proofs.Ytojaagnfjenhoaa
open Go.RowKit
abbrev PRecR (w : World) (p : PRec) : Prop := RecR w p.r p.A p.c p.B p.d
theorem recs_no {l m : List PRec} {k : Nat} (h1 : k < l.length) (h2 : k < m.length) (h : l[k].r ≠ m[k].r) : decide (l.map (·.r) = m.map (·.r)) = false :=
  Rc.eq_no (l := l.map (·.r)) (m := m.map (·.r)) (k := k) (by simpa using h1) (by simpa using h2) (by simpa using h)
set_option maxRecDepth 100000 in
set_option maxHeartbeats 4000000 in
theorem recs_any (l m : List PRec) (hn : l.length ≤ 140737488355328) (_hm : m.length ≤ 140737488355328) (A A' : Option Addr) (c c' : Nat) (w : World) (hr : Reads w A c l.length (l.flatMap recC)) (hr' : Reads w A' c' m.length (m.flatMap recC)) (hl : ∀ p ∈ l, PRecR w p) (hm' : ∀ p ∈ m, PRecR w p) :
    Calls Try.prog 10 #[.slice A l.length c, .slice A' m.length c'] w fun e w' => e = .returned (.bool (decide (l.map (·.r) = m.map (·.r)))) ∧ Below w.heap.size w w' := by
  have HR := Lib.hid hr
  have HR' := Lib.hid hr'
  have HL := Lib.hid hl
  have HM := Lib.hid hm'
  obtain ⟨b, hb⟩ : ∃ b, b = decide (l.map (·.r) = m.map (·.r)) := ⟨_, rfl⟩
  rw [← hb]
  have HB := Lib.hid hb
  clear hr hr' hb hl hm'
  go_enter Try.func10, Try.ntmps10
  go_wp2_with fail
  go_loopw [5] (fun i wr => ∃ k : Nat, k ≤ l.length ∧ k ≤ m.length ∧ i = .int .i64 k ∧ (∀ j (hj : j < l.length) (hj' : j < m.length), j < k → l[j].r = m[j].r) ∧ Below w.heap.size w wr) (fun i _ => l.length - (intOf i).toNat)
  case atStart => exact ⟨0, Nat.zero_le _, Nat.zero_le _, rfl, fun _ _ _ h => absurd h (by omega), Below.refl _ _⟩
  case round =>
    obtain ⟨k, hk, hkm, rfl, hall, hbw⟩ := hrel
    have HA := Lib.hid hall
    clear hall
    by_cases hl1 : k < l.length
    · have hi3 : decide (k < l.length) = true := decide_eq_true hl1
      by_cases hl2 : k < m.length
      · have hi4 : decide (k < m.length) = true := decide_eq_true hl2
        have hpl := (HL.out _ (List.getElem_mem hl1)).below hbw
        have hpm := (HM.out _ (List.getElem_mem hl2)).below hbw
        obtain ⟨b1, off, rfl, hc, hbl, hcell⟩ := read_at recC_len (HR.out.below hbw) hl1
        obtain ⟨b2, off2, rfl, hc2, hbl2, hcell2⟩ := read_at recC_len (HR'.out.below hbw) hl2
        have HN := Lib.hid (show l[k].r ≠ m[k].r → b = false from fun h => HB.out.trans (recs_no hl1 hl2 h))
        have HY := Lib.hid (show l[k].r = m[k].r → ∀ j (hj : j < l.length) (hj' : j < m.length), j < k + 1 → l[j].r = m[j].r from fun h j hj hj' hjk => by
          rcases Nat.lt_or_eq_of_le (Nat.le_of_lt_succ hjk) with h1 | h1
          · exact HA.out j hj hj' h1
          · subst h1; exact h)
        clear HA
        generalize l[k] = x at hcell HN HY hpl
        generalize m[k] = y at hcell2 HN HY hpm
        have hj1 : (0 : Int) ≤ (k : Int) := by omega
        have hj2 : (k : Int) < (l.length : Int) := by omega
        have hj3 : (k : Int) < (m.length : Int) := by omega
        have hj4 : IntKind.i64.wrap ((k : Int) + 1) = (k : Int) + 1 := IntWalk.i64_in _ (by omega)
        have HE := Lib.hid (fun W (hb : Below wr.heap.size wr W) => rsame_any x.r y.r x.A y.A x.B y.B x.c y.c x.d y.d W (hpl.below hb) (hpm.below hb))
        have HQ := Lib.hid (show ∀ u, Below wr.heap.size wr u → u.rangeAt b1 (off + k * 18) (recC x) from fun u hu j v hj => by
          rw [hu.cell (p := ⟨b1, off + k * 18 + j, none⟩) hbl]; exact hcell j v hj)
        have HQ2 := Lib.hid (show ∀ u, Below wr.heap.size wr u → u.rangeAt b2 (off2 + k * 18) (recC y) from fun u hu j v hj => by
          rw [hu.cell (p := ⟨b2, off2 + k * 18 + j, none⟩) hbl2]; exact hcell2 j v hj)
        clear hcell hcell2 hpl hpm
        cases hd : decide (x.r = y.r) with
        | true =>
          have HY2 := Lib.hid (HY.out (of_decide_eq_true hd))
          have heq := HE.out
          rw [hd] at heq
          clear HN HY hd HE
          go_upto_region 4 with fail
          have hSn : Below wr.heap.size wr wr.drew := (Below.refl _ wr).drew
          refine wp_region_held_drew (S := (fun u => Below wr.heap.size wr u)) (by kernel_rfl) ?_ (fun hHeld => ?_)
          · exact hSn
          refine wpAnyH_take (i := 0) (oi := { dst := some 18, op := _, type := _, pos := _, after := _, guard := _ }) (v := ?_) rfl (by kernel_rfl) (by kernel_rfl) (by kernel_rfl) (fun _ _ _ h => h) (Or.inl ⟨by rfl, ?_⟩) (by assumption) ?_
          rotate_left
          · intro u hSu; go_simp; (try with_reducible rfl)
          try simp only [Act.put, List.setIfInBounds_toArray, List.set_cons_zero, List.set_cons_succ]
          refine wpAnyH_take (i := 1) (oi := { dst := some 19, op := _, type := _, pos := _, after := _, guard := _ }) (v := ?_) rfl (by kernel_rfl) (by kernel_rfl) (by kernel_rfl) (fun _ _ _ h => h) (Or.inl ⟨by rfl, ?_⟩) (by assumption) ?_
          rotate_left
          · intro u hSu; go_simp; (try with_reducible rfl)
          try simp only [Act.put, List.setIfInBounds_toArray, List.set_cons_zero, List.set_cons_succ]
          refine wpAnyH_take (i := 2) (oi := { dst := some 20, op := _, type := _, pos := _, after := _, guard := _ }) (v := ?_) rfl (by kernel_rfl) (by kernel_rfl) (by kernel_rfl) (fun _ _ _ h => h) (Or.inl ⟨by rfl, ?_⟩) (by assumption) ?_
          rotate_left
          · intro u hSu; go_simp; (try with_reducible rfl)
          try simp only [Act.put, List.setIfInBounds_toArray, List.set_cons_zero, List.set_cons_succ]
          refine wpAnyH_take (i := 3) (oi := { dst := some 21, op := _, type := _, pos := _, after := _, guard := _ }) (v := recV x.r (.slice x.A x.r.txns.length x.c) (.slice x.B x.r.dirty.length x.d)) rfl (by kernel_rfl) (by kernel_rfl) (by kernel_rfl) (fun _ _ _ h => h) (yieldsIf_load_mid (by rfl) 49 (.tmp 20) rfl b1 (off + k * 18) (by rfl) (recC x) _ HQ.out Try.underlying49 (by kernel_rfl) (by kernel_rfl)) (by assumption) ?_
          try simp only [Act.put, List.setIfInBounds_toArray, List.set_cons_zero, List.set_cons_succ]
          refine wpAnyH_take (i := 4) (oi := { dst := some 22, op := _, type := _, pos := _, after := _, guard := _ }) (v := ?_) rfl (by kernel_rfl) (by kernel_rfl) (by kernel_rfl) (fun _ _ _ h => h) (Or.inl ⟨by rfl, ?_⟩) (by assumption) ?_
          rotate_left
          · intro u hSu; go_simp; (try with_reducible rfl)
          try simp only [Act.put, List.setIfInBounds_toArray, List.set_cons_zero, List.set_cons_succ]
          refine wpAnyH_take (i := 5) (oi := { dst := some 23, op := _, type := _, pos := _, after := _, guard := _ }) (v := ?_) rfl (by kernel_rfl) (by kernel_rfl) (by kernel_rfl) (fun _ _ _ h => h) (Or.inl ⟨by rfl, ?_⟩) (by assumption) ?_
          rotate_left
          · intro u hSu; go_simp; (try with_reducible rfl)
          try simp only [Act.put, List.setIfInBounds_toArray, List.set_cons_zero, List.set_cons_succ]
          refine wpAnyH_take (i := 6) (oi := { dst := some 24, op := _, type := _, pos := _, after := _, guard := _ }) (v := ?_) rfl (by kernel_rfl) (by kernel_rfl) (by kernel_rfl) (fun _ _ _ h => h) (Or.inl ⟨by rfl, ?_⟩) (by assumption) ?_
          rotate_left
          · intro u hSu; go_simp; (try with_reducible rfl)
          try simp only [Act.put, List.setIfInBounds_toArray, List.set_cons_zero, List.set_cons_succ]
          refine wpAnyH_take (i := 7) (oi := { dst := some 25, op := _, type := _, pos := _, after := _, guard := _ }) (v := recV y.r (.slice y.A y.r.txns.length y.c) (.slice y.B y.r.dirty.length y.d)) rfl (by kernel_rfl) (by kernel_rfl) (by kernel_rfl) (fun _ _ _ h => h) (yieldsIf_load_mid (by rfl) 49 (.tmp 24) rfl b2 (off2 + k * 18) (by rfl) (recC y) _ HQ2.out Try.underlying49 (by kernel_rfl) (by kernel_rfl)) (by assumption) ?_
          try simp only [Act.put, List.setIfInBounds_toArray, List.set_cons_zero, List.set_cons_succ]
          refine wpAnyH_ready (rs := [8]) (by kernel_rfl) (by simp) ?_
          refine AllReadyH.cons (o := { dst := some 26, op := _, type := _, pos := _, after := _, guard := _ }) rfl (fun K hK => ?_) ?_
          rotate_left
          · exact AllReadyH.nil
          go_simp
          refine (heq _ hSn).mono ?_; rintro e w2 ⟨rfl, hb2⟩; have hSm := joinB hSn hb2; clear hSn; have hSn := hSm; clear hSm; try go_simp
          refine hK.out _ _ ?_ (fun hHeld => ?_)
          · exact hSn
          clear hK K
          try simp only [Act.put, List.setIfInBounds_toArray, List.set_cons_zero, List.set_cons_succ]
          refine wpAnyH_take (i := 9) (oi := { dst := some 27, op := _, type := _, pos := _, after := _, guard := _ }) (v := ?_) rfl (by kernel_rfl) (by kernel_rfl) (by kernel_rfl) (fun _ _ _ h => h) (Or.inl ⟨by rfl, ?_⟩) (by assumption) ?_
          rotate_left
          · intro u hSu; go_simp; (try with_reducible rfl)
          try simp only [Act.put, List.setIfInBounds_toArray, List.set_cons_zero, List.set_cons_succ]
          refine wpAnyH_done (by kernel_rfl) ?_ _
          clear hHeld heq HQ HQ2
          go_wp2_with fail
          go_roundw
          case rel => exact ⟨k + 1, by omega, by omega, by go_num, HY2.out, joinB hbw hSn⟩
          case measure => simp [intOf]; omega
        | false =>
          have HN2 := Lib.hid (HN.out (of_decide_eq_false hd))
          have heq := HE.out
          rw [hd] at heq
          clear HN HY hd HE
          go_upto_region 4 with fail
          have hSn : Below wr.heap.size wr wr.drew := (Below.refl _ wr).drew
          refine wp_region_held_drew (S := (fun u => Below wr.heap.size wr u)) (by kernel_rfl) ?_ (fun hHeld => ?_)
          · exact hSn
          refine wpAnyH_take (i := 0) (oi := { dst := some 18, op := _, type := _, pos := _, after := _, guard := _ }) (v := ?_) rfl (by kernel_rfl) (by kernel_rfl) (by kernel_rfl) (fun _ _ _ h => h) (Or.inl ⟨by rfl, ?_⟩) (by assumption) ?_
          rotate_left
          · intro u hSu; go_simp; (try with_reducible rfl)
          try simp only [Act.put, List.setIfInBounds_toArray, List.set_cons_zero, List.set_cons_succ]
          refine wpAnyH_take (i := 1) (oi := { dst := some 19, op := _, type := _, pos := _, after := _, guard := _ }) (v := ?_) rfl (by kernel_rfl) (by kernel_rfl) (by kernel_rfl) (fun _ _ _ h => h) (Or.inl ⟨by rfl, ?_⟩) (by assumption) ?_
          rotate_left
          · intro u hSu; go_simp; (try with_reducible rfl)
          try simp only [Act.put, List.setIfInBounds_toArray, List.set_cons_zero, List.set_cons_succ]
          refine wpAnyH_take (i := 2) (oi := { dst := some 20, op := _, type := _, pos := _, after := _, guard := _ }) (v := ?_) rfl (by kernel_rfl) (by kernel_rfl) (by kernel_rfl) (fun _ _ _ h => h) (Or.inl ⟨by rfl, ?_⟩) (by assumption) ?_
          rotate_left
          · intro u hSu; go_simp; (try with_reducible rfl)
          try simp only [Act.put, List.setIfInBounds_toArray, List.set_cons_zero, List.set_cons_succ]
          refine wpAnyH_take (i := 3) (oi := { dst := some 21, op := _, type := _, pos := _, after := _, guard := _ }) (v := recV x.r (.slice x.A x.r.txns.length x.c) (.slice x.B x.r.dirty.length x.d)) rfl (by kernel_rfl) (by kernel_rfl) (by kernel_rfl) (fun _ _ _ h => h) (yieldsIf_load_mid (by rfl) 49 (.tmp 20) rfl b1 (off + k * 18) (by rfl) (recC x) _ HQ.out Try.underlying49 (by kernel_rfl) (by kernel_rfl)) (by assumption) ?_
          try simp only [Act.put, List.setIfInBounds_toArray, List.set_cons_zero, List.set_cons_succ]
          refine wpAnyH_take (i := 4) (oi := { dst := some 22, op := _, type := _, pos := _, after := _, guard := _ }) (v := ?_) rfl (by kernel_rfl) (by kernel_rfl) (by kernel_rfl) (fun _ _ _ h => h) (Or.inl ⟨by rfl, ?_⟩) (by assumption) ?_
          rotate_left
          · intro u hSu; go_simp; (try with_reducible rfl)
          try simp only [Act.put, List.setIfInBounds_toArray, List.set_cons_zero, List.set_cons_succ]
          refine wpAnyH_take (i := 5) (oi := { dst := some 23, op := _, type := _, pos := _, after := _, guard := _ }) (v := ?_) rfl (by kernel_rfl) (by kernel_rfl) (by kernel_rfl) (fun _ _ _ h => h) (Or.inl ⟨by rfl, ?_⟩) (by assumption) ?_
          rotate_left
          · intro u hSu; go_simp; (try with_reducible rfl)
          try simp only [Act.put, List.setIfInBounds_toArray, List.set_cons_zero, List.set_cons_succ]
          refine wpAnyH_take (i := 6) (oi := { dst := some 24, op := _, type := _, pos := _, after := _, guard := _ }) (v := ?_) rfl (by kernel_rfl) (by kernel_rfl) (by kernel_rfl) (fun _ _ _ h => h) (Or.inl ⟨by rfl, ?_⟩) (by assumption) ?_
          rotate_left
          · intro u hSu; go_simp; (try with_reducible rfl)
          try simp only [Act.put, List.setIfInBounds_toArray, List.set_cons_zero, List.set_cons_succ]
          refine wpAnyH_take (i := 7) (oi := { dst := some 25, op := _, type := _, pos := _, after := _, guard := _ }) (v := recV y.r (.slice y.A y.r.txns.length y.c) (.slice y.B y.r.dirty.length y.d)) rfl (by kernel_rfl) (by kernel_rfl) (by kernel_rfl) (fun _ _ _ h => h) (yieldsIf_load_mid (by rfl) 49 (.tmp 24) rfl b2 (off2 + k * 18) (by rfl) (recC y) _ HQ2.out Try.underlying49 (by kernel_rfl) (by kernel_rfl)) (by assumption) ?_
          try simp only [Act.put, List.setIfInBounds_toArray, List.set_cons_zero, List.set_cons_succ]
          refine wpAnyH_ready (rs := [8]) (by kernel_rfl) (by simp) ?_
          refine AllReadyH.cons (o := { dst := some 26, op := _, type := _, pos := _, after := _, guard := _ }) rfl (fun K hK => ?_) ?_
          rotate_left
          · exact AllReadyH.nil
          go_simp
          refine (heq _ hSn).mono ?_; rintro e w2 ⟨rfl, hb2⟩; have hSm := joinB hSn hb2; clear hSn; have hSn := hSm; clear hSm; try go_simp
          refine hK.out _ _ ?_ (fun hHeld => ?_)
          · exact hSn
          clear hK K
          try simp only [Act.put, List.setIfInBounds_toArray, List.set_cons_zero, List.set_cons_succ]
          refine wpAnyH_take (i := 9) (oi := { dst := some 27, op := _, type := _, pos := _, after := _, guard := _ }) (v := ?_) rfl (by kernel_rfl) (by kernel_rfl) (by kernel_rfl) (fun _ _ _ h => h) (Or.inl ⟨by rfl, ?_⟩) (by assumption) ?_
          rotate_left
          · intro u hSu; go_simp; (try with_reducible rfl)
          try simp only [Act.put, List.setIfInBounds_toArray, List.set_cons_zero, List.set_cons_succ]
          refine wpAnyH_done (by kernel_rfl) ?_ _
          clear hHeld heq HQ HQ2
          go_wp2_with fail
          go_ret
          exact ⟨by rw [HN2.out]; rfl, joinB hbw hSn⟩
      · have hi4 : decide (k < m.length) = false := decide_eq_false hl2
        have hne3 : (l.length == m.length) = false := by simp; omega
        have hne4 : ((l.length : Int) == (m.length : Int)) = false := by simp; omega
        have HN2 := Lib.hid (HB.out.trans (decide_eq_false (fun e => by have := congrArg List.length e; simp at this; omega)))
        go_wp2_with fail
        go_ret
        exact ⟨by rw [HN2.out]; simp; try omega, hbw⟩
    · have hi3 : decide (k < l.length) = false := decide_eq_false hl1
      obtain rfl : k = l.length := by omega
      by_cases hlm : l.length = m.length
      · have HE := Lib.hid (show b = true from HB.out.trans (Rc.eq_yes (by simpa using hlm) fun j hj hj' => by
          have h1 := HA.out j (by simpa using hj) (by simpa using hj') (by simpa using hj)
          simpa using h1))
        have hne3 : (l.length == m.length) = true := by simp [hlm]
        have hne4 : ((l.length : Int) == (m.length : Int)) = true := by simp [hlm]
        have HLM := Lib.hid hlm
        clear hlm
        go_wp2_with fail
        go_ret
        exact ⟨by rw [HE.out]; have hlm := HLM.out; simp [hlm], hbw⟩
      · have hne3 : (l.length == m.length) = false := by simp; omega
        have hne4 : ((l.length : Int) == (m.length : Int)) = false := by simp; omega
        have HN2 := Lib.hid (HB.out.trans (decide_eq_false (fun e => hlm (by have := congrArg List.length e; simpa using this))))
        go_wp2_with fail
        go_ret
        exact ⟨by rw [HN2.out]; simp; try omega, hbw⟩
end Go.Proofs.Ytojaagnfjenhoaa
/- Arguments that are records, rows of records, of truths, disks: opened. -/
namespace Go.Proofs.Ytojaagnfjenhoaa
open Go.ChangeShapes Go.WideShapes Go.ChangeAt Go.RowKit
theorem cellsS : Try.prog.cellsOf 9 = 1 := by kernel_rfl
theorem cellsI : Try.prog.cellsOf 3 = 1 := by kernel_rfl
theorem cellsB : Try.prog.cellsOf 4 = 1 := by kernel_rfl
theorem cellsSs : Try.prog.cellsOf 22 = 1 := by kernel_rfl
theorem cellsDk : Try.prog.cellsOf 24 = 3 := by kernel_rfl
theorem dkFields : ∃ f0 f1 f2 : Field, Try.prog.underlying 24 = some (.struct #[f0, f1, f2]) ∧ (f0.offset = 0 ∧ f1.offset = 1 ∧ f2.offset = 2) ∧ f0.type = 22 ∧ f1.type = 3 ∧ f2.type = 4 := ⟨_, _, _, Try.underlying24, ⟨rfl, rfl, rfl⟩, rfl, rfl, rfl⟩
theorem list3' {α : Type} {l : List α} (h : l.length = 3) : ∃ a b c, l = [a, b, c] := by
  match l, h with
  | [a, b, c], _ => exact ⟨a, b, c, rfl⟩
theorem spotOf {w : World} {a : Addr} {v : Value} (h : w.cell? a = some v) : a = ⟨a.block, a.off, none⟩ ∧ a.block < w.heap.size := by
  obtain ⟨b, off, sp⟩ := a
  unfold World.cell? at h
  cases hh : w.heap[b]? with
  | none => simp [hh] at h
  | some o =>
    have hlt : b < w.heap.size := (Array.getElem?_eq_some_iff.1 hh).1
    cases o with
    | cells c t f =>
      simp only [hh] at h
      cases sp with
      | none => exact ⟨rfl, hlt⟩
      | some x => simp at h
    | _ => simp [hh] at h
/-- A datum that a machine can hold. -/
def Light {H : Type} (t : TypeId) (d : DataW H) : Prop := ∀ n ∈ DataW.weights Try.prog t d, n ≤ reachBytes
theorem light_of {H : Type} {ts : List TypeId} {ds : List (DataW H)} {j : Nat} {t : TypeId} {d : DataW H} (h : (DataW.weightsEach Try.prog ts ds).all (· ≤ reachBytes) = true) (ht : ts[j]? = some t) (hd : ds[j]? = some d) : Light t d := fun n hn => by
  have := List.all_eq_true.1 h _ (DataW.weights_mem_each ht hd n hn)
  simpa using this
theorem weights_mem_all {H : Type} {P : Program} {e : TypeId} {d : DataW H} {n : Nat} (hn : n ∈ DataW.weights P e d) : ∀ {l : List (DataW H)}, d ∈ l → n ∈ DataW.weightsAll P e l := by
  intro l
  induction l with
  | nil => intro h; cases h
  | cons a l ih =>
    intro h
    unfold DataW.weightsAll
    rcases List.mem_cons.1 h with h1 | h1
    · subst h1; exact List.mem_append_left _ hn
    · exact List.mem_append_right _ (ih h1)
theorem bytesS : 1 ≤ Try.prog.bytesOf 9 := by decide +kernel
section
variable {H : Type} {enc : TypeId × Value → H} {w : World} {base : Nat} {spare : Nat → Bool} {held : Bool}
theorem trod_field {t : TypeId} {fs : Array Field} {fuel : Nat} {cs : List Value} {x : DataW H × List MemPlace} (ht : Try.prog.underlying t = some (.struct fs)) (h : DataW.trod enc Try.prog w base spare held fuel t cs = some x) :
    ∃ n, cs.length = Try.prog.cellsOf t ∧ ∀ (i : Nat) (f : Field), fs[i]? = some f → ∃ y, DataW.trod enc Try.prog w base spare held n f.type ((cs.drop f.offset).take (Try.prog.cellsOf f.type)) = some y ∧ (Light t x.1 → Light f.type y.1) := by
  obtain ⟨xs, n, _, rfl, hl, hlen, hf⟩ := DataW.trod_struct ht h
  refine ⟨n, hl, fun i f hi => ?_⟩
  have hi' : i < xs.length := by rw [hlen]; exact (Array.getElem?_eq_some_iff.1 hi).1
  refine ⟨xs[i], by rw [hf i f hi, List.getElem?_eq_getElem hi'], fun hL m hm => hL m ?_⟩
  unfold DataW.weights
  rw [ht]
  exact DataW.weights_mem_each (j := i) (t := f.type) (d := xs[i].1) (by simp [hi]) (by simp [hi']) m hm
/-- A slice, opened, whatever its elements are. -/
theorem trod_row {α : Type} [Inhabited α] {en : α → List Value} {k : Nat} (hk : ∀ x, (en x).length = k) (hk0 : 0 < k) {t e : TypeId} (ht : Try.prog.underlying t = some (.slice e)) (hce : Try.prog.cellsOf e = k) (hbe : 1 ≤ Try.prog.bytesOf e) {Q : α → Prop}
    (he : ∀ (fuel : Nat) (cs : List Value) (x : DataW H × List MemPlace), DataW.trod enc Try.prog w base spare held fuel e cs = some x → Light e x.1 → ∃ o, cs = en o ∧ Q o)
    {fuel : Nat} {cs : List Value} {x : DataW H × List MemPlace} (hL : Light t x.1) (h : DataW.trod enc Try.prog w base spare held fuel t cs = some x) :
    ∃ (A : Option Addr) (c : Nat) (l : List α), cs = [.slice A l.length c] ∧ Reads w A c l.length (l.flatMap en) ∧ (∀ o ∈ l, Q o) ∧ l.length ≤ 140737488355328 := by
  rcases Deep.open_slice ht h with ⟨hcs, _⟩ | ⟨a', len', cap', m, n, D, Pl, hcs, hb, hl, hm, hmm, hx, hall⟩
  · exact ⟨none, 0, [], hcs, Reads.none_ _ _ _ _, (fun _ h => by cases h), Nat.zero_le _⟩
  · have hlm : len' ≤ m := by rw [hmm]; split <;> omega
    rw [hce] at hall
    rw [hx] at hL
    have hlen : len' ≤ 140737488355328 := by
      have h1 := hL _ (by unfold DataW.weights; rw [ht]; exact List.mem_cons_self ..)
      rw [List.length_map, List.length_range] at h1
      have h2 := reachBytes_lt
      have h3 := Nat.le_mul_of_pos_right (len' + (List.map (fun j => D (len' + j)) (List.range (m - len'))).length) hbe
      omega
    have hLe : ∀ i, i < len' → Light e (D i) := fun i hi n' hn' => hL n' (by
      unfold DataW.weights; rw [ht]
      exact List.mem_cons_of_mem _ (List.mem_append_left _ (weights_mem_all hn' (List.mem_map.2 ⟨i, List.mem_range.2 hi, rfl⟩))))
    obtain ⟨f, hf⟩ := Deep.choose_lt (α := α) (n := len') (p := fun i o => (∀ q u, (en o)[q]? = some u → w.cell? ((a'.add (i * k)).add q) = some u) ∧ Q o) (fun i hi => by
      obtain ⟨cs', h1, h2⟩ := hall i (by omega)
      obtain ⟨o, rfl, hQ⟩ := he _ _ _ h2 (hLe i hi)
      obtain ⟨_, _, h3⟩ := World.cells?_some h1
      refine ⟨o, fun q u hq => ?_, hQ⟩
      have hqk : q < k := by have := (List.getElem?_eq_some_iff.1 hq).1; rw [hk] at this; exact this
      rw [h3 q hqk]; exact hq)
    refine ⟨some a', cap', (List.range len').map f, by rw [hcs]; simp, ?_, ?_, by simpa using hlen⟩
    · intro h0
      have h0' : 0 < len' := by simpa using h0
      obtain ⟨u, hu⟩ : ∃ u, (en (f 0))[0]? = some u := ⟨_, List.getElem?_eq_getElem (by rw [hk]; exact hk0)⟩
      have hz := (hf 0 h0').1 0 u hu
      have hz2 : w.cell? a' = some u := by simpa [Addr.add] using hz
      obtain ⟨hsp, hlt⟩ := spotOf hz2
      refine ⟨a'.block, a'.off, by rw [← hsp], by simpa using hl, hlt, fun j u hj => ?_⟩
      have hjl : j < len' * k := by
        have := (List.getElem?_eq_some_iff.1 hj).1
        rw [flat_len hk] at this
        simpa using this
      obtain ⟨q, i, hi, rfl⟩ : ∃ q i, i < k ∧ j = q * k + i := ⟨j / k, j % k, Nat.mod_lt _ hk0, by rw [Nat.mul_comm]; exact (Nat.div_add_mod j k).symm⟩
      have hq : q < len' := by
        rcases Nat.lt_or_ge q len' with h5 | h5
        · exact h5
        · have := Nat.mul_le_mul_right k h5; omega
      rw [flat_at hk _ q i (by simpa using hq) hi] at hj
      have h5 := (hf q hq).1 i u (by simpa using hj)
      rw [hsp, Addr.add_mid, Addr.add_mid] at h5
      rw [← Nat.add_assoc]
      exact h5
    · intro o ho
      obtain ⟨i, hi, rfl⟩ := List.mem_map.1 ho
      exact (hf i (List.mem_range.1 hi)).2
instance : Inhabited Rc.TxnAt := ⟨⟨0, 0, 0, false⟩⟩
instance : Inhabited Rc.DirtyAt := ⟨⟨0, 0⟩⟩
instance : Inhabited PRec := ⟨⟨⟨0, 0, 0, 0, 0, 0, 0, ⟨0, 0, ⟨#[]⟩, ⟨#[]⟩⟩, 0, 0, ⟨⟨#[]⟩, 0, 0⟩, [], []⟩, none, 0, none, 0⟩⟩
theorem trod_st (fuel : Nat) (cs : List Value) (x : DataW H × List MemPlace) (h : DataW.trod enc Try.prog w base spare held fuel 9 cs = some x) (hL : Light 9 x.1) : ∃ o : ByteArray, cs = strC o ∧ o.size ≤ 140737488355328 := by
  obtain ⟨b, e, rfl, _⟩ := DataW.trod_string Try.underlying9 h
  refine ⟨b, e, ?_⟩
  have h1 := hL b.data.toList.length (by unfold DataW.weights; exact List.mem_singleton.2 rfl)
  have h2 := reachBytes_lt
  have h3 : b.data.toList.length = b.size := by simp
  omega
set_option maxRecDepth 100000 in
/-- A disk, opened. -/
theorem open_disk {r : Reach} {b0 : Nat} {v : Value} {d : DataW H} {ps : List MemPlace} (hval : Value.okWide Try.prog w r b0 24 v) (hd : DataW.Trod enc Try.prog w base spare held 24 v d ps) (hL : Light 24 d) :
    ∃ (A : Option Addr) (c : Nat) (k : Lg.Dk), v = diskV k A c ∧ Reads w A c k.sectors.length (k.sectors.flatMap strC) ∧ (∀ b ∈ k.sectors, b.size ≤ 140737488355328) ∧ k.sectors.length ≤ 140737488355328 ∧ (Lit.int .i64 k.left).wf = true := by
  obtain ⟨f0, f1, f2, hu, ⟨o0, o1, o2⟩, t0, t1, t2⟩ := dkFields
  obtain ⟨cs, rfl, hsz⟩ := okWide_struct hu hval
  obtain ⟨fuel, h⟩ := hd
  obtain ⟨n, hl, hf⟩ := trod_field hu h
  rw [cellsDk] at hl
  obtain ⟨c0, c1, c2, hcs⟩ := list3' hl
  rw [hcs] at hf
  obtain ⟨y0, h0, gh0⟩ := hf 0 f0 rfl
  obtain ⟨y1, h1, gh1⟩ := hf 1 f1 rfl
  obtain ⟨y2, h2, gh2⟩ := hf 2 f2 rfl
  rw [o0, t0, cellsSs] at h0
  rw [o1, t1, cellsI] at h1
  rw [o2, t2, cellsB] at h2
  obtain ⟨A, c, l, e0, r0, q0, l0⟩ := trod_row (en := strC) (k := 1) strC_len (by omega) Try.underlying22 cellsS bytesS (Q := fun o => o.size ≤ 140737488355328) trod_st (by rw [← t0]; exact gh0 hL) h0
  obtain ⟨i1, e1, _, w1⟩ := DataW.trod_int Try.underlying3 h1
  obtain ⟨b2, e2, _⟩ := DataW.trod_bool Try.underlying4 h2
  simp at e0 e1 e2
  refine ⟨A, c, ⟨l, i1, b2⟩, ?_, r0, q0, l0, w1⟩
  have hc2 : cs.toList = [c0, c1, c2] := by simpa [Value.cells] using hcs
  show Value.agg cs = .agg _
  congr 1
  apply Array.toList_inj.1
  rw [hc2, e0, e1, e2]
end
end Go.Proofs.Ytojaagnfjenhoaa
/- The walk over package log: Open. -/
namespace Go.Proofs.Ytojaagnfjenhoaa
open Go.RowKit
set_option maxRecDepth 100000 in
set_option maxHeartbeats 8000000 in
theorem open_any (d : Lg.Dk) (hw : ∀ b ∈ d.sectors, b.size ≤ 128) (hdl : d.sectors.length ≤ 7000) (A : Option Addr) (c : Nat) (f0 n0 : Int) (hf1 : -9223372036854775808 ≤ f0) (hf2 : f0 ≤ 9223372036854775807) (hn : n0 ≤ 100000) (w : World) (h : DiskR w d A c) :
    Calls Try.prog 8 #[diskV d A c, .int .i64 f0, .int .i64 n0] w (OpenOut (Lg.openD d f0 n0) w) := by
  have HS := Lib.hid (fun W (hb : Below w.heap.size w W) => sectors_any d (fun b hb => Nat.le_trans (hw b hb) (by omega)) A c f0 n0 hf1 hf2 hn W (h.below hb))
  have hlen := @Lg.secs_len d hw n0.toNat f0
  have HO := Lib.hid (fun ps v w' x (hx : Lg.openD d f0 n0 = x) (h1 : ps.map (·.r) = x.2.1) (h2 : OwnL recC 18 49 w.heap.size w' v ps) (h3 : RecsN w.heap.size w' ps) (h4 : Below w.heap.size w w') => show OpenOut (Lg.openD d f0 n0) w (.returned (.tuple #[logV x.1, v, .int .i64 x.2.2])) w' from ⟨ps, v, by rw [hx]; exact h1, by rw [hx], h2, h3, h4⟩)
  have hdef : Lg.openD d f0 n0 = Lg.openD d f0 n0 := rfl
  conv at hdef => rhs; unfold Lg.openD
  have hne := @Lg.secs_fault d n0.toNat f0
  generalize Lg.openD d f0 n0 = o at HO hdef ⊢
  generalize OpenOut o w = Q at HO ⊢
  clear h hw
  cases hs : Lg.secsD d f0 n0.toNat with
  | error e =>
    rw [hs] at HS hdef
    have he := hne hs
    simp only at hdef
    have HDEF := Lib.hid hdef
    have he1 : (e == 0) = false := by simpa using he
    have he2 : (e != 0) = true := by simpa using he
    clear hdef hne hlen hs he hn hf1 hf2 hdl
    go_enter Try.func8, Try.ntmps8
    go_upto_region 1 with fail
    have H0 := Lib.hid (show BxL w.heap.size w [(#[.slice A d.sectors.length c, .int .i64 d.left, .bool d.down], 24), (#[.int .i64 0, .int .i64 0, .int .i64 0, .int .i64 0, .string ⟨#[]⟩], 28)] ((w.alloc (.cells #[.slice A d.sectors.length c, .int .i64 d.left, .bool d.down] 24)).alloc (.cells #[.int .i64 0, .int .i64 0, .int .i64 0, .int .i64 0, .string ⟨#[]⟩] 28)) from ((BxL.nil (Below.refl w.heap.size w)).new (by simp) #[.slice A d.sectors.length c, .int .i64 d.left, .bool d.down] 24).new (by simp) #[.int .i64 0, .int .i64 0, .int .i64 0, .int .i64 0, .string ⟨#[]⟩] 28)
    obtain ⟨W0, hW0⟩ : ∃ W, W = ((w.alloc (.cells #[.slice A d.sectors.length c, .int .i64 d.left, .bool d.down] 24)).alloc (.cells #[.int .i64 0, .int .i64 0, .int .i64 0, .int .i64 0, .string ⟨#[]⟩] 28)) := ⟨_, rfl⟩
    rw [← hW0] at H0 ⊢
    clear hW0
    dsimp only [diskV] at HS
    go_wp2_with (first
      | (with_reducible refine listLoad (by kernel_rfl) 24 (.tmp 3) rfl w.heap.size rfl #[.slice A d.sectors.length c, .int .i64 d.left, .bool d.down] _ H0.out.get0 _ Try.underlying24 (by kernel_rfl) (by kernel_rfl) ?_)
      | (go_at_call 19; (with_reducible refine (HS.out _ H0.out.below).mono ?_); rintro e1 w1 ⟨hb1, rfl⟩; (try dsimp only [secV]); have H1 := Lib.hid (H0.out.step hb1); clear hb1)
      | (with_reducible refine listStore (by kernel_rfl) 28 (.tmp 6) (.tmp 26) rfl (w.heap.size + 1) #[.int .i64 0, .int .i64 0, .int .i64 0, .int .i64 0, .string ⟨#[]⟩] _ _ rfl rfl H1.out.get1 (by kernel_rfl) (by kernel_rfl) (by kernel_rfl) ?_))
    refine bodyPost_ret (v := .tuple #[.agg #[.int .i64 0, .int .i64 0, .int .i64 0, .int .i64 0, .string ⟨#[]⟩], .slice none 0 0, .int .i64 e]) (results_cell3 rfl _ _ rfl (load_whole (setRow_heap _ _ _ _ _ _ H1.out.get1) Try.underlying28 (by kernel_rfl) (by kernel_rfl)) rfl rfl) rfl ?_
    exact HO.out [] _ _ (Lg.noLog, [], e) HDEF.out rfl (ownNil _ _ _ _) (RecsN.nil _ _) ((H1.out.row 1 _ _ rfl).below)
  | ok L =>
    rw [hs] at HS hdef
    simp only at hdef
    have hl2 := hlen hs
    have hLl : L.length ≤ 1000000 := by
      rcases hl2.2 with h0 | h0
      · have := hl2.1; rw [h0] at this; omega
      · have := hl2.1
        have h3 : n0.toNat ≤ 7000 := by omega
        omega
    have HDEF := Lib.hid hdef
    clear hdef hne hlen hs hn hf1 hf2 hdl hl2
    obtain ⟨S, hS⟩ : ∃ S : ByteArray, S = ⟨L.toArray⟩ := ⟨_, rfl⟩
    have hSl : S.data.toList = L := by rw [hS]
    have hSs : S.size = L.length := by rw [← hSl]; simp
    have hSm : S.size ≤ 1000000 := by omega
    have HG := Lib.hid (fun a W => get_rec S a hSm W)
    rw [hSl] at HG
    have HSV : Hid (secV (.ok L) = .tuple #[.string S, .int .i64 0]) := Lib.hid (by rw [hS]; rfl)
    have HSL := Lib.hid hSl
    have HTL := Lib.hid (fun k m (hk : k ≤ S.size) (hm : m ≤ k) => show (⟨((L.take k).drop (k - m)).toArray⟩ : ByteArray) = S.extract (k - m) k from by
      rw [← HSL.out]
      apply ByteArray.ext
      rw [ByteArray.data_extract]
      apply Array.toList_inj.1
      rw [Array.toList_extract, List.extract_eq_take_drop, List.drop_take])
    rw [← hSs] at HDEF
    clear hS hSl hLl hSs
    go_enter Try.func8, Try.ntmps8
    go_upto_region 1 with fail
    have H0 := Lib.hid (show BxL w.heap.size w [(#[.slice A d.sectors.length c, .int .i64 d.left, .bool d.down], 24), (#[.int .i64 0, .int .i64 0, .int .i64 0, .int .i64 0, .string ⟨#[]⟩], 28)] ((w.alloc (.cells #[.slice A d.sectors.length c, .int .i64 d.left, .bool d.down] 24)).alloc (.cells #[.int .i64 0, .int .i64 0, .int .i64 0, .int .i64 0, .string ⟨#[]⟩] 28)) from ((BxL.nil (Below.refl w.heap.size w)).new (by simp) #[.slice A d.sectors.length c, .int .i64 d.left, .bool d.down] 24).new (by simp) #[.int .i64 0, .int .i64 0, .int .i64 0, .int .i64 0, .string ⟨#[]⟩] 28)
    obtain ⟨W0, hW0⟩ : ∃ W, W = ((w.alloc (.cells #[.slice A d.sectors.length c, .int .i64 d.left, .bool d.down] 24)).alloc (.cells #[.int .i64 0, .int .i64 0, .int .i64 0, .int .i64 0, .string ⟨#[]⟩] 28)) := ⟨_, rfl⟩
    rw [← hW0] at H0 ⊢
    clear hW0
    dsimp only [diskV] at HS
    go_upto_block 0 with (first
      | (with_reducible refine listLoad (by kernel_rfl) 24 (.tmp 3) rfl w.heap.size rfl #[.slice A d.sectors.length c, .int .i64 d.left, .bool d.down] _ H0.out.get0 _ Try.underlying24 (by kernel_rfl) (by kernel_rfl) ?_)
      | (go_at_call 19; (with_reducible refine (HS.out _ H0.out.below).mono ?_); rintro e1 w1 ⟨hb1, rfl⟩; rw [HSV.out]; have H1 := Lib.hid (H0.out.step hb1); clear hb1))
    clear H0 HS HSV
    go_cut [11, 12] (fun v a wc => ∃ (ps : List PRec) (k : Nat), a = .int .i64 (k : Int) ∧ k ≤ S.size ∧ Lg.openL L (S.size + 1) 0 = (ps.map (·.r), k) ∧ BxL w.heap.size w [(#[.slice A d.sectors.length c, .int .i64 d.left, .bool d.down], 24), (#[.int .i64 0, .int .i64 0, .int .i64 0, .int .i64 0, .string ⟨#[]⟩], 28)] wc ∧ OwnL recC 18 49 (w.heap.size + 2) wc v ps ∧ RecsN (w.heap.size + 2) wc ps)
    case first =>
      go_wp2_with fail
      go_loopw [11, 12] (fun v a wr => ∃ (ps : List PRec) (k f : Nat), a = .int .i64 (k : Int) ∧ k ≤ S.size ∧ S.size + 1 ≤ f + k ∧ ps.length ≤ k ∧ Lg.openL L (S.size + 1) 0 = (ps.map (·.r) ++ (Lg.openL L f k).1, (Lg.openL L f k).2) ∧ BxL w.heap.size w [(#[.slice A d.sectors.length c, .int .i64 d.left, .bool d.down], 24), (#[.int .i64 0, .int .i64 0, .int .i64 0, .int .i64 0, .string ⟨#[]⟩], 28)] wr ∧ OwnL recC 18 49 (w.heap.size + 2) wr v ps ∧ RecsN (w.heap.size + 2) wr ps) (fun _ a _ => S.size - (intOf a).toNat)
      case atStart => exact ⟨[], 0, S.size + 1, rfl, Nat.zero_le _, Nat.le_refl _, Nat.le_refl _, rfl, H1.out, ownNil _ _ _ _, RecsN.nil _ _⟩
      case round =>
        obtain ⟨ps, k, f, rfl, hk, hf, hpk, hop, hbx, hown, hrs⟩ := hrel
        obtain ⟨f, rfl⟩ : ∃ g, f = g + 1 := ⟨f - 1, by omega⟩
        have HOP := Lib.hid hop
        have HB := Lib.hid hbx
        have HRS := Lib.hid hrs
        obtain ⟨A8, c8, rfl⟩ := ownLen hown
        have HOW := Lib.hid hown
        clear hop hbx hrs hown H1
        have hGk := HG.out k
        have hGN := @Lg.openL_none L f k
        have hGS := @Lg.openL_stop L f k
        have hGG := @Lg.openL_go L f k
        have hGI := @Lg.getO_some L k
        rw [show L.length = S.size by rw [← HSL.out]; simp] at hGI
        cases hg : Lg.getO L k with
        | none =>
          rw [hg] at hGk
          have HGk := Lib.hid hGk
          have HX := Lib.hid (HOP.out.trans (by rw [hGN hg, List.append_nil]))
          clear hGk hGN hGS hGG hGI hg
          go_wp2_with (first
            | (go_at_call 20; (with_reducible refine (HGk.out _).mono ?_); rintro e w2 ⟨hb2, kk, hkk, rfl⟩; have he1 : (kk == 0) = false := (by simpa using hkk); have he2 : (kk != 0) = true := (by simpa using hkk); clear hkk)
            | (with_reducible refine wpList_store_new rfl 49 (.tmp 13) (.tmp 32) rfl #[.int .i64 0, .int .i64 0, .int .i64 0, .int .i64 0, .int .i64 0, .int .i64 0, .int .i64 0, .int .i64 0, .int .i64 0, .string ⟨#[]⟩, .string ⟨#[]⟩, .int .i64 0, .int .i64 0, .string ⟨#[]⟩, .int .i64 0, .int .i64 0, .slice none 0 0, .slice none 0 0] _ _ rfl (by kernel_rfl) (by kernel_rfl) (by kernel_rfl) (by kernel_rfl) ?_))
          go_meet
          case rel => exact ⟨ps, k, rfl, hk, HX.out, HB.out.step (pastAlloc hb2), ownBelow HOW.out (pastAlloc hb2), HRS.out.below (pastAlloc hb2)⟩
        | some rb =>
          obtain ⟨r, b⟩ := rb
          rw [hg] at hGk
          have HGk := Lib.hid hGk
          obtain ⟨_, hb8, hbs⟩ := hGI hg
          by_cases hl : r.lsn = (k : Int) + 1
          · have HX := Lib.hid (HOP.out.trans (by rw [hGG hg hl]))
            clear hGk hGN hGS hGG hGI hg
            obtain ⟨lsn, prev, txn, kind, page, next, nu, ⟨ok, os, oo, on⟩, how, root, ⟨ek, ep, es⟩, ts, ds⟩ := r
            simp only at hl
            subst hl
            have hwk : IntKind.i64.wrap ((k : Int) + 1) = (k : Int) + 1 := IntWalk.i64_in _ (by omega)
            have hself : (((k : Int) + 1) != ((k : Int) + 1)) = false := by simp
            go_upto_region 8 with (first
              | (go_at_call 20; (with_reducible refine (HGk.out _).mono ?_); rintro e w2 ⟨hb2, A1, c1, D1, d1, rfl, hrr⟩; (try dsimp only [recV, recA]); have hx2 := blkCell (heap_alloc_new w2 (.cells #[.int .i64 ((k : Int) + 1), .int .i64 prev, .int .i64 txn, .int .i64 kind, .int .i64 page, .int .i64 next, .int .i64 nu, .int .i64 ok, .int .i64 os, .string oo, .string on, .int .i64 how, .int .i64 root, .string ek, .int .i64 ep, .int .i64 es, .slice A1 ts.length c1, .slice D1 ds.length d1] 49)); simp at hx2)
              | (with_reducible refine wpList_store_new rfl 49 (.tmp 13) (.tmp 32) rfl #[.int .i64 ((k : Int) + 1), .int .i64 prev, .int .i64 txn, .int .i64 kind, .int .i64 page, .int .i64 next, .int .i64 nu, .int .i64 ok, .int .i64 os, .string oo, .string on, .int .i64 how, .int .i64 root, .string ek, .int .i64 ep, .int .i64 es, .slice A1 ts.length c1, .slice D1 ds.length d1] _ _ rfl (by kernel_rfl) (by kernel_rfl) (by kernel_rfl) (by kernel_rfl) ?_))
            have HX2 := Lib.hid (heap_alloc_new w2 (.cells #[.int .i64 ((k : Int) + 1), .int .i64 prev, .int .i64 txn, .int .i64 kind, .int .i64 page, .int .i64 next, .int .i64 nu, .int .i64 ok, .int .i64 os, .string oo, .string on, .int .i64 how, .int .i64 root, .string ek, .int .i64 ep, .int .i64 es, .slice A1 ts.length c1, .slice D1 ds.length d1] 49))
            have HB2 := Lib.hid (HB.out.step (pastAlloc (o := .cells #[.int .i64 ((k : Int) + 1), .int .i64 prev, .int .i64 txn, .int .i64 kind, .int .i64 page, .int .i64 next, .int .i64 nu, .int .i64 ok, .int .i64 os, .string oo, .string on, .int .i64 how, .int .i64 root, .string ek, .int .i64 ep, .int .i64 es, .slice A1 ts.length c1, .slice D1 ds.length d1] 49) hb2))
            have HO2 := Lib.hid (ownBelow HOW.out (pastAlloc (o := .cells #[.int .i64 ((k : Int) + 1), .int .i64 prev, .int .i64 txn, .int .i64 kind, .int .i64 page, .int .i64 next, .int .i64 nu, .int .i64 ok, .int .i64 os, .string oo, .string on, .int .i64 how, .int .i64 root, .string ek, .int .i64 ep, .int .i64 es, .slice A1 ts.length c1, .slice D1 ds.length d1] 49) hb2))
            have HR2 := Lib.hid ((HRS.out.below (pastAlloc (o := .cells #[.int .i64 ((k : Int) + 1), .int .i64 prev, .int .i64 txn, .int .i64 kind, .int .i64 page, .int .i64 next, .int .i64 nu, .int .i64 ok, .int .i64 os, .string oo, .string on, .int .i64 how, .int .i64 root, .string ek, .int .i64 ep, .int .i64 es, .slice A1 ts.length c1, .slice D1 ds.length d1] 49) hb2)).push (p := ⟨⟨(k : Int) + 1, prev, txn, kind, page, next, nu, ⟨ok, os, oo, on⟩, how, root, ⟨ek, ep, es⟩, ts, ds⟩, A1, c1, D1, d1⟩) ((hrr.mono (by have h1 := HB.out.lt (i := 1) (by simp); omega)).below (allocB w2 _)))
            obtain ⟨g, hge⟩ : ∃ g, g = w2.heap.size := ⟨_, rfl⟩
            obtain ⟨w3, hw3⟩ : ∃ W, W = w2.alloc (.cells #[.int .i64 ((k : Int) + 1), .int .i64 prev, .int .i64 txn, .int .i64 kind, .int .i64 page, .int .i64 next, .int .i64 nu, .int .i64 ok, .int .i64 os, .string oo, .string on, .int .i64 how, .int .i64 root, .string ek, .int .i64 ep, .int .i64 es, .slice A1 ts.length c1, .slice D1 ds.length d1] 49) := ⟨_, rfl⟩
            rw [← hge, ← hw3] at HX2
            rw [← hw3] at HB2 HO2 HR2
            try rw [← hge]
            try rw [← hw3]
            clear hge hw3 hx2 hb2 hrr HOW HRS HB HGk hself
            have hll : ps.length + 1 ≤ 1048576 := by omega
            go_wp2_with (first
              | (with_reducible refine listLoad (by kernel_rfl) 49 (.tmp 13) rfl g rfl #[.int .i64 ((k : Int) + 1), .int .i64 prev, .int .i64 txn, .int .i64 kind, .int .i64 page, .int .i64 next, .int .i64 nu, .int .i64 ok, .int .i64 os, .string oo, .string on, .int .i64 how, .int .i64 root, .string ek, .int .i64 ep, .int .i64 es, .slice A1 ts.length c1, .slice D1 ds.length d1] _ HX2.out _ Try.underlying49 (by kernel_rfl) (by kernel_rfl) ?_)
              | (at_builtin; refine wpList_push (by kernel_rfl) (.tmp 44) (.tmp 46) 29 49 Try.underlying29 info_rec2 rfl (by omega) (by omega) rfl (w.heap.size + 2) _ ps.length (ps.flatMap recC) rfl (ownBelow HO2.out (allocB _ _)) w3.heap.size (recC ⟨⟨(k : Int) + 1, prev, txn, kind, page, next, nu, ⟨ok, os, oo, on⟩, how, root, ⟨ek, ep, es⟩, ts, ds⟩, A1, c1, D1, d1⟩) 49 rfl (heap_alloc_new w3 _) rfl (recC_one _) hll (by have := HB2.out.lt (i := 1) (by simp); simp; omega) ?_; intro v7 w7 ho hg hb; have hR7 := fun q hq => ((HR2.out.below (allocB w3 (.cells #[.int .i64 ((k : Int) + 1), .int .i64 prev, .int .i64 txn, .int .i64 kind, .int .i64 page, .int .i64 next, .int .i64 nu, .int .i64 ok, .int .i64 os, .string oo, .string on, .int .i64 how, .int .i64 root, .string ek, .int .i64 ep, .int .i64 es, .slice A1 ts.length c1, .slice D1 ds.length d1] 49))) q hq).grown (ownBelow HO2.out (allocB w3 (.cells #[.int .i64 ((k : Int) + 1), .int .i64 prev, .int .i64 txn, .int .i64 kind, .int .i64 page, .int .i64 next, .int .i64 nu, .int .i64 ok, .int .i64 os, .string oo, .string on, .int .i64 how, .int .i64 root, .string ek, .int .i64 ep, .int .i64 es, .slice A1 ts.length c1, .slice D1 ds.length d1] 49))) (by decide) (by decide) hg; have HB7 := Lib.hid ((HB2.out.step (allocB w3 (.cells #[.int .i64 ((k : Int) + 1), .int .i64 prev, .int .i64 txn, .int .i64 kind, .int .i64 page, .int .i64 next, .int .i64 nu, .int .i64 ok, .int .i64 os, .string oo, .string on, .int .i64 how, .int .i64 root, .string ek, .int .i64 ep, .int .i64 es, .slice A1 ts.length c1, .slice D1 ds.length d1] 49))).under (M := w.heap.size + 2) (Nat.le_refl _) hb); have HO7 := Lib.hid (OwnL.push (enc := recC) ho); have HR7 := Lib.hid hR7; clear ho hg hb hR7))
            go_roundw
            case rel => exact ⟨_, b, f, rfl, hbs, by omega, by rw [List.length_append, List.length_singleton]; omega, by rw [HX.out, List.map_append, List.append_assoc]; rfl, HB7.out, HO7.out, HR7.out⟩
            case measure => simp [intOf]; omega
          · have HX := Lib.hid (HOP.out.trans (by rw [hGS hg hl, List.append_nil]))
            clear hGk hGN hGS hGG hGI hg
            obtain ⟨lsn, prev, txn, kind, page, next, nu, ⟨ok, os, oo, on⟩, how, root, ⟨ek, ep, es⟩, ts, ds⟩ := r
            simp only at hl
            have hwk : IntKind.i64.wrap ((k : Int) + 1) = (k : Int) + 1 := IntWalk.i64_in _ (by omega)
            have hl1 : (lsn == ((k : Int) + 1)) = false := by simpa using hl
            have hl2 : (lsn != ((k : Int) + 1)) = true := by simpa using hl
            clear hl
            go_wp2_with (first
              | (go_at_call 20; (with_reducible refine (HGk.out _).mono ?_); rintro e w2 ⟨hb2, A1, c1, D1, d1, rfl, hrr⟩; (try dsimp only [recV, recA]); have hx2 := blkCell (heap_alloc_new w2 (.cells #[.int .i64 lsn, .int .i64 prev, .int .i64 txn, .int .i64 kind, .int .i64 page, .int .i64 next, .int .i64 nu, .int .i64 ok, .int .i64 os, .string oo, .string on, .int .i64 how, .int .i64 root, .string ek, .int .i64 ep, .int .i64 es, .slice A1 ts.length c1, .slice D1 ds.length d1] 49)); simp at hx2)
              | (with_reducible refine wpList_store_new rfl 49 (.tmp 13) (.tmp 32) rfl #[.int .i64 lsn, .int .i64 prev, .int .i64 txn, .int .i64 kind, .int .i64 page, .int .i64 next, .int .i64 nu, .int .i64 ok, .int .i64 os, .string oo, .string on, .int .i64 how, .int .i64 root, .string ek, .int .i64 ep, .int .i64 es, .slice A1 ts.length c1, .slice D1 ds.length d1] _ _ rfl (by kernel_rfl) (by kernel_rfl) (by kernel_rfl) (by kernel_rfl) ?_))
            go_meet
            case rel => exact ⟨ps, k, rfl, hk, HX.out, HB.out.step (pastAlloc hb2), ownBelow HOW.out (pastAlloc hb2), HRS.out.below (pastAlloc hb2)⟩
    case rest =>
      obtain ⟨ps, k, rfl, hk, hop, hbx, hown, hrs⟩ := hcut
      obtain ⟨wb, rfl⟩ : ∃ wm : World, wm = wc := ⟨_, rfl⟩
      obtain ⟨A8, c8, rfl⟩ := ownLen hown
      have HB2 := Lib.hid hbx
      have HO2 := Lib.hid hown
      have HR2 := Lib.hid hrs
      obtain ⟨m, hm⟩ : ∃ m : Nat, m = k % 128 := ⟨_, rfl⟩
      have hmI : (k : Int) % 128 = (m : Int) := by omega
      have hwm : IntKind.i64.wrap ((k : Int) - (m : Int)) = (k : Int) - (m : Int) := IntWalk.i64_in _ (by omega)
      have hm1 : (0 : Int) ≤ (k : Int) - (m : Int) := by omega
      have hm2 : (k : Int) - (m : Int) ≤ (k : Int) := by omega
      have hm3 : (k : Int) ≤ (S.size : Int) := by omega
      have hm4 : ((k : Int) - (m : Int)).toNat = k - m := by omega
      have HFIN := Lib.hid (show o = (⟨f0, n0, (k : Int), (k : Int), S.extract (k - m) k⟩, ps.map (·.r), 0) from by
        rw [HDEF.out, hop]
        simp only
        rw [← hm, HTL.out k m hk (by omega)])
      clear hop hbx hown hrs H1 HDEF HTL HG HSL hm
      have HNW := Lib.hid (fun W => lnew_any f0 n0 W)
      dsimp only [logV] at HNW
      go_upto_region 11 with (first
        | (go_at_call 12; (with_reducible refine (HNW.out _).mono ?_); rintro e w4 ⟨rfl, hb4⟩)
        | (with_reducible refine wpList_store_new rfl 28 (.tmp 16) (.tmp 51) rfl #[.int .i64 f0, .int .i64 n0, .int .i64 0, .int .i64 0, .string ⟨#[]⟩] _ _ rfl (by kernel_rfl) (by kernel_rfl) (by kernel_rfl) (by kernel_rfl) ?_))
      have HL5 := Lib.hid (heap_alloc_new w4 (.cells #[.int .i64 f0, .int .i64 n0, .int .i64 0, .int .i64 0, .string ⟨#[]⟩] 28))
      have HB5 := Lib.hid (HB2.out.step (pastAlloc (o := .cells #[.int .i64 f0, .int .i64 n0, .int .i64 0, .int .i64 0, .string ⟨#[]⟩] 28) hb4))
      have HO5 := Lib.hid (ownBelow HO2.out (pastAlloc (o := .cells #[.int .i64 f0, .int .i64 n0, .int .i64 0, .int .i64 0, .string ⟨#[]⟩] 28) hb4))
      have HR5 := Lib.hid (HR2.out.below (pastAlloc (o := .cells #[.int .i64 f0, .int .i64 n0, .int .i64 0, .int .i64 0, .string ⟨#[]⟩] 28) hb4))
      have hg4 : w.heap.size + 2 ≤ w4.heap.size := by have h1 := HB2.out.lt (i := 1) (by simp); have := hb4.size; omega
      obtain ⟨g, hge⟩ : ∃ g, g = w4.heap.size := ⟨_, rfl⟩
      obtain ⟨w5, hw5⟩ : ∃ W, W = w4.alloc (.cells #[.int .i64 f0, .int .i64 n0, .int .i64 0, .int .i64 0, .string ⟨#[]⟩] 28) := ⟨_, rfl⟩
      rw [← hge, ← hw5] at HL5
      rw [← hw5] at HB5 HO5 HR5 ⊢
      rw [← hge] at hg4 ⊢
      clear hge hw5 hb4 HB2 HO2 HR2 HNW
      have hcl := blkCell HL5.out
      have hzl := blkFrozen HL5.out
      go_upto_region 12 with fail
      have HL6 := Lib.hid (show ((w5.setCell ⟨g, 2, none⟩ (.int .i64 (k : Int))).setCell ⟨g, 3, none⟩ (.int .i64 (k : Int))).heap[g]? = some (.cells #[.int .i64 f0, .int .i64 n0, .int .i64 (k : Int), .int .i64 (k : Int), .string ⟨#[]⟩] 28 (0, 0)) from by have h := blkSet 3 (blkSet 2 HL5.out (.int .i64 (k : Int))) (.int .i64 (k : Int)); simpa using h)
      have hcl6 := blkCell HL6.out
      have hzl6 := blkFrozen HL6.out
      clear hcl hzl
      go_upto_region 13 with fail
      have HL7 := Lib.hid (show (((w5.setCell ⟨g, 2, none⟩ (.int .i64 (k : Int))).setCell ⟨g, 3, none⟩ (.int .i64 (k : Int))).setCell ⟨g, 4, none⟩ (.string (S.extract (k - m) k))).heap[g]? = some (.cells #[.int .i64 f0, .int .i64 n0, .int .i64 (k : Int), .int .i64 (k : Int), .string (S.extract (k - m) k)] 28 (0, 0)) from by have h := blkSet 4 HL6.out (.string (S.extract (k - m) k)); simpa using h)
      have HAP := Lib.hid ((((Apart.refl g (g + 1) w5).cell g 2 (.int .i64 (k : Int)) (Nat.le_refl _) (Nat.lt_succ_self _)).cell g 3 (.int .i64 (k : Int)) (Nat.le_refl _) (Nat.lt_succ_self _)).cell g 4 (.string (S.extract (k - m) k)) (Nat.le_refl _) (Nat.lt_succ_self _))
      have HBE := Lib.hid (show Below g w5 (((w5.setCell ⟨g, 2, none⟩ (.int .i64 (k : Int))).setCell ⟨g, 3, none⟩ (.int .i64 (k : Int))).setCell ⟨g, 4, none⟩ (.string (S.extract (k - m) k))) from (((Below.refl g w5).setCell (p := ⟨g, 2, none⟩) (Nat.le_refl _) _).setCell (p := ⟨g, 3, none⟩) (Nat.le_refl _) _).setCell (p := ⟨g, 4, none⟩) (Nat.le_refl _) _)
      have HB7 := Lib.hid (HB5.out.under (M := g) (by show w.heap.size + 2 ≤ g; exact hg4) HBE.out)
      have HO7 := Lib.hid (ownSetOther HO5.out HL5.out (by decide) HAP.out)
      have HR7 := Lib.hid (show RecsN (w.heap.size + 2) _ ps from fun p hp => (HR5.out p hp).turn HAP.out.size (fun j cs T fr hj hjc hT => HAP.out.block j (heapLt hjc) (by
        rcases Nat.lt_trichotomy j g with h1 | h1 | h1
        · exact .inl h1
        · exfalso
          subst h1
          rw [HL5.out] at hjc
          injection hjc with hjc
          injection hjc with _ hjc
          rcases hT with h3 | h3
          · rw [h3] at hjc; exact absurd hjc (by decide)
          · rw [h3] at hjc; exact absurd hjc (by decide)
        · exact .inr h1)))
      generalize (((w5.setCell ⟨g, 2, none⟩ (.int .i64 (k : Int))).setCell ⟨g, 3, none⟩ (.int .i64 (k : Int))).setCell ⟨g, 4, none⟩ (.string (S.extract (k - m) k))) = w7 at HL7 HB7 HO7 HR7 ⊢
      clear HL5 HL6 HAP HBE HB5 HO5 HR5 hcl6 hzl6
      go_wp2_with (first
        | (with_reducible refine listLoad (by kernel_rfl) 28 (.tmp 16) rfl g rfl #[.int .i64 f0, .int .i64 n0, .int .i64 (k : Int), .int .i64 (k : Int), .string (S.extract (k - m) k)] _ HL7.out _ Try.underlying28 (by kernel_rfl) (by kernel_rfl) ?_)
        | (with_reducible refine listStore (by kernel_rfl) 28 (.tmp 6) (.tmp 64) rfl (w.heap.size + 1) #[.int .i64 f0, .int .i64 n0, .int .i64 (k : Int), .int .i64 (k : Int), .string (S.extract (k - m) k)] _ _ rfl rfl HB7.out.get1 (by kernel_rfl) (by kernel_rfl) (by kernel_rfl) ?_))
      refine bodyPost_ret (v := .tuple #[.agg #[.int .i64 f0, .int .i64 n0, .int .i64 (k : Int), .int .i64 (k : Int), .string (S.extract (k - m) k)], .slice A8 ps.length c8, .int .i64 0]) (results_cell3 rfl _ _ rfl (load_whole (setRow_heap _ _ _ _ _ _ HB7.out.get1) Try.underlying28 (by kernel_rfl) (by kernel_rfl)) rfl rfl) rfl ?_
      exact HO.out ps _ _ (⟨f0, n0, (k : Int), (k : Int), S.extract (k - m) k⟩, ps.map (·.r), 0) HFIN.out rfl (ownMono (ownRowOff HO7.out _ _ (by omega)) (by omega)) (fun p hp => ((HR7.out p hp).row _ _ (by omega)).mono (by omega)) ((HB7.out.row 1 _ _ rfl).below)
end Go.Proofs.Ytojaagnfjenhoaa
/- The walks over the reference of records: small, number, pageNum, slot, Op, Entry. -/
namespace Go.Proofs.Ytojaagnfjenhoaa
open Go.RowKit
set_option maxRecDepth 100000 in
theorem rsmall_any (n b : Int) (w : World) :
    Calls Try.prog 102 #[.int .i64 n, .int .i64 b] w fun e w' => e = .returned (.bool (decide (0 ≤ n ∧ n < b))) ∧ Below w.heap.size w w' := by
  by_cases h0 : 0 ≤ n
  · by_cases h1 : n < b
    · rw [decide_eq_true (And.intro h0 h1)]
      go_enter Try.func102, Try.ntmps102
      go_wp2_with fail
      go_ret
      exact ⟨by simp, Below.refl _ _⟩
    · rw [decide_eq_false (fun h : 0 ≤ n ∧ n < b => h1 h.2)]
      go_enter Try.func102, Try.ntmps102
      go_wp2_with fail
      go_ret
      exact ⟨by simp, Below.refl _ _⟩
  · rw [decide_eq_false (fun h : 0 ≤ n ∧ n < b => h0 h.1)]
    go_enter Try.func102, Try.ntmps102
    go_wp2_with fail
    go_ret
    exact ⟨by simp, Below.refl _ _⟩
set_option maxRecDepth 100000 in
theorem rnumber_any (n : Int) (w : World) :
    Calls Try.prog 77 #[.int .i64 n] w fun e w' => e = .returned (.bool (decide (Rc.num n))) ∧ Below w.heap.size w w' := by
  have HC := Lib.hid (fun W => by (have h := rsmall_any n 1099511627776 W); rw [show decide (0 ≤ n ∧ n < 1099511627776) = decide (Rc.num n) from decide_eq_decide.2 Iff.rfl] at h; exact h)
  go_enter Try.func77, Try.ntmps77
  go_wp2_with (go_at_call 102; (with_reducible refine (HC.out _).mono ?_); rintro e w2 ⟨rfl, hb2⟩)
  go_ret
  exact ⟨rfl, hb2⟩
set_option maxRecDepth 100000 in
theorem rpage_any (n : Int) (w : World) :
    Calls Try.prog 80 #[.int .i64 n] w fun e w' => e = .returned (.bool (decide (Rc.pg n))) ∧ Below w.heap.size w w' := by
  have HC := Lib.hid (fun W => by (have h := rsmall_any n 8388608 W); rw [show decide (0 ≤ n ∧ n < 8388608) = decide (Rc.pg n) from decide_eq_decide.2 Iff.rfl] at h; exact h)
  go_enter Try.func80, Try.ntmps80
  go_wp2_with (go_at_call 102; (with_reducible refine (HC.out _).mono ?_); rintro e w2 ⟨rfl, hb2⟩)
  go_ret
  exact ⟨rfl, hb2⟩
set_option maxRecDepth 100000 in
theorem rslot_any (n : Int) (w : World) :
    Calls Try.prog 104 #[.int .i64 n] w fun e w' => e = .returned (.bool (decide (Rc.sl n))) ∧ Below w.heap.size w w' := by
  have HC := Lib.hid (fun W => by (have h := rsmall_any n 32768 W); rw [show decide (0 ≤ n ∧ n < 32768) = decide (Rc.sl n) from decide_eq_decide.2 Iff.rfl] at h; exact h)
  go_enter Try.func104, Try.ntmps104
  go_wp2_with (go_at_call 102; (with_reducible refine (HC.out _).mono ?_); rintro e w2 ⟨rfl, hb2⟩)
  go_ret
  exact ⟨rfl, hb2⟩
set_option maxRecDepth 100000 in
set_option maxHeartbeats 400000 in
theorem rop_any (o : Rc.Op) (w : World) :
    Calls Try.prog 81 #[opV o] w fun e w' => e = .returned (.bool (decide (Rc.opR o))) ∧ Below w.heap.size w w' := by
  obtain ⟨k, s, o, n⟩ := o
  by_cases h0 : 1 ≤ k
  rotate_left
  · have g0 : k < 1 := by omega
    clear h0
    rw [show decide (Rc.opR ⟨k, s, o, n⟩) = false from decide_eq_false (fun h => by obtain ⟨h1, h2, h3, h4, h5⟩ := h; simp only at h1 h2 h3 h4 h5; omega)]
    go_enter Try.func81, Try.ntmps81
    go_wp2_with fail
    go_ret
    exact ⟨by simp [*], allocB _ _⟩
  by_cases h1 : k ≤ 7
  rotate_left
  · have g1 : 7 < k := by omega
    clear h1
    rw [show decide (Rc.opR ⟨k, s, o, n⟩) = false from decide_eq_false (fun h => by obtain ⟨h1, h2, h3, h4, h5⟩ := h; simp only at h1 h2 h3 h4 h5; omega)]
    go_enter Try.func81, Try.ntmps81
    go_wp2_with fail
    go_ret
    exact ⟨by simp [*], allocB _ _⟩
  cases hs : decide (Rc.sl s) with
  | false =>
    rw [show decide (Rc.opR ⟨k, s, o, n⟩) = false from decide_eq_false (fun h => by obtain ⟨h1, h2, h3, h4, h5⟩ := h; simp only at h1 h2 h3 h4 h5; exact of_decide_eq_false hs h3)]
    have hS := Lib.hid hs
    clear hs
    go_enter Try.func81, Try.ntmps81
    go_wp2_with (first | (go_at_call 104; (with_reducible refine (rslot_any s _).mono ?_); rintro e w2 ⟨rfl, hb2⟩; rw [hS.out]; have hx := blkOld (heap_alloc_new w _) hb2; have h22 := blkCell hx 2; have h33 := blkCell hx 3; clear hx; simp at h22 h33))
    go_ret
    exact ⟨by simp [*], joinB (allocB _ _) hb2⟩
  | true =>
  have hS := Lib.hid hs
  have hS2 := Lib.hid (of_decide_eq_true hs)
  clear hs
  by_cases h3 : (o.size : Int) ≤ 512
  rotate_left
  · have g3 : 512 < (o.size : Int) := by omega
    clear h3
    rw [show decide (Rc.opR ⟨k, s, o, n⟩) = false from decide_eq_false (fun h => by obtain ⟨h1, h2, h3, h4, h5⟩ := h; simp only at h1 h2 h3 h4 h5; omega)]
    go_enter Try.func81, Try.ntmps81
    go_wp2_with (first | (go_at_call 104; (with_reducible refine (rslot_any s _).mono ?_); rintro e w2 ⟨rfl, hb2⟩; rw [hS.out]; have hx := blkOld (heap_alloc_new w _) hb2; have h22 := blkCell hx 2; have h33 := blkCell hx 3; clear hx; simp at h22 h33))
    go_ret
    exact ⟨by simp [*], joinB (allocB _ _) hb2⟩
  by_cases h4 : (n.size : Int) ≤ 512
  rotate_left
  · have g4 : 512 < (n.size : Int) := by omega
    clear h4
    rw [show decide (Rc.opR ⟨k, s, o, n⟩) = false from decide_eq_false (fun h => by obtain ⟨h1, h2, h3, h4, h5⟩ := h; simp only at h1 h2 h3 h4 h5; omega)]
    go_enter Try.func81, Try.ntmps81
    go_wp2_with (first | (go_at_call 104; (with_reducible refine (rslot_any s _).mono ?_); rintro e w2 ⟨rfl, hb2⟩; rw [hS.out]; have hx := blkOld (heap_alloc_new w _) hb2; have h22 := blkCell hx 2; have h33 := blkCell hx 3; clear hx; simp at h22 h33))
    go_ret
    exact ⟨by simp [*], joinB (allocB _ _) hb2⟩
  rw [show decide (Rc.opR ⟨k, s, o, n⟩) = true from decide_eq_true ⟨by assumption, by assumption, hS2.out, by show o.size ≤ 512; omega, by show n.size ≤ 512; omega⟩]
  go_enter Try.func81, Try.ntmps81
  go_wp2_with (first | (go_at_call 104; (with_reducible refine (rslot_any s _).mono ?_); rintro e w2 ⟨rfl, hb2⟩; rw [hS.out]; have hx := blkOld (heap_alloc_new w _) hb2; have h22 := blkCell hx 2; have h33 := blkCell hx 3; clear hx; simp at h22 h33))
  go_ret
  exact ⟨by simp [*], joinB (allocB _ _) hb2⟩
set_option maxRecDepth 100000 in
theorem rentry_any (e0 : Rc.Key) (w : World) :
    Calls Try.prog 103 #[keyV e0] w fun e w' => e = .returned (.bool (decide (e0.key.size ≤ 100 ∧ Rc.pg e0.page ∧ Rc.sl e0.slot))) ∧ Below w.heap.size w w' := by
  obtain ⟨k, p, s⟩ := e0
  dsimp only
  by_cases h0 : (k.size : Int) ≤ 100
  · have h0n : k.size ≤ 100 := by omega
    have HP := Lib.hid (fun W => rpage_any p W)
    have HS := Lib.hid (fun W => rslot_any s W)
    by_cases hp : Rc.pg p
    · rw [decide_eq_true hp] at HP
      by_cases hs : Rc.sl s
      · rw [decide_eq_true hs] at HS
        rw [decide_eq_true (show k.size ≤ 100 ∧ Rc.pg p ∧ Rc.sl s from ⟨h0n, hp, hs⟩)]
        clear hp hs
        go_enter Try.func103, Try.ntmps103
        go_wp2_with (first
          | (go_at_call 80; (with_reducible refine (HP.out _).mono ?_); rintro e w2 ⟨rfl, hb2⟩; have hx := blkCell (blkOld (heap_alloc_new w _) hb2))
          | (go_at_call 104; (with_reducible refine (HS.out _).mono ?_); rintro e w3 ⟨rfl, hb3⟩))
        go_ret
        exact ⟨rfl, joinB (joinB (allocB _ _) hb2) hb3⟩
      · rw [decide_eq_false hs] at HS
        rw [decide_eq_false (show ¬ (k.size ≤ 100 ∧ Rc.pg p ∧ Rc.sl s) from fun h => hs h.2.2)]
        clear hp hs
        go_enter Try.func103, Try.ntmps103
        go_wp2_with (first
          | (go_at_call 80; (with_reducible refine (HP.out _).mono ?_); rintro e w2 ⟨rfl, hb2⟩; have hx := blkCell (blkOld (heap_alloc_new w _) hb2))
          | (go_at_call 104; (with_reducible refine (HS.out _).mono ?_); rintro e w3 ⟨rfl, hb3⟩))
        go_ret
        exact ⟨rfl, joinB (joinB (allocB _ _) hb2) hb3⟩
    · rw [decide_eq_false hp] at HP
      rw [decide_eq_false (show ¬ (k.size ≤ 100 ∧ Rc.pg p ∧ Rc.sl s) from fun h => hp h.2.1)]
      clear hp
      go_enter Try.func103, Try.ntmps103
      go_wp2_with (go_at_call 80; (with_reducible refine (HP.out _).mono ?_); rintro e w2 ⟨rfl, hb2⟩)
      go_ret
      exact ⟨rfl, joinB (allocB _ _) hb2⟩
  · have h0n : 100 < (k.size : Int) := by omega
    rw [decide_eq_false (show ¬ (k.size ≤ 100 ∧ Rc.pg p ∧ Rc.sl s) from fun h => by have := h.1; omega)]
    go_enter Try.func103, Try.ntmps103
    go_wp2_with fail
    go_ret
    exact ⟨by simp, allocB _ _⟩
end Go.Proofs.Ytojaagnfjenhoaa
/- The walks over the reference of records: a text's bytes, a change's bytes. -/
namespace Rc
/-- A text's bytes, as a string. -/
def tB (s : ByteArray) : ByteArray := ⟨(t s).toArray⟩
theorem tB_size (s : ByteArray) : (tB s).size = 2 + s.size := by
  unfold tB
  show (t s).toArray.size = _
  rw [List.size_toArray]
  unfold t
  rw [List.length_append, p_length]; simp
theorem tB_eq (s : ByteArray) (_h : s.size ≤ 65535) : Oct.putB s.size 2 ++ s = tB s := by
  apply ByteArray.ext
  rw [ByteArray.data_append]
  apply Array.toList_inj.1
  rw [Array.toList_append, show Oct.putB (s.size : Int) 2 = Oct.putB (s.size : Int) ((2 : Nat) : Int) from rfl, Oct.putB_list _ _ (by omega)]
  unfold tB t p
  rfl
end Rc
namespace Go.Proofs.Ytojaagnfjenhoaa
open Go.RowKit
set_option maxRecDepth 100000 in
theorem rputtext_any (s : ByteArray) (hs : s.size ≤ 65535) (w : World) :
    Calls Try.prog 85 #[.string s] w fun e w' => e = .returned (.string (Rc.tB s)) ∧ Below w.heap.size w w' := by
  have HP := Lib.hid (fun W => rput_any (s.size : Int) 2 (by omega) (by omega) W)
  have HE := Lib.hid (Rc.tB_eq s hs)
  have hz : (Oct.putB (s.size : Int) ((2 : Nat) : Int)).size = 2 := Oct.putB_size _ 2 (by omega)
  have hz2 : (Oct.putB (s.size : Int) 2).size = 2 := hz
  have h1 : ¬ (65535 : Int) < (s.size : Int) := by omega
  have hadd : ∀ W : World, (Op.stringOp .add (Oct.putB (s.size : Int) 2) s).run Try.prog W = .ok (.string (Rc.tB s)) W := fun W => by
    rw [← HE.out]; exact run_string_add_sum W _ _ (by rw [hz2]; omega)
  go_enter Try.func85, Try.ntmps85
  go_wp2_with (go_at_call 83; (with_reducible refine (HP.out _).mono ?_); rintro e w2 ⟨rfl, hb2⟩)
  go_ret
  exact ⟨rfl, hb2⟩
set_option maxRecDepth 100000 in
set_option maxHeartbeats 2000000 in
theorem ropb_any (o : Rc.Op) (h1 : o.old.size ≤ 65535) (h2 : o.new.size ≤ 65535) (w : World) :
    Calls Try.prog 84 #[opV o] w fun e w' => e = .returned (.string ⟨(Rc.opB o).toArray⟩) ∧ Below w.heap.size w w' := by
  obtain ⟨k, sl, oo, on⟩ := o
  dsimp only at h1 h2 ⊢
  have HP1 := Lib.hid (fun W => rput_any k 1 (by omega) (by omega) W)
  have HP2 := Lib.hid (fun W => rput_any sl 2 (by omega) (by omega) W)
  have HT1 := Lib.hid (fun W => rputtext_any oo h1 W)
  have HT2 := Lib.hid (fun W => rputtext_any on h2 W)
  have z1 : (Oct.putB k ((1 : Nat) : Int)).size = 1 := Oct.putB_size _ 1 (by omega)
  have z2 : (Oct.putB sl ((2 : Nat) : Int)).size = 2 := Oct.putB_size _ 2 (by omega)
  have z3 := Rc.tB_size oo
  have z4 := Rc.tB_size on
  have HE := Lib.hid (show Oct.putB k 1 ++ Oct.putB sl 2 ++ Rc.tB oo ++ Rc.tB on = ⟨(Rc.opB ⟨k, sl, oo, on⟩).toArray⟩ from by
    apply ByteArray.ext
    rw [ByteArray.data_append, ByteArray.data_append, ByteArray.data_append]
    apply Array.toList_inj.1
    rw [Array.toList_append, Array.toList_append, Array.toList_append, show Oct.putB k 1 = Oct.putB k ((1 : Nat) : Int) from rfl, show Oct.putB sl 2 = Oct.putB sl ((2 : Nat) : Int) from rfl, Oct.putB_list _ 1 (by omega), Oct.putB_list _ 2 (by omega)]
    unfold Rc.opB Rc.tB Rc.p
    simp only [List.append_assoc])
  rw [← HE.out]
  clear HE
  have y1 : (Oct.putB k 1).size = 1 := z1
  have y2 : (Oct.putB sl 2).size = 2 := z2
  clear z1 z2
  generalize Oct.putB k 1 = B1 at HP1 y1 ⊢
  generalize Oct.putB sl 2 = B2 at HP2 y2 ⊢
  generalize Rc.tB oo = B3 at HT1 z3 ⊢
  generalize Rc.tB on = B4 at HT2 z4 ⊢
  have a1 : ∀ W : World, (Op.stringOp .add B1 B2).run Try.prog W = .ok (.string (B1 ++ B2)) W := fun W => run_string_add_sum W _ _ (by omega)
  have y3 : (B1 ++ B2).size = 3 := by rw [ByteArray.size_append]; omega
  generalize B1 ++ B2 = C1 at a1 y3 ⊢
  have a2 : ∀ W : World, (Op.stringOp .add C1 B3).run Try.prog W = .ok (.string (C1 ++ B3)) W := fun W => run_string_add_sum W _ _ (by omega)
  have y4 : (C1 ++ B3).size = 3 + B3.size := by rw [ByteArray.size_append]; omega
  generalize C1 ++ B3 = C2 at a2 y4 ⊢
  have a3 : ∀ W : World, (Op.stringOp .add C2 B4).run Try.prog W = .ok (.string (C2 ++ B4)) W := fun W => run_string_add_sum W _ _ (by omega)
  generalize C2 ++ B4 = C3 at a3 ⊢
  clear y1 y2 y3 y4 z3 z4 h1 h2
  have HX := Lib.hid (heap_alloc_new w (.cells #[.int .i64 k, .int .i64 sl, .string oo, .string on] 41))
  have HB := Lib.hid (allocB w (.cells #[.int .i64 k, .int .i64 sl, .string oo, .string on] 41))
  go_enter Try.func84, Try.ntmps84
  go_upto_region 1 with fail
  obtain ⟨g, hg⟩ : ∃ g, g = w.heap.size := ⟨_, rfl⟩
  obtain ⟨W0, hW0⟩ : ∃ W, W = w.alloc (.cells #[.int .i64 k, .int .i64 sl, .string oo, .string on] 41) := ⟨_, rfl⟩
  rw [← hg, ← hW0] at HX
  rw [← hW0] at HB
  rw [← hg, ← hW0]
  clear hg hW0
  have X0 := blkOld HX.out (Below.refl _ W0).drew
  have B0 := joinB HB.out (Below.refl _ W0).drew
  refine wp_region_held_drew (S := (fun u => u.heap[g]? = some (.cells #[.int .i64 k, .int .i64 sl, .string oo, .string on] 41 (0, 0)))) (by kernel_rfl) ?_ (fun hHeld => ?_)
  · first | exact hSn | exact X0
  refine wpAnyH_take (i := 0) (oi := { dst := some 3, op := _, type := _, pos := _, after := _, guard := _ }) (v := ?_) rfl (by kernel_rfl) (by kernel_rfl) (by kernel_rfl) (fun _ _ _ h => h) (Or.inl ⟨by rfl, ?_⟩) (by assumption) ?_
  rotate_left
  · intro u hSu; have hSv := blkCell hSu; clear hSu; go_simp; (try with_reducible rfl)
  try simp only [Act.put, List.setIfInBounds_toArray, List.set_cons_zero, List.set_cons_succ]
  refine wpAnyH_take (i := 1) (oi := { dst := some 4, op := _, type := _, pos := _, after := _, guard := _ }) (v := ?_) rfl (by kernel_rfl) (by kernel_rfl) (by kernel_rfl) (fun _ _ _ h => h) (Or.inl ⟨by rfl, ?_⟩) (by assumption) ?_
  rotate_left
  · intro u hSu; have hSv := blkCell hSu; clear hSu; go_simp; (try with_reducible rfl)
  try simp only [Act.put, List.setIfInBounds_toArray, List.set_cons_zero, List.set_cons_succ]
  refine wpAnyH_take (i := 3) (oi := { dst := some 6, op := _, type := _, pos := _, after := _, guard := _ }) (v := ?_) rfl (by kernel_rfl) (by kernel_rfl) (by kernel_rfl) (fun _ _ _ h => h) (Or.inl ⟨by rfl, ?_⟩) (by assumption) ?_
  rotate_left
  · intro u hSu; have hSv := blkCell hSu; clear hSu; go_simp; (try with_reducible rfl)
  try simp only [Act.put, List.setIfInBounds_toArray, List.set_cons_zero, List.set_cons_succ]
  refine wpAnyH_take (i := 4) (oi := { dst := some 7, op := _, type := _, pos := _, after := _, guard := _ }) (v := ?_) rfl (by kernel_rfl) (by kernel_rfl) (by kernel_rfl) (fun _ _ _ h => h) (Or.inl ⟨by rfl, ?_⟩) (by assumption) ?_
  rotate_left
  · intro u hSu; have hSv := blkCell hSu; clear hSu; go_simp; (try with_reducible rfl)
  try simp only [Act.put, List.setIfInBounds_toArray, List.set_cons_zero, List.set_cons_succ]
  refine wpAnyH_take (i := 7) (oi := { dst := some 10, op := _, type := _, pos := _, after := _, guard := _ }) (v := ?_) rfl (by kernel_rfl) (by kernel_rfl) (by kernel_rfl) (fun _ _ _ h => h) (Or.inl ⟨by rfl, ?_⟩) (by assumption) ?_
  rotate_left
  · intro u hSu; have hSv := blkCell hSu; clear hSu; go_simp; (try with_reducible rfl)
  try simp only [Act.put, List.setIfInBounds_toArray, List.set_cons_zero, List.set_cons_succ]
  refine wpAnyH_take (i := 8) (oi := { dst := some 11, op := _, type := _, pos := _, after := _, guard := _ }) (v := ?_) rfl (by kernel_rfl) (by kernel_rfl) (by kernel_rfl) (fun _ _ _ h => h) (Or.inl ⟨by rfl, ?_⟩) (by assumption) ?_
  rotate_left
  · intro u hSu; have hSv := blkCell hSu; clear hSu; go_simp; (try with_reducible rfl)
  try simp only [Act.put, List.setIfInBounds_toArray, List.set_cons_zero, List.set_cons_succ]
  refine wpAnyH_take (i := 11) (oi := { dst := some 14, op := _, type := _, pos := _, after := _, guard := _ }) (v := ?_) rfl (by kernel_rfl) (by kernel_rfl) (by kernel_rfl) (fun _ _ _ h => h) (Or.inl ⟨by rfl, ?_⟩) (by assumption) ?_
  rotate_left
  · intro u hSu; have hSv := blkCell hSu; clear hSu; go_simp; (try with_reducible rfl)
  try simp only [Act.put, List.setIfInBounds_toArray, List.set_cons_zero, List.set_cons_succ]
  refine wpAnyH_take (i := 12) (oi := { dst := some 15, op := _, type := _, pos := _, after := _, guard := _ }) (v := ?_) rfl (by kernel_rfl) (by kernel_rfl) (by kernel_rfl) (fun _ _ _ h => h) (Or.inl ⟨by rfl, ?_⟩) (by assumption) ?_
  rotate_left
  · intro u hSu; have hSv := blkCell hSu; clear hSu; go_simp; (try with_reducible rfl)
  try simp only [Act.put, List.setIfInBounds_toArray, List.set_cons_zero, List.set_cons_succ]
  refine wpAnyH_ready (rs := [2]) (by kernel_rfl) (by simp) ?_
  refine AllReadyH.cons (o := { dst := some 5, op := _, type := _, pos := _, after := _, guard := _ }) rfl (fun K hK => ?_) ?_
  rotate_left
  · exact AllReadyH.nil
  go_simp
  refine (HP1.out _).mono ?_; rintro e v1 ⟨rfl, hb⟩; have X1 := blkOld X0 hb; have B1 := joinB B0 hb; try clear hSn
  have hSn := X1
  clear hb
  refine hK.out _ _ ?_ (fun hHeld => ?_)
  · first | exact hSn | exact X0
  clear hK K
  try simp only [Act.put, List.setIfInBounds_toArray, List.set_cons_zero, List.set_cons_succ]
  refine wpAnyH_ready (rs := [5]) (by kernel_rfl) (by simp) ?_
  refine AllReadyH.cons (o := { dst := some 8, op := _, type := _, pos := _, after := _, guard := _ }) rfl (fun K hK => ?_) ?_
  rotate_left
  · exact AllReadyH.nil
  go_simp
  refine (HP2.out _).mono ?_; rintro e v2 ⟨rfl, hb⟩; have X2 := blkOld X1 hb; have B2 := joinB B1 hb; try clear hSn
  have hSn := X2
  clear hb
  refine hK.out _ _ ?_ (fun hHeld => ?_)
  · first | exact hSn | exact X0
  clear hK K
  try simp only [Act.put, List.setIfInBounds_toArray, List.set_cons_zero, List.set_cons_succ]
  refine wpAnyH_take (i := 6) (oi := { dst := some 9, op := _, type := _, pos := _, after := _, guard := _ }) (v := ?_) rfl (by kernel_rfl) (by kernel_rfl) (by kernel_rfl) (fun _ _ _ h => h) (Or.inl ⟨by rfl, ?_⟩) (by assumption) ?_
  rotate_left
  · intro u hSu; have hSv := blkCell hSu; clear hSu; go_simp; (try with_reducible rfl)
  try simp only [Act.put, List.setIfInBounds_toArray, List.set_cons_zero, List.set_cons_succ]
  refine wpAnyH_ready (rs := [9]) (by kernel_rfl) (by simp) ?_
  refine AllReadyH.cons (o := { dst := some 12, op := _, type := _, pos := _, after := _, guard := _ }) rfl (fun K hK => ?_) ?_
  rotate_left
  · exact AllReadyH.nil
  go_simp
  refine (HT1.out _).mono ?_; rintro e v3 ⟨rfl, hb⟩; have X3 := blkOld X2 hb; have B3 := joinB B2 hb; try clear hSn
  have hSn := X3
  clear hb
  refine hK.out _ _ ?_ (fun hHeld => ?_)
  · first | exact hSn | exact X0
  clear hK K
  try simp only [Act.put, List.setIfInBounds_toArray, List.set_cons_zero, List.set_cons_succ]
  refine wpAnyH_take (i := 10) (oi := { dst := some 13, op := _, type := _, pos := _, after := _, guard := _ }) (v := ?_) rfl (by kernel_rfl) (by kernel_rfl) (by kernel_rfl) (fun _ _ _ h => h) (Or.inl ⟨by rfl, ?_⟩) (by assumption) ?_
  rotate_left
  · intro u hSu; have hSv := blkCell hSu; clear hSu; go_simp; (try with_reducible rfl)
  try simp only [Act.put, List.setIfInBounds_toArray, List.set_cons_zero, List.set_cons_succ]
  refine wpAnyH_ready (rs := [13]) (by kernel_rfl) (by simp) ?_
  refine AllReadyH.cons (o := { dst := some 16, op := _, type := _, pos := _, after := _, guard := _ }) rfl (fun K hK => ?_) ?_
  rotate_left
  · exact AllReadyH.nil
  go_simp
  refine (HT2.out _).mono ?_; rintro e v4 ⟨rfl, hb⟩; have X4 := blkOld X3 hb; have B4 := joinB B3 hb; try clear hSn
  have hSn := X4
  clear hb
  refine hK.out _ _ ?_ (fun hHeld => ?_)
  · first | exact hSn | exact X0
  clear hK K
  try simp only [Act.put, List.setIfInBounds_toArray, List.set_cons_zero, List.set_cons_succ]
  refine wpAnyH_take (i := 14) (oi := { dst := some 17, op := _, type := _, pos := _, after := _, guard := _ }) (v := ?_) rfl (by kernel_rfl) (by kernel_rfl) (by kernel_rfl) (fun _ _ _ h => h) (Or.inl ⟨by rfl, ?_⟩) (by assumption) ?_
  rotate_left
  · intro u hSu; have hSv := blkCell hSu; clear hSu; go_simp; (try with_reducible rfl)
  try simp only [Act.put, List.setIfInBounds_toArray, List.set_cons_zero, List.set_cons_succ]
  refine wpAnyH_take (i := 15) (oi := { dst := some 2, op := _, type := _, pos := _, after := _, guard := _ }) (v := ?_) rfl (by kernel_rfl) (by kernel_rfl) (by kernel_rfl) (fun _ _ _ h => h) (Or.inl ⟨by rfl, ?_⟩) (by assumption) ?_
  rotate_left
  · intro u hSu; have hSv := blkCell hSu; clear hSu; go_simp; (try with_reducible rfl)
  try simp only [Act.put, List.setIfInBounds_toArray, List.set_cons_zero, List.set_cons_succ]
  refine wpAnyH_done (by kernel_rfl) ?_ _
  clear hHeld hSn
  go_wp2_with fail
  go_ret
  exact ⟨rfl, B4⟩
end Go.Proofs.Ytojaagnfjenhoaa
