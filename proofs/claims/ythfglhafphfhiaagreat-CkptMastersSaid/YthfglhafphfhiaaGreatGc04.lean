/- The walks over package rec: how a change is undone. -/
import Derived.Test.YthfglhafphfhiaaGreatGc03
import Derived.BigRegion
namespace Go.Proofs.YthfglhafphfhiaaGreat
open Go.RowKit
set_option maxRecDepth 100000 in
set_option maxHeartbeats 400000 in
theorem tree_any (r : Rc.Rec) (T D : Value) (w : World) :
    Calls Tryz.prog 116 #[recV r T D] w fun e w' => e = .returned (.bool (decide (Rc.treeR r))) ∧ Below w.heap.size w w' := by
  obtain ⟨lsn, prev, txn, kind, page, next, num, ⟨ok, os, oo, on⟩, how, root, ⟨ek, ep, es⟩, ts, ds⟩ := r
  have HEQ := Lib.hid (fun W => key_equal ⟨ek, ep, es⟩ ⟨⟨#[]⟩, 0, 0⟩ W)
  by_cases hh : how = 1
  · subst hh
    by_cases hr : root = 0
    · subst hr
      have heq := HEQ.out
      have HT := Lib.hid (show decide (Rc.treeR ⟨lsn, prev, txn, kind, page, next, num, ⟨ok, os, oo, on⟩, 1, 0, ⟨ek, ep, es⟩, ts, ds⟩) = decide ((⟨ek, ep, es⟩ : Rc.Key) = ⟨⟨#[]⟩, 0, 0⟩) from decide_eq_decide.2 ⟨fun h => by
        rcases h with ⟨_, _, h3⟩ | ⟨h1, _⟩
        · exact h3
        · simp only at h1; omega, fun h => .inl ⟨rfl, rfl, h⟩⟩)
      rw [HT.out]
      generalize decide ((⟨ek, ep, es⟩ : Rc.Key) = ⟨⟨#[]⟩, 0, 0⟩) = b at heq ⊢
      go_enter Tryz.func116, Tryz.ntmps116
      go_wp2_with fail
      go_ret
      exact ⟨by simp, allocB _ _⟩
    · have h2 : (root == 0) = false := by simp [hr]
      rw [show decide (Rc.treeR ⟨lsn, prev, txn, kind, page, next, num, ⟨ok, os, oo, on⟩, 1, root, ⟨ek, ep, es⟩, ts, ds⟩) = false from decide_eq_false (fun h => by
        rcases h with ⟨_, h3, _⟩ | ⟨h1, _⟩
        · exact hr h3
        · simp only at h1; omega)]
      clear hr
      go_enter Tryz.func116, Tryz.ntmps116
      go_wp2_with fail
      go_ret
      exact ⟨by simp, allocB _ _⟩
  · have hh1 : (how == 1) = false := by simp [hh]
    have NOT := Lib.hid (show ∀ (h : ¬ ((how = 2 ∨ how = 3) ∧ Rc.pg root ∧ Rc.pg ep ∧ Rc.sl es ∧ ek.size ≤ 100)), decide (Rc.treeR ⟨lsn, prev, txn, kind, page, next, num, ⟨ok, os, oo, on⟩, how, root, ⟨ek, ep, es⟩, ts, ds⟩) = false from fun h => decide_eq_false (fun h' => by
      rcases h' with ⟨h1, _⟩ | h1
      · exact hh h1
      · exact h h1))
    by_cases hk : how = 2 ∨ how = 3
    rotate_left
    · rw [NOT.out (fun h => hk h.1)]
      have hh2 : (how == 2) = false := by simp; omega
      have hh3 : (how == 3) = false := by simp; omega
      clear hk hh
      go_enter Tryz.func116, Tryz.ntmps116
      go_wp2_with fail
      go_ret
      exact ⟨by simp, allocB _ _⟩
    rcases hk with rfl | rfl
    · clear hh
      cases hp : decide (Rc.pg root ∧ Rc.pg ep) with
      | false =>
        rw [NOT.out (fun h => of_decide_eq_false hp ⟨h.2.1, h.2.2.1⟩)]
        have hP := Lib.hid hp
        clear hp
        go_enter Tryz.func116, Tryz.ntmps116
        go_wp2_with (first | (go_at_call 114; (with_reducible refine (paged2 root ep _ _ ?_).mono ?_); (first | with_reducible exact heap_alloc_new _ _ | with_reducible exact new2 _ _ _); rintro e w2 ⟨rfl, hb2⟩; rw [hP.out]))
        go_ret
        exact ⟨by simp, joinB (pastAlloc (allocB _ _)) hb2⟩
      | true =>
        have hP := Lib.hid hp
        have hP2 := Lib.hid (of_decide_eq_true hp)
        clear hp
        cases hs : decide (Rc.sl es) with
        | false =>
          rw [NOT.out (fun h => of_decide_eq_false hs h.2.2.2.1)]
          have hS := Lib.hid hs
          clear hs
          go_enter Tryz.func116, Tryz.ntmps116
          go_wp2_with (first | (go_at_call 114; (with_reducible refine (paged2 root ep _ _ ?_).mono ?_); (first | with_reducible exact heap_alloc_new _ _ | with_reducible exact new2 _ _ _); rintro e w2 ⟨rfl, hb2⟩; rw [hP.out]; have hx := blkPast (heap_alloc_new w _) hb2; have h14 := blkCell hx 15; have h13 := blkCell hx 13; have HX := Lib.hid hx; clear hx; simp at h14 h13) | (go_at_call 147; (with_reducible refine (slot1 es _ _ ?_).mono ?_); (first | with_reducible exact heap_alloc_new _ _ | with_reducible exact new2 _ _ _); rintro e w3 ⟨rfl, hb3⟩; rw [hS.out]; have h23 := blkCell (blkPast HX.out hb3) 13; simp at h23))
          go_ret
          exact ⟨by simp, joinB (pastAlloc (joinB (pastAlloc (allocB _ _)) hb2)) hb3⟩
        | true =>
          have hS := Lib.hid hs
          have hS2 := Lib.hid (of_decide_eq_true hs)
          clear hs
          by_cases hl : (ek.size : Int) ≤ 100
          · have HY := Lib.hid (show decide (Rc.treeR ⟨lsn, prev, txn, kind, page, next, num, ⟨ok, os, oo, on⟩, 2, root, ⟨ek, ep, es⟩, ts, ds⟩) = true from decide_eq_true (.inr ⟨by simp, hP2.out.1, hP2.out.2, hS2.out, by show ek.size ≤ 100; omega⟩))
            rw [HY.out]
            go_enter Tryz.func116, Tryz.ntmps116
            go_wp2_with (first | (go_at_call 114; (with_reducible refine (paged2 root ep _ _ ?_).mono ?_); (first | with_reducible exact heap_alloc_new _ _ | with_reducible exact new2 _ _ _); rintro e w2 ⟨rfl, hb2⟩; rw [hP.out]; have hx := blkPast (heap_alloc_new w _) hb2; have h14 := blkCell hx 15; have h13 := blkCell hx 13; have HX := Lib.hid hx; clear hx; simp at h14 h13) | (go_at_call 147; (with_reducible refine (slot1 es _ _ ?_).mono ?_); (first | with_reducible exact heap_alloc_new _ _ | with_reducible exact new2 _ _ _); rintro e w3 ⟨rfl, hb3⟩; rw [hS.out]; have h23 := blkCell (blkPast HX.out hb3) 13; simp at h23))
            go_ret
            exact ⟨by simp [*], joinB (pastAlloc (joinB (pastAlloc (allocB _ _)) hb2)) hb3⟩
          · rw [NOT.out (fun h => by have := h.2.2.2.2; omega)]
            have hl2 : 100 < (ek.size : Int) := by omega
            clear hl
            go_enter Tryz.func116, Tryz.ntmps116
            go_wp2_with (first | (go_at_call 114; (with_reducible refine (paged2 root ep _ _ ?_).mono ?_); (first | with_reducible exact heap_alloc_new _ _ | with_reducible exact new2 _ _ _); rintro e w2 ⟨rfl, hb2⟩; rw [hP.out]; have hx := blkPast (heap_alloc_new w _) hb2; have h14 := blkCell hx 15; have h13 := blkCell hx 13; have HX := Lib.hid hx; clear hx; simp at h14 h13) | (go_at_call 147; (with_reducible refine (slot1 es _ _ ?_).mono ?_); (first | with_reducible exact heap_alloc_new _ _ | with_reducible exact new2 _ _ _); rintro e w3 ⟨rfl, hb3⟩; rw [hS.out]; have h23 := blkCell (blkPast HX.out hb3) 13; simp at h23))
            go_ret
            exact ⟨by simp [*], joinB (pastAlloc (joinB (pastAlloc (allocB _ _)) hb2)) hb3⟩
    
    · clear hh
      cases hp : decide (Rc.pg root ∧ Rc.pg ep) with
      | false =>
        rw [NOT.out (fun h => of_decide_eq_false hp ⟨h.2.1, h.2.2.1⟩)]
        have hP := Lib.hid hp
        clear hp
        go_enter Tryz.func116, Tryz.ntmps116
        go_wp2_with (first | (go_at_call 114; (with_reducible refine (paged2 root ep _ _ ?_).mono ?_); (first | with_reducible exact heap_alloc_new _ _ | with_reducible exact new2 _ _ _); rintro e w2 ⟨rfl, hb2⟩; rw [hP.out]))
        go_ret
        exact ⟨by simp, joinB (pastAlloc (allocB _ _)) hb2⟩
      | true =>
        have hP := Lib.hid hp
        have hP2 := Lib.hid (of_decide_eq_true hp)
        clear hp
        cases hs : decide (Rc.sl es) with
        | false =>
          rw [NOT.out (fun h => of_decide_eq_false hs h.2.2.2.1)]
          have hS := Lib.hid hs
          clear hs
          go_enter Tryz.func116, Tryz.ntmps116
          go_wp2_with (first | (go_at_call 114; (with_reducible refine (paged2 root ep _ _ ?_).mono ?_); (first | with_reducible exact heap_alloc_new _ _ | with_reducible exact new2 _ _ _); rintro e w2 ⟨rfl, hb2⟩; rw [hP.out]; have hx := blkPast (heap_alloc_new w _) hb2; have h14 := blkCell hx 15; have h13 := blkCell hx 13; have HX := Lib.hid hx; clear hx; simp at h14 h13) | (go_at_call 147; (with_reducible refine (slot1 es _ _ ?_).mono ?_); (first | with_reducible exact heap_alloc_new _ _ | with_reducible exact new2 _ _ _); rintro e w3 ⟨rfl, hb3⟩; rw [hS.out]; have h23 := blkCell (blkPast HX.out hb3) 13; simp at h23))
          go_ret
          exact ⟨by simp, joinB (pastAlloc (joinB (pastAlloc (allocB _ _)) hb2)) hb3⟩
        | true =>
          have hS := Lib.hid hs
          have hS2 := Lib.hid (of_decide_eq_true hs)
          clear hs
          by_cases hl : (ek.size : Int) ≤ 100
          · have HY := Lib.hid (show decide (Rc.treeR ⟨lsn, prev, txn, kind, page, next, num, ⟨ok, os, oo, on⟩, 3, root, ⟨ek, ep, es⟩, ts, ds⟩) = true from decide_eq_true (.inr ⟨by simp, hP2.out.1, hP2.out.2, hS2.out, by show ek.size ≤ 100; omega⟩))
            rw [HY.out]
            go_enter Tryz.func116, Tryz.ntmps116
            go_wp2_with (first | (go_at_call 114; (with_reducible refine (paged2 root ep _ _ ?_).mono ?_); (first | with_reducible exact heap_alloc_new _ _ | with_reducible exact new2 _ _ _); rintro e w2 ⟨rfl, hb2⟩; rw [hP.out]; have hx := blkPast (heap_alloc_new w _) hb2; have h14 := blkCell hx 15; have h13 := blkCell hx 13; have HX := Lib.hid hx; clear hx; simp at h14 h13) | (go_at_call 147; (with_reducible refine (slot1 es _ _ ?_).mono ?_); (first | with_reducible exact heap_alloc_new _ _ | with_reducible exact new2 _ _ _); rintro e w3 ⟨rfl, hb3⟩; rw [hS.out]; have h23 := blkCell (blkPast HX.out hb3) 13; simp at h23))
            go_ret
            exact ⟨by simp [*], joinB (pastAlloc (joinB (pastAlloc (allocB _ _)) hb2)) hb3⟩
          · rw [NOT.out (fun h => by have := h.2.2.2.2; omega)]
            have hl2 : 100 < (ek.size : Int) := by omega
            clear hl
            go_enter Tryz.func116, Tryz.ntmps116
            go_wp2_with (first | (go_at_call 114; (with_reducible refine (paged2 root ep _ _ ?_).mono ?_); (first | with_reducible exact heap_alloc_new _ _ | with_reducible exact new2 _ _ _); rintro e w2 ⟨rfl, hb2⟩; rw [hP.out]; have hx := blkPast (heap_alloc_new w _) hb2; have h14 := blkCell hx 15; have h13 := blkCell hx 13; have HX := Lib.hid hx; clear hx; simp at h14 h13) | (go_at_call 147; (with_reducible refine (slot1 es _ _ ?_).mono ?_); (first | with_reducible exact heap_alloc_new _ _ | with_reducible exact new2 _ _ _); rintro e w3 ⟨rfl, hb3⟩; rw [hS.out]; have h23 := blkCell (blkPast HX.out hb3) 13; simp at h23))
            go_ret
            exact ⟨by simp [*], joinB (pastAlloc (joinB (pastAlloc (allocB _ _)) hb2)) hb3⟩
end Go.Proofs.YthfglhafphfhiaaGreat
/- The walk over package rec: Right: its three boxes. -/
namespace Rc
section
open Classical
/-- May a record be? -/
noncomputable def rightB (r : Rec) : Bool := decide (Right r)
theorem rightB_no {r : Rec} (h : ¬ Right r) : rightB r = false := by unfold rightB; exact decide_eq_false h
theorem rightB_yes {r : Rec} (h : Right r) : rightB r = true := by unfold rightB; exact decide_eq_true h
theorem rightB_iff {r : Rec} : rightB r = true ↔ Right r := by unfold rightB; exact decide_eq_true_iff
end
end Rc
namespace Go.Proofs.YthfglhafphfhiaaGreat
open Go.RowKit
/-- The three boxes of Right: the record, its form, what it may have. -/
structure Boxes (w : World) (a f b : Nat) (R F X : Array Value) (u : World) : Prop where
  br : u.heap[a]? = some (.cells R 85 (0, 0))
  bf : u.heap[f]? = some (.cells F 149 (0, 0))
  bx : u.heap[b]? = some (.cells X 85 (0, 0))
  ab : a < b ∧ f < b
  low : w.heap.size ≤ a
  below : Below w.heap.size w u
theorem Boxes.step {w u v : World} {a f b : Nat} {R F X : Array Value} (h : Boxes w a f b R F X u) (hb : Below u.heap.size u v) : Boxes w a f b R F X v :=
  ⟨blkOld h.br hb, blkOld h.bf hb, blkOld h.bx hb, h.ab, h.low, joinB h.below hb⟩
theorem Boxes.set {w u : World} {a f b : Nat} {R F X : Array Value} (h : Boxes w a f b R F X u) (i : Nat) (v : Value) : Boxes w a f b R F (X.setIfInBounds i v) (u.setCell ⟨b, i, none⟩ v) :=
  ⟨by rw [Below.heap_setCell _ _ _ _ (by have := h.ab; show a ≠ b; omega)]; exact h.br, by rw [Below.heap_setCell _ _ _ _ (by have := h.ab; show f ≠ b; omega)]; exact h.bf, blkSet i h.bx v, h.ab, h.low, h.below.setCell (by have := h.ab; have := h.low; show _ ≤ b; omega) v⟩
theorem Boxes.drew {w u : World} {a f b : Nat} {R F X : Array Value} (h : Boxes w a f b R F X u) : Boxes w a f b R F X u.drew := ⟨h.br, h.bf, h.bx, h.ab, h.low, h.below.drew⟩
theorem Boxes.alloc {w u : World} {a f b : Nat} {R F X : Array Value} (h : Boxes w a f b R F X u) (o : Obj) : Boxes w a f b R F X (u.alloc o) := h.step (allocB u o)
theorem boxes_new {w w1 w2 : World} {R F X : Array Value} {o : Obj} (hb1 : Below (w.alloc (.cells R 85)).heap.size (w.alloc (.cells R 85)) w1)
    (hb2 : Below ((w1.alloc (.cells F 149)).alloc o).heap.size ((w1.alloc (.cells F 149)).alloc o) w2) : Boxes w w.heap.size w1.heap.size w2.heap.size R F X (w2.alloc (.cells X 85)) := by
  have h1 : Below w.heap.size w w1 := joinB (allocB _ _) hb1
  have h2 : Below w1.heap.size w1 w2 := joinB (pastAlloc (allocB _ _)) hb2
  have hs1 := hb1.size
  have hs2 := hb2.size
  simp at hs1 hs2
  refine ⟨?_, ?_, heap_alloc_new w2 _, ⟨by omega, by omega⟩, Nat.le_refl _, pastAlloc (joinB h1 h2)⟩
  · rw [Below.heap_alloc _ _ _ (by omega)]; exact blkOld (blkNew hb1) h2
  · rw [Below.heap_alloc _ _ _ (by omega)]; exact blkOld (new21 _ _ _) hb2
end Go.Proofs.YthfglhafphfhiaaGreat
/- The walks over package rec: Same. -/
namespace Go.Proofs.YthfglhafphfhiaaGreat
open Go.RowKit
set_option maxRecDepth 100000 in
set_option maxHeartbeats 8000000 in
theorem same_any (r s : Rc.Rec) (A A' B B' : Option Addr) (c c' d d' : Nat) (w : World) (hr : RecR w r A c B d) (hs : RecR w s A' c' B' d') :
    Calls Tryz.prog 121 #[recV r (.slice A r.txns.length c) (.slice B r.dirty.length d), recV s (.slice A' s.txns.length c') (.slice B' s.dirty.length d')] w fun e w' => e = .returned (.bool (decide (r = s))) ∧ Below w.heap.size w w' := by
  have HT := Lib.hid (fun W hb => equal_txn r.txns s.txns hr.small.1 hs.small.1 A A' c c' W (hr.txns.below hb) (hs.txns.below hb))
  have HD := Lib.hid (fun W hb => equal_dirty r.dirty s.dirty hr.small.2 hs.small.2 B B' d d' W (hr.dirty.below hb) (hs.dirty.below hb))
  have ht1 := hr.small.1
  have ht2 := hs.small.1
  have hd1 := hr.small.2
  have hd2 := hs.small.2
  have HO := Lib.hid (fun W => op_equal r.op s.op W)
  have HK := Lib.hid (fun W => key_equal r.e s.e W)
  clear hr hs
  obtain ⟨rls, rpr, rtx, rki, rpa, rne, rnu, rop, rho, rro, rek, rts, rds⟩ := r
  obtain ⟨sls, spr, stx, ski, spa, sne, snu, sop, sho, sro, sek, sts, sds⟩ := s
  simp only at HT HD HO HK ht1 ht2 hd1 hd2 ⊢
  by_cases hls : rls = sls
  rotate_left
  · rw [decide_eq_false (fun e => hls (congrArg Rc.Rec.lsn e))]
    have nls : (rls == sls) = false := by simp [hls]
    have mls : (rls != sls) = true := by simp [hls]
    clear hls
    obtain ⟨rk, rs, rx, ry⟩ := rop
    obtain ⟨sk, ss, sx, sy⟩ := sop
    obtain ⟨rek1, rek2, rek3⟩ := rek
    obtain ⟨sek1, sek2, sek3⟩ := sek
    go_enter Tryz.func121, Tryz.ntmps121
    go_wp2_with fail
    go_ret
    exact ⟨by simp, pastAlloc (allocB _ _)⟩
  subst hls
  by_cases hpr : rpr = spr
  rotate_left
  · rw [decide_eq_false (fun e => hpr (congrArg Rc.Rec.prev e))]
    have npr : (rpr == spr) = false := by simp [hpr]
    have mpr : (rpr != spr) = true := by simp [hpr]
    clear hpr
    obtain ⟨rk, rs, rx, ry⟩ := rop
    obtain ⟨sk, ss, sx, sy⟩ := sop
    obtain ⟨rek1, rek2, rek3⟩ := rek
    obtain ⟨sek1, sek2, sek3⟩ := sek
    go_enter Tryz.func121, Tryz.ntmps121
    go_wp2_with fail
    go_ret
    exact ⟨by simp, pastAlloc (allocB _ _)⟩
  subst hpr
  by_cases htx : rtx = stx
  rotate_left
  · rw [decide_eq_false (fun e => htx (congrArg Rc.Rec.txn e))]
    have ntx : (rtx == stx) = false := by simp [htx]
    have mtx : (rtx != stx) = true := by simp [htx]
    clear htx
    obtain ⟨rk, rs, rx, ry⟩ := rop
    obtain ⟨sk, ss, sx, sy⟩ := sop
    obtain ⟨rek1, rek2, rek3⟩ := rek
    obtain ⟨sek1, sek2, sek3⟩ := sek
    go_enter Tryz.func121, Tryz.ntmps121
    go_wp2_with fail
    go_ret
    exact ⟨by simp, pastAlloc (allocB _ _)⟩
  subst htx
  by_cases hki : rki = ski
  rotate_left
  · rw [decide_eq_false (fun e => hki (congrArg Rc.Rec.kind e))]
    have nki : (rki == ski) = false := by simp [hki]
    have mki : (rki != ski) = true := by simp [hki]
    clear hki
    obtain ⟨rk, rs, rx, ry⟩ := rop
    obtain ⟨sk, ss, sx, sy⟩ := sop
    obtain ⟨rek1, rek2, rek3⟩ := rek
    obtain ⟨sek1, sek2, sek3⟩ := sek
    go_enter Tryz.func121, Tryz.ntmps121
    go_wp2_with fail
    go_ret
    exact ⟨by simp, pastAlloc (allocB _ _)⟩
  subst hki
  by_cases hpa : rpa = spa
  rotate_left
  · rw [decide_eq_false (fun e => hpa (congrArg Rc.Rec.page e))]
    have npa : (rpa == spa) = false := by simp [hpa]
    have mpa : (rpa != spa) = true := by simp [hpa]
    clear hpa
    obtain ⟨rk, rs, rx, ry⟩ := rop
    obtain ⟨sk, ss, sx, sy⟩ := sop
    obtain ⟨rek1, rek2, rek3⟩ := rek
    obtain ⟨sek1, sek2, sek3⟩ := sek
    go_enter Tryz.func121, Tryz.ntmps121
    go_wp2_with fail
    go_ret
    exact ⟨by simp, pastAlloc (allocB _ _)⟩
  subst hpa
  by_cases hne : rne = sne
  rotate_left
  · rw [decide_eq_false (fun e => hne (congrArg Rc.Rec.next e))]
    have nne : (rne == sne) = false := by simp [hne]
    have mne : (rne != sne) = true := by simp [hne]
    clear hne
    obtain ⟨rk, rs, rx, ry⟩ := rop
    obtain ⟨sk, ss, sx, sy⟩ := sop
    obtain ⟨rek1, rek2, rek3⟩ := rek
    obtain ⟨sek1, sek2, sek3⟩ := sek
    go_enter Tryz.func121, Tryz.ntmps121
    go_wp2_with fail
    go_ret
    exact ⟨by simp, pastAlloc (allocB _ _)⟩
  subst hne
  by_cases hnu : rnu = snu
  rotate_left
  · rw [decide_eq_false (fun e => hnu (congrArg Rc.Rec.num e))]
    have nnu : (rnu == snu) = false := by simp [hnu]
    have mnu : (rnu != snu) = true := by simp [hnu]
    clear hnu
    obtain ⟨rk, rs, rx, ry⟩ := rop
    obtain ⟨sk, ss, sx, sy⟩ := sop
    obtain ⟨rek1, rek2, rek3⟩ := rek
    obtain ⟨sek1, sek2, sek3⟩ := sek
    go_enter Tryz.func121, Tryz.ntmps121
    go_wp2_with fail
    go_ret
    exact ⟨by simp, pastAlloc (allocB _ _)⟩
  subst hnu
  cases hop : decide (rop = sop) with
  | false =>
    rw [decide_eq_false (fun e => of_decide_eq_false hop (congrArg Rc.Rec.op e))]
    have eop := HO.out
    rw [hop] at eop
    clear hop
    obtain ⟨rk, rs, rx, ry⟩ := rop
    obtain ⟨sk, ss, sx, sy⟩ := sop
    obtain ⟨rek1, rek2, rek3⟩ := rek
    obtain ⟨sek1, sek2, sek3⟩ := sek
    go_enter Tryz.func121, Tryz.ntmps121
    go_wp2_with fail
    go_ret
    exact ⟨by simp, pastAlloc (allocB _ _)⟩
  | true =>
  have eop := HO.out
  rw [hop] at eop
  have Dop := Lib.hid (of_decide_eq_true hop)
  clear hop HO
  by_cases hho : rho = sho
  rotate_left
  · rw [decide_eq_false (fun e => hho (congrArg Rc.Rec.how e))]
    have nho : (rho == sho) = false := by simp [hho]
    have mho : (rho != sho) = true := by simp [hho]
    clear hho
    obtain ⟨rk, rs, rx, ry⟩ := rop
    obtain ⟨sk, ss, sx, sy⟩ := sop
    obtain ⟨rek1, rek2, rek3⟩ := rek
    obtain ⟨sek1, sek2, sek3⟩ := sek
    go_enter Tryz.func121, Tryz.ntmps121
    go_wp2_with fail
    go_ret
    exact ⟨by simp, pastAlloc (allocB _ _)⟩
  subst hho
  by_cases hro : rro = sro
  rotate_left
  · rw [decide_eq_false (fun e => hro (congrArg Rc.Rec.root e))]
    have nro : (rro == sro) = false := by simp [hro]
    have mro : (rro != sro) = true := by simp [hro]
    clear hro
    obtain ⟨rk, rs, rx, ry⟩ := rop
    obtain ⟨sk, ss, sx, sy⟩ := sop
    obtain ⟨rek1, rek2, rek3⟩ := rek
    obtain ⟨sek1, sek2, sek3⟩ := sek
    go_enter Tryz.func121, Tryz.ntmps121
    go_wp2_with fail
    go_ret
    exact ⟨by simp, pastAlloc (allocB _ _)⟩
  subst hro
  cases hek : decide (rek = sek) with
  | false =>
    rw [decide_eq_false (fun e => of_decide_eq_false hek (congrArg Rc.Rec.e e))]
    have eek := HK.out
    rw [hek] at eek
    clear hek
    obtain ⟨rk, rs, rx, ry⟩ := rop
    obtain ⟨sk, ss, sx, sy⟩ := sop
    obtain ⟨rek1, rek2, rek3⟩ := rek
    obtain ⟨sek1, sek2, sek3⟩ := sek
    go_enter Tryz.func121, Tryz.ntmps121
    go_wp2_with fail
    go_ret
    exact ⟨by simp, pastAlloc (allocB _ _)⟩
  | true =>
  have eek := HK.out
  rw [hek] at eek
  have Dek := Lib.hid (of_decide_eq_true hek)
  clear hek HK
  cases hts' : decide (rts = sts) with
  | false =>
    have Dts := Lib.hid hts'
    rw [decide_eq_false (fun e => of_decide_eq_false hts' (congrArg Rc.Rec.txns e))]
    clear hts'
    obtain ⟨rk, rs, rx, ry⟩ := rop
    obtain ⟨sk, ss, sx, sy⟩ := sop
    obtain ⟨rek1, rek2, rek3⟩ := rek
    obtain ⟨sek1, sek2, sek3⟩ := sek
    go_enter Tryz.func121, Tryz.ntmps121
    go_wp2_with (first | (go_at_call 149; (with_reducible refine (HT.out _ ?_).mono ?_); (exact pastAlloc (allocB _ _)); rintro e w2 ⟨rfl, hb2⟩; have hx1 := blkOld (new21 _ _ _) hb2; have hx2 := blkOld (new2 _ _ _) hb2; have q1 := blkCell hx1 17; have q2 := blkCell hx2 17; clear hx1 hx2; simp at q1 q2; rw [Dts.out]))
    go_ret
    exact ⟨by simp, joinB (pastAlloc (allocB _ _)) hb2⟩
  | true =>
  have Bts := Lib.hid hts'
  have Dts := Lib.hid (of_decide_eq_true hts')
  clear hts'
  cases hds' : decide (rds = sds) with
  | false =>
    have Dds := Lib.hid hds'
    rw [decide_eq_false (fun e => of_decide_eq_false hds' (congrArg Rc.Rec.dirty e))]
    clear hds'
    obtain ⟨rk, rs, rx, ry⟩ := rop
    obtain ⟨sk, ss, sx, sy⟩ := sop
    obtain ⟨rek1, rek2, rek3⟩ := rek
    obtain ⟨sek1, sek2, sek3⟩ := sek
    go_enter Tryz.func121, Tryz.ntmps121
    go_wp2_with (first | (go_at_call 149; (with_reducible refine (HT.out _ ?_).mono ?_); (exact pastAlloc (allocB _ _)); rintro e w2 ⟨rfl, hb2⟩; have hx1 := blkOld (new21 _ _ _) hb2; have hx2 := blkOld (new2 _ _ _) hb2; have q1 := blkCell hx1 17; have q2 := blkCell hx2 17; clear hx1 hx2; simp at q1 q2; rw [Bts.out]) | (go_at_call 150; (with_reducible refine (HD.out _ ?_).mono ?_); (exact joinB (pastAlloc (allocB _ _)) hb2); rintro e w3 ⟨rfl, hb3⟩; rw [Dds.out]))
    go_ret
    exact ⟨by simp, joinB (joinB (pastAlloc (allocB _ _)) hb2) hb3⟩
  | true =>
  have Bds := Lib.hid hds'
  have Dds := Lib.hid (of_decide_eq_true hds')
  clear hds'
  rw [decide_eq_true (by rw [Dop.out, Dek.out, Dts.out, Dds.out])]
  clear Dop Dek Dts Dds
  obtain ⟨rk, rs, rx, ry⟩ := rop
  obtain ⟨sk, ss, sx, sy⟩ := sop
  obtain ⟨rek1, rek2, rek3⟩ := rek
  obtain ⟨sek1, sek2, sek3⟩ := sek
  go_enter Tryz.func121, Tryz.ntmps121
  go_wp2_with (first | (go_at_call 149; (with_reducible refine (HT.out _ ?_).mono ?_); (exact pastAlloc (allocB _ _)); rintro e w2 ⟨rfl, hb2⟩; have hx1 := blkOld (new21 _ _ _) hb2; have hx2 := blkOld (new2 _ _ _) hb2; have q1 := blkCell hx1 17; have q2 := blkCell hx2 17; clear hx1 hx2; simp at q1 q2; rw [Bts.out]) | (go_at_call 150; (with_reducible refine (HD.out _ ?_).mono ?_); (exact joinB (pastAlloc (allocB _ _)) hb2); rintro e w3 ⟨rfl, hb3⟩; rw [Bds.out]))
  go_ret
  exact ⟨by simp, joinB (joinB (pastAlloc (allocB _ _)) hb2) hb3⟩
end Go.Proofs.YthfglhafphfhiaaGreat
/- Which records may be, kind by kind. -/
namespace Rc
abbrev N3 (a b c : Int) : Prop := num a ∧ num b ∧ num c
theorem right_2 (lsn prev txn page next nu how root : Int) (op : Op) (e : Key) (ts : List TxnAt) (ds : List DirtyAt) :
    Right ⟨lsn, prev, txn, 2, page, next, nu, op, how, root, e, ts, ds⟩ ↔ N3 lsn prev txn ∧ ((pg page ∧ opR op) ∧ treeR ⟨lsn, prev, txn, 2, page, next, nu, op, how, root, e, ts, ds⟩) ∧ (⟨lsn, prev, txn, 2, page, 0, 0, op, how, root, e, [], []⟩ : Rec) = ⟨lsn, prev, txn, 2, page, next, nu, op, how, root, e, ts, ds⟩ := by
  constructor
  · intro h
    have f := form_of h
    have h1 := f.change (Or.inl rfl)
    have h2 : next = 0 := f.noNext (fun h => by rcases h with h | h <;> cases h)
    obtain ⟨h3, h4, h5⟩ := f.noLists (fun h => by cases h)
    simp only at h3 h4 h5
    subst h2 h3 h4 h5
    exact ⟨f.nums, ⟨h1, f.tree rfl⟩, rfl⟩
  · rintro ⟨⟨h1, h2, h3⟩, ⟨⟨h4, h5⟩, h6⟩, h7⟩
    rw [← h7]
    exact Right.change _ _ _ _ _ _ _ _ h1 h2 h3 h4 h5 h6
theorem right_3 (lsn prev txn page next nu how root : Int) (op : Op) (e : Key) (ts : List TxnAt) (ds : List DirtyAt) :
    Right ⟨lsn, prev, txn, 3, page, next, nu, op, how, root, e, ts, ds⟩ ↔ N3 lsn prev txn ∧ ((pg page ∧ opR op) ∧ num next) ∧ (⟨lsn, prev, txn, 3, page, next, 0, op, 0, 0, noKey, [], []⟩ : Rec) = ⟨lsn, prev, txn, 3, page, next, nu, op, how, root, e, ts, ds⟩ := by
  constructor
  · intro h
    have f := form_of h
    have h1 := f.change (Or.inr (Or.inl rfl))
    obtain ⟨g1, g2, g3⟩ := f.noTree (fun h => by cases h)
    obtain ⟨h3, h4, h5⟩ := f.noLists (fun h => by cases h)
    simp only at h3 h4 h5 g1 g2 g3
    subst h3 h4 h5 g1 g2 g3
    exact ⟨f.nums, ⟨h1, f.next (Or.inl rfl)⟩, rfl⟩
  · rintro ⟨⟨h1, h2, h3⟩, ⟨⟨h4, h5⟩, h6⟩, h7⟩
    rw [← h7]
    exact Right.clr _ _ _ _ _ _ h1 h2 h3 h4 h5 h6
theorem right_4 (lsn prev txn page next nu how root : Int) (op : Op) (e : Key) (ts : List TxnAt) (ds : List DirtyAt) :
    Right ⟨lsn, prev, txn, 4, page, next, nu, op, how, root, e, ts, ds⟩ ↔ N3 lsn prev txn ∧ num next ∧ (⟨lsn, prev, txn, 4, 0, next, 0, noOp, 0, 0, noKey, [], []⟩ : Rec) = ⟨lsn, prev, txn, 4, page, next, nu, op, how, root, e, ts, ds⟩ := by
  constructor
  · intro h
    have f := form_of h
    obtain ⟨i1, i2⟩ := f.bare (fun h => by rcases h with h | h | h <;> cases h)
    obtain ⟨g1, g2, g3⟩ := f.noTree (fun h => by cases h)
    obtain ⟨h3, h4, h5⟩ := f.noLists (fun h => by cases h)
    simp only at h3 h4 h5 g1 g2 g3 i1 i2
    subst h3 h4 h5 g1 g2 g3 i1 i2
    exact ⟨f.nums, f.next (Or.inr rfl), rfl⟩
  · rintro ⟨⟨h1, h2, h3⟩, h6, h7⟩
    rw [← h7]
    exact Right.nest _ _ _ _ h1 h2 h3 h6
theorem right_8 (lsn prev txn page next nu how root : Int) (op : Op) (e : Key) (ts : List TxnAt) (ds : List DirtyAt) :
    Right ⟨lsn, prev, txn, 8, page, next, nu, op, how, root, e, ts, ds⟩ ↔ N3 lsn prev txn ∧ (pg page ∧ opR op) ∧ (⟨lsn, prev, txn, 8, page, 0, 0, op, 0, 0, noKey, [], []⟩ : Rec) = ⟨lsn, prev, txn, 8, page, next, nu, op, how, root, e, ts, ds⟩ := by
  constructor
  · intro h
    have f := form_of h
    have h1 := f.change (Or.inr (Or.inr rfl))
    have h2 : next = 0 := f.noNext (fun h => by rcases h with h | h <;> cases h)
    obtain ⟨g1, g2, g3⟩ := f.noTree (fun h => by cases h)
    obtain ⟨h3, h4, h5⟩ := f.noLists (fun h => by cases h)
    simp only at h3 h4 h5 g1 g2 g3
    subst h2 h3 h4 h5 g1 g2 g3
    exact ⟨f.nums, h1, rfl⟩
  · rintro ⟨⟨h1, h2, h3⟩, ⟨h4, h5⟩, h7⟩
    rw [← h7]
    exact Right.image _ _ _ _ _ h1 h2 h3 h4 h5
theorem right_9 (lsn prev txn page next nu how root : Int) (op : Op) (e : Key) (ts : List TxnAt) (ds : List DirtyAt) :
    Right ⟨lsn, prev, txn, 9, page, next, nu, op, how, root, e, ts, ds⟩ ↔ N3 lsn prev txn ∧ (((num nu ∧ ts.length ≤ 1000 ∧ ds.length ≤ 2000) ∧ ∀ t ∈ ts, txnR t) ∧ ∀ d ∈ ds, dirtyR d) ∧ (⟨lsn, prev, txn, 9, 0, 0, nu, noOp, 0, 0, noKey, ts, ds⟩ : Rec) = ⟨lsn, prev, txn, 9, page, next, nu, op, how, root, e, ts, ds⟩ := by
  constructor
  · intro h
    have f := form_of h
    obtain ⟨i1, i2⟩ := f.bare (fun h => by rcases h with h | h | h <;> cases h)
    have h2 : next = 0 := f.noNext (fun h => by rcases h with h | h <;> cases h)
    obtain ⟨g1, g2, g3⟩ := f.noTree (fun h => by cases h)
    obtain ⟨j1, j2, j3, j4, j5⟩ := f.lists rfl
    simp only at g1 g2 g3 i1 i2
    subst h2 g1 g2 g3 i1 i2
    exact ⟨f.nums, ⟨⟨⟨j1, j2, j3⟩, j4⟩, j5⟩, rfl⟩
  · rintro ⟨⟨h1, h2, h3⟩, ⟨⟨⟨j1, j2, j3⟩, j4⟩, j5⟩, h7⟩
    rw [← h7]
    exact Right.check _ _ _ _ _ _ h1 h2 h3 j1 ⟨j2, j3, j4, j5⟩
theorem right_small (kind : Int) (hk : kind = 1 ∨ kind = 5 ∨ kind = 6 ∨ kind = 7) (lsn prev txn page next nu how root : Int) (op : Op) (e : Key) (ts : List TxnAt) (ds : List DirtyAt) :
    Right ⟨lsn, prev, txn, kind, page, next, nu, op, how, root, e, ts, ds⟩ ↔ N3 lsn prev txn ∧ (⟨lsn, prev, txn, kind, 0, 0, 0, noOp, 0, 0, noKey, [], []⟩ : Rec) = ⟨lsn, prev, txn, kind, page, next, nu, op, how, root, e, ts, ds⟩ := by
  constructor
  · intro h
    have f := form_of h
    obtain ⟨i1, i2⟩ := f.bare (fun h => by unfold hasChange at h; simp only at h; omega)
    have h2 : next = 0 := f.noNext (fun h => by unfold hasNext at h; simp only at h; omega)
    obtain ⟨g1, g2, g3⟩ := f.noTree (fun h => by simp only at h; omega)
    obtain ⟨h3, h4, h5⟩ := f.noLists (fun h => by simp only at h; omega)
    simp only at h3 h4 h5 g1 g2 g3 i1 i2
    subst h2 h3 h4 h5 g1 g2 g3 i1 i2
    exact ⟨f.nums, rfl⟩
  · rintro ⟨⟨h1, h2, h3⟩, h7⟩
    rw [← h7]
    exact Right.small _ _ _ _ hk h1 h2 h3
theorem right_none {r : Rec} (h : ¬ (1 ≤ r.kind ∧ r.kind ≤ 9)) : ¬ Right r := fun hr => h (form_of hr).kind
end Rc
/- The walk over package rec: Right, of one kind. -/
namespace Go.Proofs.YthfglhafphfhiaaGreat
open Go.RowKit
set_option maxRecDepth 100000 in
set_option maxHeartbeats 2000000 in
theorem right_change (lsn prev txn page next nu ok os how root ep es : Int) (oo on ek : ByteArray) (ts : List Rc.TxnAt) (ds : List Rc.DirtyAt) (A B : Option Addr) (c d : Nat) (w : World) (hr : RecR w ⟨lsn, prev, txn, 2, page, next, nu, ⟨ok, os, oo, on⟩, how, root, ⟨ek, ep, es⟩, ts, ds⟩ A c B d) :
    Calls Tryz.prog 103 #[.agg #[.int .i64 lsn, .int .i64 prev, .int .i64 txn, .int .i64 2, .int .i64 page, .int .i64 next, .int .i64 nu, .int .i64 ok, .int .i64 os, .string oo, .string on, .int .i64 how, .int .i64 root, .string ek, .int .i64 ep, .int .i64 es, .slice A ts.length c, .slice B ds.length d]] w fun e w' => e = .returned (.bool (Rc.rightB ⟨lsn, prev, txn, 2, page, next, nu, ⟨ok, os, oo, on⟩, how, root, ⟨ek, ep, es⟩, ts, ds⟩)) ∧ Below w.heap.size w w' := by
  have HOF := Lib.hid (fun W => of_any 2 W)
  rw [show ofV 2 = .tuple #[formV true true false false true, .bool true] from rfl] at HOF
  have HNO := Lib.hid (fun W g h => number3 lsn prev txn W g h)
  obtain ⟨Q, hQ⟩ : ∃ Q, Q = Rc.rightB ⟨lsn, prev, txn, 2, page, next, nu, ⟨ok, os, oo, on⟩, how, root, ⟨ek, ep, es⟩, ts, ds⟩ := ⟨_, rfl⟩
  rw [← hQ]
  have HQ := Lib.hid hQ
  have hsm := hr.small
  simp only at hsm
  have hsm1 := hsm.1
  have hsm2 := hsm.2
  have HRR := Lib.hid hr
  clear hQ hr hsm
  have RI := Lib.hid (Rc.right_2 lsn prev txn page next nu how root ⟨ok, os, oo, on⟩ ⟨ek, ep, es⟩ ts ds)
  cases hn : decide (Rc.num lsn ∧ Rc.num prev ∧ Rc.num txn) with
  | false =>
    rw [hn] at HNO
    have HF := Lib.hid (HQ.out.trans (Rc.rightB_no fun h => of_decide_eq_false hn (RI.out.1 h).1))
    clear hn RI
    go_enter Tryz.func103, Tryz.ntmps103
    go_wp2_with (first
      | (go_at_call 112; (with_reducible refine (HOF.out _).mono ?_); rintro e w1 ⟨rfl, hb1⟩; have hR := blkCell (blkNew hb1); have hl1 : w.heap.size < w1.heap.size := (by have := hb1.size; simp at this; omega); have HB1 := Lib.hid hb1; clear hb1)
      | (go_at_call 113; (with_reducible refine (HNO.out _ _ ?_).mono ?_); (with_reducible exact new2 _ _ _); rintro e w2 ⟨rfl, hb2⟩; have hR2 := blkCell (blkOld (blkNew HB1.out) (joinB (pastAlloc (allocB _ _)) hb2)); have hl2 : w1.heap.size + 1 < w2.heap.size := (by have := hb2.size; simp at this; omega); have HB2 := Lib.hid hb2; clear hb2)
      | (with_reducible refine wpList_store_new rfl 85 (.tmp 5) (.tmp 33) rfl #[.int .i64 lsn, .int .i64 prev, .int .i64 txn, .int .i64 2, .int .i64 0, .int .i64 0, .int .i64 0, .int .i64 0, .int .i64 0, .string ⟨#[]⟩, .string ⟨#[]⟩, .int .i64 0, .int .i64 0, .string ⟨#[]⟩, .int .i64 0, .int .i64 0, .slice none 0 0, .slice none 0 0] _ _ rfl (by kernel_rfl) (by kernel_rfl) (by kernel_rfl) (by kernel_rfl) ?_))
    go_ret
    exact ⟨by rw [HF.out]; rfl, joinB (joinB (allocB _ _) HB1.out) (joinB (pastAlloc (allocB _ _)) HB2.out)⟩
  | true =>
    rw [hn] at HNO
    have HN := Lib.hid (of_decide_eq_true hn)
    clear hn
    go_enter Tryz.func103, Tryz.ntmps103
    go_upto_region 5 with (first
      | (go_at_call 112; (with_reducible refine (HOF.out _).mono ?_); rintro e w1 ⟨rfl, hb1⟩; have hR := blkCell (blkNew hb1); have hl1 : w.heap.size < w1.heap.size := (by have := hb1.size; simp at this; omega); have HB1 := Lib.hid hb1; clear hb1)
      | (go_at_call 113; (with_reducible refine (HNO.out _ _ ?_).mono ?_); (with_reducible exact new2 _ _ _); rintro e w2 ⟨rfl, hb2⟩; have hR2 := blkCell (blkOld (blkNew HB1.out) (joinB (pastAlloc (allocB _ _)) hb2)); have hl2 : w1.heap.size + 1 < w2.heap.size := (by have := hb2.size; simp at this; omega); have HB2 := Lib.hid hb2; clear hb2)
      | (with_reducible refine wpList_store_new rfl 85 (.tmp 5) (.tmp 33) rfl #[.int .i64 lsn, .int .i64 prev, .int .i64 txn, .int .i64 2, .int .i64 0, .int .i64 0, .int .i64 0, .int .i64 0, .int .i64 0, .string ⟨#[]⟩, .string ⟨#[]⟩, .int .i64 0, .int .i64 0, .string ⟨#[]⟩, .int .i64 0, .int .i64 0, .slice none 0 0, .slice none 0 0] _ _ rfl (by kernel_rfl) (by kernel_rfl) (by kernel_rfl) (by kernel_rfl) ?_))
    have HX := Lib.hid (boxes_new (R := #[.int .i64 lsn, .int .i64 prev, .int .i64 txn, .int .i64 2, .int .i64 page, .int .i64 next, .int .i64 nu, .int .i64 ok, .int .i64 os, .string oo, .string on, .int .i64 how, .int .i64 root, .string ek, .int .i64 ep, .int .i64 es, .slice A ts.length c, .slice B ds.length d]) (F := #[.bool true, .bool true, .bool false, .bool false, .bool true]) (X := #[.int .i64 lsn, .int .i64 prev, .int .i64 txn, .int .i64 2, .int .i64 0, .int .i64 0, .int .i64 0, .int .i64 0, .int .i64 0, .string ⟨#[]⟩, .string ⟨#[]⟩, .int .i64 0, .int .i64 0, .string ⟨#[]⟩, .int .i64 0, .int .i64 0, .slice none 0 0, .slice none 0 0]) HB1.out HB2.out)
    clear hR hR2 HNO HOF HB1 HB2
    obtain ⟨V, hV⟩ : ∃ V, V = w2.alloc (.cells #[.int .i64 lsn, .int .i64 prev, .int .i64 txn, .int .i64 2, .int .i64 0, .int .i64 0, .int .i64 0, .int .i64 0, .int .i64 0, .string ⟨#[]⟩, .string ⟨#[]⟩, .int .i64 0, .int .i64 0, .string ⟨#[]⟩, .int .i64 0, .int .i64 0, .slice none 0 0, .slice none 0 0] 85) := ⟨_, rfl⟩
    rw [← hV] at HX ⊢
    clear hV
    have hR := blkCell HX.out.br
    have hF := blkCell HX.out.bf
    go_upto_region 6 with (fail)
    go_cut [4] (fun s we => s = .bool (decide (Rc.pg page) && decide (Rc.opR ⟨ok, os, oo, on⟩)) ∧ Boxes w w.heap.size w1.heap.size w2.heap.size #[.int .i64 lsn, .int .i64 prev, .int .i64 txn, .int .i64 2, .int .i64 page, .int .i64 next, .int .i64 nu, .int .i64 ok, .int .i64 os, .string oo, .string on, .int .i64 how, .int .i64 root, .string ek, .int .i64 ep, .int .i64 es, .slice A ts.length c, .slice B ds.length d] #[.bool true, .bool true, .bool false, .bool false, .bool true] #[.int .i64 lsn, .int .i64 prev, .int .i64 txn, .int .i64 2, .int .i64 0, .int .i64 0, .int .i64 0, .int .i64 0, .int .i64 0, .string ⟨#[]⟩, .string ⟨#[]⟩, .int .i64 0, .int .i64 0, .string ⟨#[]⟩, .int .i64 0, .int .i64 0, .slice none 0 0, .slice none 0 0] we)
    case first =>
      cases hp : decide (Rc.pg page) with
      | false =>
        have HP := Lib.hid hp
        clear hp
        go_wp2_with (first | (go_at_call 114; (with_reducible refine (paged1 page _ _ ?_).mono ?_); (with_reducible exact heap_alloc_new _ _); rintro e w3 ⟨rfl, hb3⟩; rw [HP.out]))
        go_meet
        case rel => exact ⟨by simp [HP.out], HX.out.step (joinB (allocB _ _) hb3)⟩
      | true =>
        have HP := Lib.hid hp
        clear hp
        generalize hqo : decide (Rc.opR ⟨ok, os, oo, on⟩) = qo
        have HO := Lib.hid hqo
        clear hqo
        go_wp2_with (first | (go_at_call 114; (with_reducible refine (paged1 page _ _ ?_).mono ?_); (with_reducible exact heap_alloc_new _ _); rintro e w3 ⟨rfl, hb3⟩; rw [HP.out]; have hR3 := blkCell (HX.out.step (joinB (allocB _ _) hb3)).br) | (go_at_call 115; (with_reducible refine (op_any ⟨ok, os, oo, on⟩ _).mono ?_); rintro e w4 ⟨rfl, hb4⟩; rw [HO.out]))
        go_meet
        case rel => exact ⟨by simp [HP.out, HO.out], (HX.out.step (joinB (allocB _ _) hb3)).step hb4⟩
    case rest =>
    obtain ⟨W1, rfl⟩ : ∃ wm : World, wm = wc := ⟨_, rfl⟩
    obtain ⟨rfl, hB1⟩ := hcut
    have H1 := Lib.hid hB1
    clear hR hF hB1 HX
    have hR := blkCell H1.out.br
    have hF := blkCell H1.out.bf
    have hXc := blkCell H1.out.bx
    have hXz := blkFrozen H1.out.bx
    have hne : w.heap.size ≠ w2.heap.size := by have := H1.out.ab; omega
    go_upto_region 7 with (fail)
    go_cut [] (fun we => Boxes w w.heap.size w1.heap.size w2.heap.size #[.int .i64 lsn, .int .i64 prev, .int .i64 txn, .int .i64 2, .int .i64 page, .int .i64 next, .int .i64 nu, .int .i64 ok, .int .i64 os, .string oo, .string on, .int .i64 how, .int .i64 root, .string ek, .int .i64 ep, .int .i64 es, .slice A ts.length c, .slice B ds.length d] #[.bool true, .bool true, .bool false, .bool false, .bool true] #[.int .i64 lsn, .int .i64 prev, .int .i64 txn, .int .i64 2, .int .i64 page, .int .i64 0, .int .i64 0, .int .i64 ok, .int .i64 os, .string oo, .string on, .int .i64 0, .int .i64 0, .string ⟨#[]⟩, .int .i64 0, .int .i64 0, .slice none 0 0, .slice none 0 0] we)
    case first =>
      go_region
      all_goals
        go_wp2_with fail
        go_meet
        case rel =>
          first
            | (have h := (((((H1.out.set 4 (.int .i64 page)).set 7 (.int .i64 ok)).set 8 (.int .i64 os)).set 9 (.string oo)).set 10 (.string on)).drew; simpa using h)
            | (have h := (((((H1.out.set 7 (.int .i64 ok)).set 8 (.int .i64 os)).set 9 (.string oo)).set 10 (.string on)).set 4 (.int .i64 page)).drew; simpa using h)
    case rest =>
    obtain ⟨W2, rfl⟩ : ∃ wm : World, wm = wc := ⟨_, rfl⟩
    have H2 := Lib.hid hcut
    clear hR hF hXc hXz hcut H1
    have hR := blkCell H2.out.br
    have hF := blkCell H2.out.bf
    go_upto_region 9 with (fail)
    go_cut [4] (fun s we => s = .bool ((decide (Rc.pg page) && decide (Rc.opR ⟨ok, os, oo, on⟩)) && decide (Rc.treeR ⟨lsn, prev, txn, 2, page, next, nu, ⟨ok, os, oo, on⟩, how, root, ⟨ek, ep, es⟩, ts, ds⟩)) ∧ Boxes w w.heap.size w1.heap.size w2.heap.size #[.int .i64 lsn, .int .i64 prev, .int .i64 txn, .int .i64 2, .int .i64 page, .int .i64 next, .int .i64 nu, .int .i64 ok, .int .i64 os, .string oo, .string on, .int .i64 how, .int .i64 root, .string ek, .int .i64 ep, .int .i64 es, .slice A ts.length c, .slice B ds.length d] #[.bool true, .bool true, .bool false, .bool false, .bool true] #[.int .i64 lsn, .int .i64 prev, .int .i64 txn, .int .i64 2, .int .i64 page, .int .i64 0, .int .i64 0, .int .i64 ok, .int .i64 os, .string oo, .string on, .int .i64 0, .int .i64 0, .string ⟨#[]⟩, .int .i64 0, .int .i64 0, .slice none 0 0, .slice none 0 0] we)
    case first =>
      generalize hqa : (decide (Rc.pg page) && decide (Rc.opR ⟨ok, os, oo, on⟩)) = qa
      have HA := Lib.hid hqa
      clear hqa
      cases qa with
      | false =>
        go_wp2_with fail
        go_meet
        case rel => exact ⟨by simp [HA.out], H2.out⟩
      | true =>
        generalize hqt : decide (Rc.treeR ⟨lsn, prev, txn, 2, page, next, nu, ⟨ok, os, oo, on⟩, how, root, ⟨ek, ep, es⟩, ts, ds⟩) = qt
        have HT := Lib.hid hqt
        clear hqt
        go_wp2_with (first | (with_reducible refine listLoad (by kernel_rfl) 85 (.tmp 1) rfl w.heap.size rfl #[.int .i64 lsn, .int .i64 prev, .int .i64 txn, .int .i64 2, .int .i64 page, .int .i64 next, .int .i64 nu, .int .i64 ok, .int .i64 os, .string oo, .string on, .int .i64 how, .int .i64 root, .string ek, .int .i64 ep, .int .i64 es, .slice A ts.length c, .slice B ds.length d] _ H2.out.br _ Tryz.underlying85 (by kernel_rfl) (by kernel_rfl) ?_) | (go_at_call 116; (with_reducible refine (tree_any ⟨lsn, prev, txn, 2, page, next, nu, ⟨ok, os, oo, on⟩, how, root, ⟨ek, ep, es⟩, ts, ds⟩ (.slice A ts.length c) (.slice B ds.length d) _).mono ?_); rintro e w5 ⟨rfl, hb5⟩; rw [HT.out]))
        go_meet
        case rel => exact ⟨by simp [HA.out, HT.out], H2.out.step hb5⟩
    case rest =>
    obtain ⟨W3, rfl⟩ : ∃ wm : World, wm = wc := ⟨_, rfl⟩
    obtain ⟨rfl, hB3⟩ := hcut
    have H3 := Lib.hid hB3
    clear hR hF hB3 H2
    have hR := blkCell H3.out.br
    have hF := blkCell H3.out.bf
    have hXc := blkCell H3.out.bx
    have hXz := blkFrozen H3.out.bx
    have hne : w.heap.size ≠ w2.heap.size := by have := H3.out.ab; omega
    go_upto_region 10 with (fail)
    go_cut [] (fun we => Boxes w w.heap.size w1.heap.size w2.heap.size #[.int .i64 lsn, .int .i64 prev, .int .i64 txn, .int .i64 2, .int .i64 page, .int .i64 next, .int .i64 nu, .int .i64 ok, .int .i64 os, .string oo, .string on, .int .i64 how, .int .i64 root, .string ek, .int .i64 ep, .int .i64 es, .slice A ts.length c, .slice B ds.length d] #[.bool true, .bool true, .bool false, .bool false, .bool true] #[.int .i64 lsn, .int .i64 prev, .int .i64 txn, .int .i64 2, .int .i64 page, .int .i64 0, .int .i64 0, .int .i64 ok, .int .i64 os, .string oo, .string on, .int .i64 how, .int .i64 root, .string ek, .int .i64 ep, .int .i64 es, .slice none 0 0, .slice none 0 0] we)
    case first =>
      go_region
      all_goals
        go_wp2_with fail
        go_meet
        case rel =>
          first
            | (have h := (((((H3.out.set 11 (.int .i64 how)).set 12 (.int .i64 root)).set 13 (.string ek)).set 14 (.int .i64 ep)).set 15 (.int .i64 es)).drew; simpa using h)
            | (have h := (((((H3.out.set 11 (.int .i64 how)).set 13 (.string ek)).set 14 (.int .i64 ep)).set 15 (.int .i64 es)).set 12 (.int .i64 root)).drew; simpa using h)
            | (have h := (((((H3.out.set 12 (.int .i64 root)).set 11 (.int .i64 how)).set 13 (.string ek)).set 14 (.int .i64 ep)).set 15 (.int .i64 es)).drew; simpa using h)
            | (have h := (((((H3.out.set 12 (.int .i64 root)).set 13 (.string ek)).set 14 (.int .i64 ep)).set 15 (.int .i64 es)).set 11 (.int .i64 how)).drew; simpa using h)
            | (have h := (((((H3.out.set 13 (.string ek)).set 14 (.int .i64 ep)).set 15 (.int .i64 es)).set 11 (.int .i64 how)).set 12 (.int .i64 root)).drew; simpa using h)
            | (have h := (((((H3.out.set 13 (.string ek)).set 14 (.int .i64 ep)).set 15 (.int .i64 es)).set 12 (.int .i64 root)).set 11 (.int .i64 how)).drew; simpa using h)
    case rest =>
    obtain ⟨W4, rfl⟩ : ∃ wm : World, wm = wc := ⟨_, rfl⟩
    have H4 := Lib.hid hcut
    clear hR hF hXc hXz hcut H3
    have hR := blkCell H4.out.br
    have hF := blkCell H4.out.bf
    go_upto_region 19 with (fail)
    generalize hqa : ((decide (Rc.pg page) && decide (Rc.opR ⟨ok, os, oo, on⟩)) && decide (Rc.treeR ⟨lsn, prev, txn, 2, page, next, nu, ⟨ok, os, oo, on⟩, how, root, ⟨ek, ep, es⟩, ts, ds⟩)) = qa
    have HA := Lib.hid hqa
    clear hqa
    cases qa with
    | false =>
      go_wp2_with fail
      go_ret
      refine ⟨?_, H4.out.below⟩
      have HF := HQ.out.trans (Rc.rightB_no fun h => by
        have h2 := (RI.out.1 h).2.1
        have h3 := HA.out
        simp only [Bool.and_eq_false_iff, decide_eq_false_iff_not] at h3
        grind)
      rw [HF]
      rfl
    | true =>
      have HS := Lib.hid (same_any ⟨lsn, prev, txn, 2, page, 0, 0, ⟨ok, os, oo, on⟩, how, root, ⟨ek, ep, es⟩, [], []⟩ ⟨lsn, prev, txn, 2, page, next, nu, ⟨ok, os, oo, on⟩, how, root, ⟨ek, ep, es⟩, ts, ds⟩ none A none B 0 c 0 d W4 ⟨(Reads.none_ _ _ _ _), (Reads.none_ _ _ _ _), ⟨by simp, by simp⟩⟩ (HRR.out.below H4.out.below))
      dsimp only [recV, recA, List.length_nil] at HS
      cases he : decide ((⟨lsn, prev, txn, 2, page, 0, 0, ⟨ok, os, oo, on⟩, how, root, ⟨ek, ep, es⟩, [], []⟩ : Rc.Rec) = ⟨lsn, prev, txn, 2, page, next, nu, ⟨ok, os, oo, on⟩, how, root, ⟨ek, ep, es⟩, ts, ds⟩) with
      | false =>
        have HE := Lib.hid he
        clear he
        go_wp2_with (first | (with_reducible refine listLoad (by kernel_rfl) 85 (.tmp 5) rfl w2.heap.size rfl #[.int .i64 lsn, .int .i64 prev, .int .i64 txn, .int .i64 2, .int .i64 page, .int .i64 0, .int .i64 0, .int .i64 ok, .int .i64 os, .string oo, .string on, .int .i64 how, .int .i64 root, .string ek, .int .i64 ep, .int .i64 es, .slice none 0 0, .slice none 0 0] _ H4.out.bx _ Tryz.underlying85 (by kernel_rfl) (by kernel_rfl) ?_) | (with_reducible refine listLoad (by kernel_rfl) 85 (.tmp 1) rfl w.heap.size rfl #[.int .i64 lsn, .int .i64 prev, .int .i64 txn, .int .i64 2, .int .i64 page, .int .i64 next, .int .i64 nu, .int .i64 ok, .int .i64 os, .string oo, .string on, .int .i64 how, .int .i64 root, .string ek, .int .i64 ep, .int .i64 es, .slice A ts.length c, .slice B ds.length d] _ H4.out.br _ Tryz.underlying85 (by kernel_rfl) (by kernel_rfl) ?_) | (go_at_call 121; (with_reducible refine HS.out.mono ?_); rintro e w9 ⟨rfl, hb9⟩; rw [HE.out]))
        go_ret
        refine ⟨?_, joinB H4.out.below hb9⟩
        rw [HQ.out.trans (Rc.rightB_no fun h => of_decide_eq_false HE.out (RI.out.1 h).2.2)]
        rfl
      | true =>
        have HE := Lib.hid he
        clear he
        go_wp2_with (first | (with_reducible refine listLoad (by kernel_rfl) 85 (.tmp 5) rfl w2.heap.size rfl #[.int .i64 lsn, .int .i64 prev, .int .i64 txn, .int .i64 2, .int .i64 page, .int .i64 0, .int .i64 0, .int .i64 ok, .int .i64 os, .string oo, .string on, .int .i64 how, .int .i64 root, .string ek, .int .i64 ep, .int .i64 es, .slice none 0 0, .slice none 0 0] _ H4.out.bx _ Tryz.underlying85 (by kernel_rfl) (by kernel_rfl) ?_) | (with_reducible refine listLoad (by kernel_rfl) 85 (.tmp 1) rfl w.heap.size rfl #[.int .i64 lsn, .int .i64 prev, .int .i64 txn, .int .i64 2, .int .i64 page, .int .i64 next, .int .i64 nu, .int .i64 ok, .int .i64 os, .string oo, .string on, .int .i64 how, .int .i64 root, .string ek, .int .i64 ep, .int .i64 es, .slice A ts.length c, .slice B ds.length d] _ H4.out.br _ Tryz.underlying85 (by kernel_rfl) (by kernel_rfl) ?_) | (go_at_call 121; (with_reducible refine HS.out.mono ?_); rintro e w9 ⟨rfl, hb9⟩; rw [HE.out]))
        go_ret
        refine ⟨?_, joinB H4.out.below hb9⟩
        rw [HQ.out.trans (Rc.rightB_yes (RI.out.2 ⟨HN.out, by have h3 := HA.out; simpa only [Bool.and_eq_true, decide_eq_true_eq] using h3, of_decide_eq_true HE.out⟩))]
        rfl
end Go.Proofs.YthfglhafphfhiaaGreat
/- The walk over package rec: Right, of one kind. -/
namespace Go.Proofs.YthfglhafphfhiaaGreat
open Go.RowKit
set_option maxRecDepth 100000 in
set_option maxHeartbeats 2000000 in
theorem right_clr (lsn prev txn page next nu ok os how root ep es : Int) (oo on ek : ByteArray) (ts : List Rc.TxnAt) (ds : List Rc.DirtyAt) (A B : Option Addr) (c d : Nat) (w : World) (hr : RecR w ⟨lsn, prev, txn, 3, page, next, nu, ⟨ok, os, oo, on⟩, how, root, ⟨ek, ep, es⟩, ts, ds⟩ A c B d) :
    Calls Tryz.prog 103 #[.agg #[.int .i64 lsn, .int .i64 prev, .int .i64 txn, .int .i64 3, .int .i64 page, .int .i64 next, .int .i64 nu, .int .i64 ok, .int .i64 os, .string oo, .string on, .int .i64 how, .int .i64 root, .string ek, .int .i64 ep, .int .i64 es, .slice A ts.length c, .slice B ds.length d]] w fun e w' => e = .returned (.bool (Rc.rightB ⟨lsn, prev, txn, 3, page, next, nu, ⟨ok, os, oo, on⟩, how, root, ⟨ek, ep, es⟩, ts, ds⟩)) ∧ Below w.heap.size w w' := by
  have HOF := Lib.hid (fun W => of_any 3 W)
  rw [show ofV 3 = .tuple #[formV true false true false true, .bool true] from rfl] at HOF
  have HNO := Lib.hid (fun W g h => number3 lsn prev txn W g h)
  obtain ⟨Q, hQ⟩ : ∃ Q, Q = Rc.rightB ⟨lsn, prev, txn, 3, page, next, nu, ⟨ok, os, oo, on⟩, how, root, ⟨ek, ep, es⟩, ts, ds⟩ := ⟨_, rfl⟩
  rw [← hQ]
  have HQ := Lib.hid hQ
  have hsm := hr.small
  simp only at hsm
  have hsm1 := hsm.1
  have hsm2 := hsm.2
  have HRR := Lib.hid hr
  clear hQ hr hsm
  have RI := Lib.hid (Rc.right_3 lsn prev txn page next nu how root ⟨ok, os, oo, on⟩ ⟨ek, ep, es⟩ ts ds)
  cases hn : decide (Rc.num lsn ∧ Rc.num prev ∧ Rc.num txn) with
  | false =>
    rw [hn] at HNO
    have HF := Lib.hid (HQ.out.trans (Rc.rightB_no fun h => of_decide_eq_false hn (RI.out.1 h).1))
    clear hn RI
    go_enter Tryz.func103, Tryz.ntmps103
    go_wp2_with (first
      | (go_at_call 112; (with_reducible refine (HOF.out _).mono ?_); rintro e w1 ⟨rfl, hb1⟩; have hR := blkCell (blkNew hb1); have hl1 : w.heap.size < w1.heap.size := (by have := hb1.size; simp at this; omega); have HB1 := Lib.hid hb1; clear hb1)
      | (go_at_call 113; (with_reducible refine (HNO.out _ _ ?_).mono ?_); (with_reducible exact new2 _ _ _); rintro e w2 ⟨rfl, hb2⟩; have hR2 := blkCell (blkOld (blkNew HB1.out) (joinB (pastAlloc (allocB _ _)) hb2)); have hl2 : w1.heap.size + 1 < w2.heap.size := (by have := hb2.size; simp at this; omega); have HB2 := Lib.hid hb2; clear hb2)
      | (with_reducible refine wpList_store_new rfl 85 (.tmp 5) (.tmp 33) rfl #[.int .i64 lsn, .int .i64 prev, .int .i64 txn, .int .i64 3, .int .i64 0, .int .i64 0, .int .i64 0, .int .i64 0, .int .i64 0, .string ⟨#[]⟩, .string ⟨#[]⟩, .int .i64 0, .int .i64 0, .string ⟨#[]⟩, .int .i64 0, .int .i64 0, .slice none 0 0, .slice none 0 0] _ _ rfl (by kernel_rfl) (by kernel_rfl) (by kernel_rfl) (by kernel_rfl) ?_))
    go_ret
    exact ⟨by rw [HF.out]; rfl, joinB (joinB (allocB _ _) HB1.out) (joinB (pastAlloc (allocB _ _)) HB2.out)⟩
  | true =>
    rw [hn] at HNO
    have HN := Lib.hid (of_decide_eq_true hn)
    clear hn
    go_enter Tryz.func103, Tryz.ntmps103
    go_upto_region 5 with (first
      | (go_at_call 112; (with_reducible refine (HOF.out _).mono ?_); rintro e w1 ⟨rfl, hb1⟩; have hR := blkCell (blkNew hb1); have hl1 : w.heap.size < w1.heap.size := (by have := hb1.size; simp at this; omega); have HB1 := Lib.hid hb1; clear hb1)
      | (go_at_call 113; (with_reducible refine (HNO.out _ _ ?_).mono ?_); (with_reducible exact new2 _ _ _); rintro e w2 ⟨rfl, hb2⟩; have hR2 := blkCell (blkOld (blkNew HB1.out) (joinB (pastAlloc (allocB _ _)) hb2)); have hl2 : w1.heap.size + 1 < w2.heap.size := (by have := hb2.size; simp at this; omega); have HB2 := Lib.hid hb2; clear hb2)
      | (with_reducible refine wpList_store_new rfl 85 (.tmp 5) (.tmp 33) rfl #[.int .i64 lsn, .int .i64 prev, .int .i64 txn, .int .i64 3, .int .i64 0, .int .i64 0, .int .i64 0, .int .i64 0, .int .i64 0, .string ⟨#[]⟩, .string ⟨#[]⟩, .int .i64 0, .int .i64 0, .string ⟨#[]⟩, .int .i64 0, .int .i64 0, .slice none 0 0, .slice none 0 0] _ _ rfl (by kernel_rfl) (by kernel_rfl) (by kernel_rfl) (by kernel_rfl) ?_))
    have HX := Lib.hid (boxes_new (R := #[.int .i64 lsn, .int .i64 prev, .int .i64 txn, .int .i64 3, .int .i64 page, .int .i64 next, .int .i64 nu, .int .i64 ok, .int .i64 os, .string oo, .string on, .int .i64 how, .int .i64 root, .string ek, .int .i64 ep, .int .i64 es, .slice A ts.length c, .slice B ds.length d]) (F := #[.bool true, .bool false, .bool true, .bool false, .bool true]) (X := #[.int .i64 lsn, .int .i64 prev, .int .i64 txn, .int .i64 3, .int .i64 0, .int .i64 0, .int .i64 0, .int .i64 0, .int .i64 0, .string ⟨#[]⟩, .string ⟨#[]⟩, .int .i64 0, .int .i64 0, .string ⟨#[]⟩, .int .i64 0, .int .i64 0, .slice none 0 0, .slice none 0 0]) HB1.out HB2.out)
    clear hR hR2 HNO HOF HB1 HB2
    obtain ⟨V, hV⟩ : ∃ V, V = w2.alloc (.cells #[.int .i64 lsn, .int .i64 prev, .int .i64 txn, .int .i64 3, .int .i64 0, .int .i64 0, .int .i64 0, .int .i64 0, .int .i64 0, .string ⟨#[]⟩, .string ⟨#[]⟩, .int .i64 0, .int .i64 0, .string ⟨#[]⟩, .int .i64 0, .int .i64 0, .slice none 0 0, .slice none 0 0] 85) := ⟨_, rfl⟩
    rw [← hV] at HX ⊢
    clear hV
    have hR := blkCell HX.out.br
    have hF := blkCell HX.out.bf
    go_upto_region 6 with (fail)
    go_cut [4] (fun s we => s = .bool (decide (Rc.pg page) && decide (Rc.opR ⟨ok, os, oo, on⟩)) ∧ Boxes w w.heap.size w1.heap.size w2.heap.size #[.int .i64 lsn, .int .i64 prev, .int .i64 txn, .int .i64 3, .int .i64 page, .int .i64 next, .int .i64 nu, .int .i64 ok, .int .i64 os, .string oo, .string on, .int .i64 how, .int .i64 root, .string ek, .int .i64 ep, .int .i64 es, .slice A ts.length c, .slice B ds.length d] #[.bool true, .bool false, .bool true, .bool false, .bool true] #[.int .i64 lsn, .int .i64 prev, .int .i64 txn, .int .i64 3, .int .i64 0, .int .i64 0, .int .i64 0, .int .i64 0, .int .i64 0, .string ⟨#[]⟩, .string ⟨#[]⟩, .int .i64 0, .int .i64 0, .string ⟨#[]⟩, .int .i64 0, .int .i64 0, .slice none 0 0, .slice none 0 0] we)
    case first =>
      cases hp : decide (Rc.pg page) with
      | false =>
        have HP := Lib.hid hp
        clear hp
        go_wp2_with (first | (go_at_call 114; (with_reducible refine (paged1 page _ _ ?_).mono ?_); (with_reducible exact heap_alloc_new _ _); rintro e w3 ⟨rfl, hb3⟩; rw [HP.out]))
        go_meet
        case rel => exact ⟨by simp [HP.out], HX.out.step (joinB (allocB _ _) hb3)⟩
      | true =>
        have HP := Lib.hid hp
        clear hp
        generalize hqo : decide (Rc.opR ⟨ok, os, oo, on⟩) = qo
        have HO := Lib.hid hqo
        clear hqo
        go_wp2_with (first | (go_at_call 114; (with_reducible refine (paged1 page _ _ ?_).mono ?_); (with_reducible exact heap_alloc_new _ _); rintro e w3 ⟨rfl, hb3⟩; rw [HP.out]; have hR3 := blkCell (HX.out.step (joinB (allocB _ _) hb3)).br) | (go_at_call 115; (with_reducible refine (op_any ⟨ok, os, oo, on⟩ _).mono ?_); rintro e w4 ⟨rfl, hb4⟩; rw [HO.out]))
        go_meet
        case rel => exact ⟨by simp [HP.out, HO.out], (HX.out.step (joinB (allocB _ _) hb3)).step hb4⟩
    case rest =>
    obtain ⟨W1, rfl⟩ : ∃ wm : World, wm = wc := ⟨_, rfl⟩
    obtain ⟨rfl, hB1⟩ := hcut
    have H1 := Lib.hid hB1
    clear hR hF hB1 HX
    have hR := blkCell H1.out.br
    have hF := blkCell H1.out.bf
    have hXc := blkCell H1.out.bx
    have hXz := blkFrozen H1.out.bx
    have hne : w.heap.size ≠ w2.heap.size := by have := H1.out.ab; omega
    go_upto_region 7 with (fail)
    go_cut [] (fun we => Boxes w w.heap.size w1.heap.size w2.heap.size #[.int .i64 lsn, .int .i64 prev, .int .i64 txn, .int .i64 3, .int .i64 page, .int .i64 next, .int .i64 nu, .int .i64 ok, .int .i64 os, .string oo, .string on, .int .i64 how, .int .i64 root, .string ek, .int .i64 ep, .int .i64 es, .slice A ts.length c, .slice B ds.length d] #[.bool true, .bool false, .bool true, .bool false, .bool true] #[.int .i64 lsn, .int .i64 prev, .int .i64 txn, .int .i64 3, .int .i64 page, .int .i64 0, .int .i64 0, .int .i64 ok, .int .i64 os, .string oo, .string on, .int .i64 0, .int .i64 0, .string ⟨#[]⟩, .int .i64 0, .int .i64 0, .slice none 0 0, .slice none 0 0] we)
    case first =>
      go_region
      all_goals
        go_wp2_with fail
        go_meet
        case rel =>
          first
            | (have h := (((((H1.out.set 4 (.int .i64 page)).set 7 (.int .i64 ok)).set 8 (.int .i64 os)).set 9 (.string oo)).set 10 (.string on)).drew; simpa using h)
            | (have h := (((((H1.out.set 7 (.int .i64 ok)).set 8 (.int .i64 os)).set 9 (.string oo)).set 10 (.string on)).set 4 (.int .i64 page)).drew; simpa using h)
    case rest =>
    obtain ⟨W2, rfl⟩ : ∃ wm : World, wm = wc := ⟨_, rfl⟩
    have H2 := Lib.hid hcut
    clear hR hF hXc hXz hcut H1
    have hR := blkCell H2.out.br
    have hF := blkCell H2.out.bf
    go_upto_region 12 with (fail)
    go_cut [4] (fun s we => s = .bool ((decide (Rc.pg page) && decide (Rc.opR ⟨ok, os, oo, on⟩)) && decide (Rc.num next)) ∧ Boxes w w.heap.size w1.heap.size w2.heap.size #[.int .i64 lsn, .int .i64 prev, .int .i64 txn, .int .i64 3, .int .i64 page, .int .i64 next, .int .i64 nu, .int .i64 ok, .int .i64 os, .string oo, .string on, .int .i64 how, .int .i64 root, .string ek, .int .i64 ep, .int .i64 es, .slice A ts.length c, .slice B ds.length d] #[.bool true, .bool false, .bool true, .bool false, .bool true] #[.int .i64 lsn, .int .i64 prev, .int .i64 txn, .int .i64 3, .int .i64 page, .int .i64 0, .int .i64 0, .int .i64 ok, .int .i64 os, .string oo, .string on, .int .i64 0, .int .i64 0, .string ⟨#[]⟩, .int .i64 0, .int .i64 0, .slice none 0 0, .slice none 0 0] we)
    case first =>
      generalize hqa : (decide (Rc.pg page) && decide (Rc.opR ⟨ok, os, oo, on⟩)) = qa
      have HA := Lib.hid hqa
      clear hqa
      cases qa with
      | false =>
        go_wp2_with fail
        go_meet
        case rel => exact ⟨by simp [HA.out], H2.out⟩
      | true =>
        generalize hqt : decide (Rc.num next) = qt
        have HT := Lib.hid hqt
        clear hqt
        go_wp2_with (first | (go_at_call 113; (with_reducible refine (number1 next _ _ ?_).mono ?_); (with_reducible exact heap_alloc_new _ _); rintro e w5 ⟨rfl, hb5⟩; rw [HT.out]))
        go_meet
        case rel => exact ⟨by simp [HA.out, HT.out], H2.out.step (joinB (allocB _ _) hb5)⟩
    case rest =>
    obtain ⟨W3, rfl⟩ : ∃ wm : World, wm = wc := ⟨_, rfl⟩
    obtain ⟨rfl, hB3⟩ := hcut
    have H3 := Lib.hid hB3
    clear hR hF hB3 H2
    have hR := blkCell H3.out.br
    have hF := blkCell H3.out.bf
    have hXc := blkCell H3.out.bx
    have hXz := blkFrozen H3.out.bx
    have hne : w.heap.size ≠ w2.heap.size := by have := H3.out.ab; omega
    go_upto_region 14 with (fail)
    have h := H3.out.set 5 (.int .i64 next)
    have H4 : Hid (Boxes w w.heap.size w1.heap.size w2.heap.size #[.int .i64 lsn, .int .i64 prev, .int .i64 txn, .int .i64 3, .int .i64 page, .int .i64 next, .int .i64 nu, .int .i64 ok, .int .i64 os, .string oo, .string on, .int .i64 how, .int .i64 root, .string ek, .int .i64 ep, .int .i64 es, .slice A ts.length c, .slice B ds.length d] #[.bool true, .bool false, .bool true, .bool false, .bool true] #[.int .i64 lsn, .int .i64 prev, .int .i64 txn, .int .i64 3, .int .i64 page, .int .i64 next, .int .i64 0, .int .i64 ok, .int .i64 os, .string oo, .string on, .int .i64 0, .int .i64 0, .string ⟨#[]⟩, .int .i64 0, .int .i64 0, .slice none 0 0, .slice none 0 0] _) := Lib.hid (by simpa using h)
    clear h hR hF hXc hXz H3
    generalize World.setCell _ _ _ = W4 at H4 ⊢
    have hR := blkCell H4.out.br
    have hF := blkCell H4.out.bf
    go_upto_region 19 with (fail)
    generalize hqa : ((decide (Rc.pg page) && decide (Rc.opR ⟨ok, os, oo, on⟩)) && decide (Rc.num next)) = qa
    have HA := Lib.hid hqa
    clear hqa
    cases qa with
    | false =>
      go_wp2_with fail
      go_ret
      refine ⟨?_, H4.out.below⟩
      have HF := HQ.out.trans (Rc.rightB_no fun h => by
        have h2 := (RI.out.1 h).2.1
        have h3 := HA.out
        simp only [Bool.and_eq_false_iff, decide_eq_false_iff_not] at h3
        grind)
      rw [HF]
      rfl
    | true =>
      have HS := Lib.hid (same_any ⟨lsn, prev, txn, 3, page, next, 0, ⟨ok, os, oo, on⟩, 0, 0, ⟨⟨#[]⟩, 0, 0⟩, [], []⟩ ⟨lsn, prev, txn, 3, page, next, nu, ⟨ok, os, oo, on⟩, how, root, ⟨ek, ep, es⟩, ts, ds⟩ none A none B 0 c 0 d W4 ⟨(Reads.none_ _ _ _ _), (Reads.none_ _ _ _ _), ⟨by simp, by simp⟩⟩ (HRR.out.below H4.out.below))
      dsimp only [recV, recA, List.length_nil] at HS
      cases he : decide ((⟨lsn, prev, txn, 3, page, next, 0, ⟨ok, os, oo, on⟩, 0, 0, ⟨⟨#[]⟩, 0, 0⟩, [], []⟩ : Rc.Rec) = ⟨lsn, prev, txn, 3, page, next, nu, ⟨ok, os, oo, on⟩, how, root, ⟨ek, ep, es⟩, ts, ds⟩) with
      | false =>
        have HE := Lib.hid he
        clear he
        go_wp2_with (first | (with_reducible refine listLoad (by kernel_rfl) 85 (.tmp 5) rfl w2.heap.size rfl #[.int .i64 lsn, .int .i64 prev, .int .i64 txn, .int .i64 3, .int .i64 page, .int .i64 next, .int .i64 0, .int .i64 ok, .int .i64 os, .string oo, .string on, .int .i64 0, .int .i64 0, .string ⟨#[]⟩, .int .i64 0, .int .i64 0, .slice none 0 0, .slice none 0 0] _ H4.out.bx _ Tryz.underlying85 (by kernel_rfl) (by kernel_rfl) ?_) | (with_reducible refine listLoad (by kernel_rfl) 85 (.tmp 1) rfl w.heap.size rfl #[.int .i64 lsn, .int .i64 prev, .int .i64 txn, .int .i64 3, .int .i64 page, .int .i64 next, .int .i64 nu, .int .i64 ok, .int .i64 os, .string oo, .string on, .int .i64 how, .int .i64 root, .string ek, .int .i64 ep, .int .i64 es, .slice A ts.length c, .slice B ds.length d] _ H4.out.br _ Tryz.underlying85 (by kernel_rfl) (by kernel_rfl) ?_) | (go_at_call 121; (with_reducible refine HS.out.mono ?_); rintro e w9 ⟨rfl, hb9⟩; rw [HE.out]))
        go_ret
        refine ⟨?_, joinB H4.out.below hb9⟩
        rw [HQ.out.trans (Rc.rightB_no fun h => of_decide_eq_false HE.out (RI.out.1 h).2.2)]
        rfl
      | true =>
        have HE := Lib.hid he
        clear he
        go_wp2_with (first | (with_reducible refine listLoad (by kernel_rfl) 85 (.tmp 5) rfl w2.heap.size rfl #[.int .i64 lsn, .int .i64 prev, .int .i64 txn, .int .i64 3, .int .i64 page, .int .i64 next, .int .i64 0, .int .i64 ok, .int .i64 os, .string oo, .string on, .int .i64 0, .int .i64 0, .string ⟨#[]⟩, .int .i64 0, .int .i64 0, .slice none 0 0, .slice none 0 0] _ H4.out.bx _ Tryz.underlying85 (by kernel_rfl) (by kernel_rfl) ?_) | (with_reducible refine listLoad (by kernel_rfl) 85 (.tmp 1) rfl w.heap.size rfl #[.int .i64 lsn, .int .i64 prev, .int .i64 txn, .int .i64 3, .int .i64 page, .int .i64 next, .int .i64 nu, .int .i64 ok, .int .i64 os, .string oo, .string on, .int .i64 how, .int .i64 root, .string ek, .int .i64 ep, .int .i64 es, .slice A ts.length c, .slice B ds.length d] _ H4.out.br _ Tryz.underlying85 (by kernel_rfl) (by kernel_rfl) ?_) | (go_at_call 121; (with_reducible refine HS.out.mono ?_); rintro e w9 ⟨rfl, hb9⟩; rw [HE.out]))
        go_ret
        refine ⟨?_, joinB H4.out.below hb9⟩
        rw [HQ.out.trans (Rc.rightB_yes (RI.out.2 ⟨HN.out, by have h3 := HA.out; simpa only [Bool.and_eq_true, decide_eq_true_eq] using h3, of_decide_eq_true HE.out⟩))]
        rfl
end Go.Proofs.YthfglhafphfhiaaGreat
/- The walk over package rec: Right, of one kind. -/
namespace Go.Proofs.YthfglhafphfhiaaGreat
open Go.RowKit
set_option maxRecDepth 100000 in
set_option maxHeartbeats 2000000 in
theorem right_nest (lsn prev txn page next nu ok os how root ep es : Int) (oo on ek : ByteArray) (ts : List Rc.TxnAt) (ds : List Rc.DirtyAt) (A B : Option Addr) (c d : Nat) (w : World) (hr : RecR w ⟨lsn, prev, txn, 4, page, next, nu, ⟨ok, os, oo, on⟩, how, root, ⟨ek, ep, es⟩, ts, ds⟩ A c B d) :
    Calls Tryz.prog 103 #[.agg #[.int .i64 lsn, .int .i64 prev, .int .i64 txn, .int .i64 4, .int .i64 page, .int .i64 next, .int .i64 nu, .int .i64 ok, .int .i64 os, .string oo, .string on, .int .i64 how, .int .i64 root, .string ek, .int .i64 ep, .int .i64 es, .slice A ts.length c, .slice B ds.length d]] w fun e w' => e = .returned (.bool (Rc.rightB ⟨lsn, prev, txn, 4, page, next, nu, ⟨ok, os, oo, on⟩, how, root, ⟨ek, ep, es⟩, ts, ds⟩)) ∧ Below w.heap.size w w' := by
  have HOF := Lib.hid (fun W => of_any 4 W)
  rw [show ofV 4 = .tuple #[formV false false true false true, .bool true] from rfl] at HOF
  have HNO := Lib.hid (fun W g h => number3 lsn prev txn W g h)
  obtain ⟨Q, hQ⟩ : ∃ Q, Q = Rc.rightB ⟨lsn, prev, txn, 4, page, next, nu, ⟨ok, os, oo, on⟩, how, root, ⟨ek, ep, es⟩, ts, ds⟩ := ⟨_, rfl⟩
  rw [← hQ]
  have HQ := Lib.hid hQ
  have hsm := hr.small
  simp only at hsm
  have hsm1 := hsm.1
  have hsm2 := hsm.2
  have HRR := Lib.hid hr
  clear hQ hr hsm
  have RI := Lib.hid (Rc.right_4 lsn prev txn page next nu how root ⟨ok, os, oo, on⟩ ⟨ek, ep, es⟩ ts ds)
  cases hn : decide (Rc.num lsn ∧ Rc.num prev ∧ Rc.num txn) with
  | false =>
    rw [hn] at HNO
    have HF := Lib.hid (HQ.out.trans (Rc.rightB_no fun h => of_decide_eq_false hn (RI.out.1 h).1))
    clear hn RI
    go_enter Tryz.func103, Tryz.ntmps103
    go_wp2_with (first
      | (go_at_call 112; (with_reducible refine (HOF.out _).mono ?_); rintro e w1 ⟨rfl, hb1⟩; have hR := blkCell (blkNew hb1); have hl1 : w.heap.size < w1.heap.size := (by have := hb1.size; simp at this; omega); have HB1 := Lib.hid hb1; clear hb1)
      | (go_at_call 113; (with_reducible refine (HNO.out _ _ ?_).mono ?_); (with_reducible exact new2 _ _ _); rintro e w2 ⟨rfl, hb2⟩; have hR2 := blkCell (blkOld (blkNew HB1.out) (joinB (pastAlloc (allocB _ _)) hb2)); have hl2 : w1.heap.size + 1 < w2.heap.size := (by have := hb2.size; simp at this; omega); have HB2 := Lib.hid hb2; clear hb2)
      | (with_reducible refine wpList_store_new rfl 85 (.tmp 5) (.tmp 33) rfl #[.int .i64 lsn, .int .i64 prev, .int .i64 txn, .int .i64 4, .int .i64 0, .int .i64 0, .int .i64 0, .int .i64 0, .int .i64 0, .string ⟨#[]⟩, .string ⟨#[]⟩, .int .i64 0, .int .i64 0, .string ⟨#[]⟩, .int .i64 0, .int .i64 0, .slice none 0 0, .slice none 0 0] _ _ rfl (by kernel_rfl) (by kernel_rfl) (by kernel_rfl) (by kernel_rfl) ?_))
    go_ret
    exact ⟨by rw [HF.out]; rfl, joinB (joinB (allocB _ _) HB1.out) (joinB (pastAlloc (allocB _ _)) HB2.out)⟩
  | true =>
    rw [hn] at HNO
    have HN := Lib.hid (of_decide_eq_true hn)
    clear hn
    go_enter Tryz.func103, Tryz.ntmps103
    go_upto_region 5 with (first
      | (go_at_call 112; (with_reducible refine (HOF.out _).mono ?_); rintro e w1 ⟨rfl, hb1⟩; have hR := blkCell (blkNew hb1); have hl1 : w.heap.size < w1.heap.size := (by have := hb1.size; simp at this; omega); have HB1 := Lib.hid hb1; clear hb1)
      | (go_at_call 113; (with_reducible refine (HNO.out _ _ ?_).mono ?_); (with_reducible exact new2 _ _ _); rintro e w2 ⟨rfl, hb2⟩; have hR2 := blkCell (blkOld (blkNew HB1.out) (joinB (pastAlloc (allocB _ _)) hb2)); have hl2 : w1.heap.size + 1 < w2.heap.size := (by have := hb2.size; simp at this; omega); have HB2 := Lib.hid hb2; clear hb2)
      | (with_reducible refine wpList_store_new rfl 85 (.tmp 5) (.tmp 33) rfl #[.int .i64 lsn, .int .i64 prev, .int .i64 txn, .int .i64 4, .int .i64 0, .int .i64 0, .int .i64 0, .int .i64 0, .int .i64 0, .string ⟨#[]⟩, .string ⟨#[]⟩, .int .i64 0, .int .i64 0, .string ⟨#[]⟩, .int .i64 0, .int .i64 0, .slice none 0 0, .slice none 0 0] _ _ rfl (by kernel_rfl) (by kernel_rfl) (by kernel_rfl) (by kernel_rfl) ?_))
    have HX := Lib.hid (boxes_new (R := #[.int .i64 lsn, .int .i64 prev, .int .i64 txn, .int .i64 4, .int .i64 page, .int .i64 next, .int .i64 nu, .int .i64 ok, .int .i64 os, .string oo, .string on, .int .i64 how, .int .i64 root, .string ek, .int .i64 ep, .int .i64 es, .slice A ts.length c, .slice B ds.length d]) (F := #[.bool false, .bool false, .bool true, .bool false, .bool true]) (X := #[.int .i64 lsn, .int .i64 prev, .int .i64 txn, .int .i64 4, .int .i64 0, .int .i64 0, .int .i64 0, .int .i64 0, .int .i64 0, .string ⟨#[]⟩, .string ⟨#[]⟩, .int .i64 0, .int .i64 0, .string ⟨#[]⟩, .int .i64 0, .int .i64 0, .slice none 0 0, .slice none 0 0]) HB1.out HB2.out)
    clear hR hR2 HNO HOF HB1 HB2
    obtain ⟨V, hV⟩ : ∃ V, V = w2.alloc (.cells #[.int .i64 lsn, .int .i64 prev, .int .i64 txn, .int .i64 4, .int .i64 0, .int .i64 0, .int .i64 0, .int .i64 0, .int .i64 0, .string ⟨#[]⟩, .string ⟨#[]⟩, .int .i64 0, .int .i64 0, .string ⟨#[]⟩, .int .i64 0, .int .i64 0, .slice none 0 0, .slice none 0 0] 85) := ⟨_, rfl⟩
    rw [← hV] at HX ⊢
    clear hV
    have hR := blkCell HX.out.br
    have hF := blkCell HX.out.bf
    go_upto_region 12 with (fail)
    go_cut [4] (fun s we => s = .bool (decide (Rc.num next)) ∧ Boxes w w.heap.size w1.heap.size w2.heap.size #[.int .i64 lsn, .int .i64 prev, .int .i64 txn, .int .i64 4, .int .i64 page, .int .i64 next, .int .i64 nu, .int .i64 ok, .int .i64 os, .string oo, .string on, .int .i64 how, .int .i64 root, .string ek, .int .i64 ep, .int .i64 es, .slice A ts.length c, .slice B ds.length d] #[.bool false, .bool false, .bool true, .bool false, .bool true] #[.int .i64 lsn, .int .i64 prev, .int .i64 txn, .int .i64 4, .int .i64 0, .int .i64 0, .int .i64 0, .int .i64 0, .int .i64 0, .string ⟨#[]⟩, .string ⟨#[]⟩, .int .i64 0, .int .i64 0, .string ⟨#[]⟩, .int .i64 0, .int .i64 0, .slice none 0 0, .slice none 0 0] we)
    case first =>
      generalize hqt : decide (Rc.num next) = qt
      have HT := Lib.hid hqt
      clear hqt
      go_wp2_with (first | (go_at_call 113; (with_reducible refine (number1 next _ _ ?_).mono ?_); (with_reducible exact heap_alloc_new _ _); rintro e w5 ⟨rfl, hb5⟩; rw [HT.out]))
      go_meet
      case rel => exact ⟨by simp [HT.out], HX.out.step (joinB (allocB _ _) hb5)⟩
    case rest =>
    obtain ⟨W1, rfl⟩ : ∃ wm : World, wm = wc := ⟨_, rfl⟩
    obtain ⟨rfl, hB1⟩ := hcut
    have H1 := Lib.hid hB1
    clear hR hF hB1 HX
    have hR := blkCell H1.out.br
    have hF := blkCell H1.out.bf
    have hXc := blkCell H1.out.bx
    have hXz := blkFrozen H1.out.bx
    have hne : w.heap.size ≠ w2.heap.size := by have := H1.out.ab; omega
    go_upto_region 14 with (fail)
    have h := H1.out.set 5 (.int .i64 next)
    have H2 : Hid (Boxes w w.heap.size w1.heap.size w2.heap.size #[.int .i64 lsn, .int .i64 prev, .int .i64 txn, .int .i64 4, .int .i64 page, .int .i64 next, .int .i64 nu, .int .i64 ok, .int .i64 os, .string oo, .string on, .int .i64 how, .int .i64 root, .string ek, .int .i64 ep, .int .i64 es, .slice A ts.length c, .slice B ds.length d] #[.bool false, .bool false, .bool true, .bool false, .bool true] #[.int .i64 lsn, .int .i64 prev, .int .i64 txn, .int .i64 4, .int .i64 0, .int .i64 next, .int .i64 0, .int .i64 0, .int .i64 0, .string ⟨#[]⟩, .string ⟨#[]⟩, .int .i64 0, .int .i64 0, .string ⟨#[]⟩, .int .i64 0, .int .i64 0, .slice none 0 0, .slice none 0 0] _) := Lib.hid (by simpa using h)
    clear h hR hF hXc hXz H1
    generalize World.setCell _ _ _ = W2 at H2 ⊢
    have hR := blkCell H2.out.br
    have hF := blkCell H2.out.bf
    go_upto_region 19 with (fail)
    generalize hqa : (decide (Rc.num next)) = qa
    have HA := Lib.hid hqa
    clear hqa
    cases qa with
    | false =>
      go_wp2_with fail
      go_ret
      refine ⟨?_, H2.out.below⟩
      have HF := HQ.out.trans (Rc.rightB_no fun h => by
        have h2 := (RI.out.1 h).2.1
        have h3 := HA.out
        simp only [decide_eq_false_iff_not] at h3
        grind)
      rw [HF]
      rfl
    | true =>
      have HS := Lib.hid (same_any ⟨lsn, prev, txn, 4, 0, next, 0, ⟨0, 0, ⟨#[]⟩, ⟨#[]⟩⟩, 0, 0, ⟨⟨#[]⟩, 0, 0⟩, [], []⟩ ⟨lsn, prev, txn, 4, page, next, nu, ⟨ok, os, oo, on⟩, how, root, ⟨ek, ep, es⟩, ts, ds⟩ none A none B 0 c 0 d W2 ⟨(Reads.none_ _ _ _ _), (Reads.none_ _ _ _ _), ⟨by simp, by simp⟩⟩ (HRR.out.below H2.out.below))
      dsimp only [recV, recA, List.length_nil] at HS
      cases he : decide ((⟨lsn, prev, txn, 4, 0, next, 0, ⟨0, 0, ⟨#[]⟩, ⟨#[]⟩⟩, 0, 0, ⟨⟨#[]⟩, 0, 0⟩, [], []⟩ : Rc.Rec) = ⟨lsn, prev, txn, 4, page, next, nu, ⟨ok, os, oo, on⟩, how, root, ⟨ek, ep, es⟩, ts, ds⟩) with
      | false =>
        have HE := Lib.hid he
        clear he
        go_wp2_with (first | (with_reducible refine listLoad (by kernel_rfl) 85 (.tmp 5) rfl w2.heap.size rfl #[.int .i64 lsn, .int .i64 prev, .int .i64 txn, .int .i64 4, .int .i64 0, .int .i64 next, .int .i64 0, .int .i64 0, .int .i64 0, .string ⟨#[]⟩, .string ⟨#[]⟩, .int .i64 0, .int .i64 0, .string ⟨#[]⟩, .int .i64 0, .int .i64 0, .slice none 0 0, .slice none 0 0] _ H2.out.bx _ Tryz.underlying85 (by kernel_rfl) (by kernel_rfl) ?_) | (with_reducible refine listLoad (by kernel_rfl) 85 (.tmp 1) rfl w.heap.size rfl #[.int .i64 lsn, .int .i64 prev, .int .i64 txn, .int .i64 4, .int .i64 page, .int .i64 next, .int .i64 nu, .int .i64 ok, .int .i64 os, .string oo, .string on, .int .i64 how, .int .i64 root, .string ek, .int .i64 ep, .int .i64 es, .slice A ts.length c, .slice B ds.length d] _ H2.out.br _ Tryz.underlying85 (by kernel_rfl) (by kernel_rfl) ?_) | (go_at_call 121; (with_reducible refine HS.out.mono ?_); rintro e w9 ⟨rfl, hb9⟩; rw [HE.out]))
        go_ret
        refine ⟨?_, joinB H2.out.below hb9⟩
        rw [HQ.out.trans (Rc.rightB_no fun h => of_decide_eq_false HE.out (RI.out.1 h).2.2)]
        rfl
      | true =>
        have HE := Lib.hid he
        clear he
        go_wp2_with (first | (with_reducible refine listLoad (by kernel_rfl) 85 (.tmp 5) rfl w2.heap.size rfl #[.int .i64 lsn, .int .i64 prev, .int .i64 txn, .int .i64 4, .int .i64 0, .int .i64 next, .int .i64 0, .int .i64 0, .int .i64 0, .string ⟨#[]⟩, .string ⟨#[]⟩, .int .i64 0, .int .i64 0, .string ⟨#[]⟩, .int .i64 0, .int .i64 0, .slice none 0 0, .slice none 0 0] _ H2.out.bx _ Tryz.underlying85 (by kernel_rfl) (by kernel_rfl) ?_) | (with_reducible refine listLoad (by kernel_rfl) 85 (.tmp 1) rfl w.heap.size rfl #[.int .i64 lsn, .int .i64 prev, .int .i64 txn, .int .i64 4, .int .i64 page, .int .i64 next, .int .i64 nu, .int .i64 ok, .int .i64 os, .string oo, .string on, .int .i64 how, .int .i64 root, .string ek, .int .i64 ep, .int .i64 es, .slice A ts.length c, .slice B ds.length d] _ H2.out.br _ Tryz.underlying85 (by kernel_rfl) (by kernel_rfl) ?_) | (go_at_call 121; (with_reducible refine HS.out.mono ?_); rintro e w9 ⟨rfl, hb9⟩; rw [HE.out]))
        go_ret
        refine ⟨?_, joinB H2.out.below hb9⟩
        rw [HQ.out.trans (Rc.rightB_yes (RI.out.2 ⟨HN.out, by have h3 := HA.out; simpa only [Bool.and_eq_true, decide_eq_true_eq] using h3, of_decide_eq_true HE.out⟩))]
        rfl
end Go.Proofs.YthfglhafphfhiaaGreat
/- The walk over package rec: Right, of one kind. -/
namespace Go.Proofs.YthfglhafphfhiaaGreat
open Go.RowKit
set_option maxRecDepth 100000 in
set_option maxHeartbeats 2000000 in
theorem right_image (lsn prev txn page next nu ok os how root ep es : Int) (oo on ek : ByteArray) (ts : List Rc.TxnAt) (ds : List Rc.DirtyAt) (A B : Option Addr) (c d : Nat) (w : World) (hr : RecR w ⟨lsn, prev, txn, 8, page, next, nu, ⟨ok, os, oo, on⟩, how, root, ⟨ek, ep, es⟩, ts, ds⟩ A c B d) :
    Calls Tryz.prog 103 #[.agg #[.int .i64 lsn, .int .i64 prev, .int .i64 txn, .int .i64 8, .int .i64 page, .int .i64 next, .int .i64 nu, .int .i64 ok, .int .i64 os, .string oo, .string on, .int .i64 how, .int .i64 root, .string ek, .int .i64 ep, .int .i64 es, .slice A ts.length c, .slice B ds.length d]] w fun e w' => e = .returned (.bool (Rc.rightB ⟨lsn, prev, txn, 8, page, next, nu, ⟨ok, os, oo, on⟩, how, root, ⟨ek, ep, es⟩, ts, ds⟩)) ∧ Below w.heap.size w w' := by
  have HOF := Lib.hid (fun W => of_any 8 W)
  rw [show ofV 8 = .tuple #[formV true false false false true, .bool true] from rfl] at HOF
  have HNO := Lib.hid (fun W g h => number3 lsn prev txn W g h)
  obtain ⟨Q, hQ⟩ : ∃ Q, Q = Rc.rightB ⟨lsn, prev, txn, 8, page, next, nu, ⟨ok, os, oo, on⟩, how, root, ⟨ek, ep, es⟩, ts, ds⟩ := ⟨_, rfl⟩
  rw [← hQ]
  have HQ := Lib.hid hQ
  have hsm := hr.small
  simp only at hsm
  have hsm1 := hsm.1
  have hsm2 := hsm.2
  have HRR := Lib.hid hr
  clear hQ hr hsm
  have RI := Lib.hid (Rc.right_8 lsn prev txn page next nu how root ⟨ok, os, oo, on⟩ ⟨ek, ep, es⟩ ts ds)
  cases hn : decide (Rc.num lsn ∧ Rc.num prev ∧ Rc.num txn) with
  | false =>
    rw [hn] at HNO
    have HF := Lib.hid (HQ.out.trans (Rc.rightB_no fun h => of_decide_eq_false hn (RI.out.1 h).1))
    clear hn RI
    go_enter Tryz.func103, Tryz.ntmps103
    go_wp2_with (first
      | (go_at_call 112; (with_reducible refine (HOF.out _).mono ?_); rintro e w1 ⟨rfl, hb1⟩; have hR := blkCell (blkNew hb1); have hl1 : w.heap.size < w1.heap.size := (by have := hb1.size; simp at this; omega); have HB1 := Lib.hid hb1; clear hb1)
      | (go_at_call 113; (with_reducible refine (HNO.out _ _ ?_).mono ?_); (with_reducible exact new2 _ _ _); rintro e w2 ⟨rfl, hb2⟩; have hR2 := blkCell (blkOld (blkNew HB1.out) (joinB (pastAlloc (allocB _ _)) hb2)); have hl2 : w1.heap.size + 1 < w2.heap.size := (by have := hb2.size; simp at this; omega); have HB2 := Lib.hid hb2; clear hb2)
      | (with_reducible refine wpList_store_new rfl 85 (.tmp 5) (.tmp 33) rfl #[.int .i64 lsn, .int .i64 prev, .int .i64 txn, .int .i64 8, .int .i64 0, .int .i64 0, .int .i64 0, .int .i64 0, .int .i64 0, .string ⟨#[]⟩, .string ⟨#[]⟩, .int .i64 0, .int .i64 0, .string ⟨#[]⟩, .int .i64 0, .int .i64 0, .slice none 0 0, .slice none 0 0] _ _ rfl (by kernel_rfl) (by kernel_rfl) (by kernel_rfl) (by kernel_rfl) ?_))
    go_ret
    exact ⟨by rw [HF.out]; rfl, joinB (joinB (allocB _ _) HB1.out) (joinB (pastAlloc (allocB _ _)) HB2.out)⟩
  | true =>
    rw [hn] at HNO
    have HN := Lib.hid (of_decide_eq_true hn)
    clear hn
    go_enter Tryz.func103, Tryz.ntmps103
    go_upto_region 5 with (first
      | (go_at_call 112; (with_reducible refine (HOF.out _).mono ?_); rintro e w1 ⟨rfl, hb1⟩; have hR := blkCell (blkNew hb1); have hl1 : w.heap.size < w1.heap.size := (by have := hb1.size; simp at this; omega); have HB1 := Lib.hid hb1; clear hb1)
      | (go_at_call 113; (with_reducible refine (HNO.out _ _ ?_).mono ?_); (with_reducible exact new2 _ _ _); rintro e w2 ⟨rfl, hb2⟩; have hR2 := blkCell (blkOld (blkNew HB1.out) (joinB (pastAlloc (allocB _ _)) hb2)); have hl2 : w1.heap.size + 1 < w2.heap.size := (by have := hb2.size; simp at this; omega); have HB2 := Lib.hid hb2; clear hb2)
      | (with_reducible refine wpList_store_new rfl 85 (.tmp 5) (.tmp 33) rfl #[.int .i64 lsn, .int .i64 prev, .int .i64 txn, .int .i64 8, .int .i64 0, .int .i64 0, .int .i64 0, .int .i64 0, .int .i64 0, .string ⟨#[]⟩, .string ⟨#[]⟩, .int .i64 0, .int .i64 0, .string ⟨#[]⟩, .int .i64 0, .int .i64 0, .slice none 0 0, .slice none 0 0] _ _ rfl (by kernel_rfl) (by kernel_rfl) (by kernel_rfl) (by kernel_rfl) ?_))
    have HX := Lib.hid (boxes_new (R := #[.int .i64 lsn, .int .i64 prev, .int .i64 txn, .int .i64 8, .int .i64 page, .int .i64 next, .int .i64 nu, .int .i64 ok, .int .i64 os, .string oo, .string on, .int .i64 how, .int .i64 root, .string ek, .int .i64 ep, .int .i64 es, .slice A ts.length c, .slice B ds.length d]) (F := #[.bool true, .bool false, .bool false, .bool false, .bool true]) (X := #[.int .i64 lsn, .int .i64 prev, .int .i64 txn, .int .i64 8, .int .i64 0, .int .i64 0, .int .i64 0, .int .i64 0, .int .i64 0, .string ⟨#[]⟩, .string ⟨#[]⟩, .int .i64 0, .int .i64 0, .string ⟨#[]⟩, .int .i64 0, .int .i64 0, .slice none 0 0, .slice none 0 0]) HB1.out HB2.out)
    clear hR hR2 HNO HOF HB1 HB2
    obtain ⟨V, hV⟩ : ∃ V, V = w2.alloc (.cells #[.int .i64 lsn, .int .i64 prev, .int .i64 txn, .int .i64 8, .int .i64 0, .int .i64 0, .int .i64 0, .int .i64 0, .int .i64 0, .string ⟨#[]⟩, .string ⟨#[]⟩, .int .i64 0, .int .i64 0, .string ⟨#[]⟩, .int .i64 0, .int .i64 0, .slice none 0 0, .slice none 0 0] 85) := ⟨_, rfl⟩
    rw [← hV] at HX ⊢
    clear hV
    have hR := blkCell HX.out.br
    have hF := blkCell HX.out.bf
    go_upto_region 6 with (fail)
    go_cut [4] (fun s we => s = .bool (decide (Rc.pg page) && decide (Rc.opR ⟨ok, os, oo, on⟩)) ∧ Boxes w w.heap.size w1.heap.size w2.heap.size #[.int .i64 lsn, .int .i64 prev, .int .i64 txn, .int .i64 8, .int .i64 page, .int .i64 next, .int .i64 nu, .int .i64 ok, .int .i64 os, .string oo, .string on, .int .i64 how, .int .i64 root, .string ek, .int .i64 ep, .int .i64 es, .slice A ts.length c, .slice B ds.length d] #[.bool true, .bool false, .bool false, .bool false, .bool true] #[.int .i64 lsn, .int .i64 prev, .int .i64 txn, .int .i64 8, .int .i64 0, .int .i64 0, .int .i64 0, .int .i64 0, .int .i64 0, .string ⟨#[]⟩, .string ⟨#[]⟩, .int .i64 0, .int .i64 0, .string ⟨#[]⟩, .int .i64 0, .int .i64 0, .slice none 0 0, .slice none 0 0] we)
    case first =>
      cases hp : decide (Rc.pg page) with
      | false =>
        have HP := Lib.hid hp
        clear hp
        go_wp2_with (first | (go_at_call 114; (with_reducible refine (paged1 page _ _ ?_).mono ?_); (with_reducible exact heap_alloc_new _ _); rintro e w3 ⟨rfl, hb3⟩; rw [HP.out]))
        go_meet
        case rel => exact ⟨by simp [HP.out], HX.out.step (joinB (allocB _ _) hb3)⟩
      | true =>
        have HP := Lib.hid hp
        clear hp
        generalize hqo : decide (Rc.opR ⟨ok, os, oo, on⟩) = qo
        have HO := Lib.hid hqo
        clear hqo
        go_wp2_with (first | (go_at_call 114; (with_reducible refine (paged1 page _ _ ?_).mono ?_); (with_reducible exact heap_alloc_new _ _); rintro e w3 ⟨rfl, hb3⟩; rw [HP.out]; have hR3 := blkCell (HX.out.step (joinB (allocB _ _) hb3)).br) | (go_at_call 115; (with_reducible refine (op_any ⟨ok, os, oo, on⟩ _).mono ?_); rintro e w4 ⟨rfl, hb4⟩; rw [HO.out]))
        go_meet
        case rel => exact ⟨by simp [HP.out, HO.out], (HX.out.step (joinB (allocB _ _) hb3)).step hb4⟩
    case rest =>
    obtain ⟨W1, rfl⟩ : ∃ wm : World, wm = wc := ⟨_, rfl⟩
    obtain ⟨rfl, hB1⟩ := hcut
    have H1 := Lib.hid hB1
    clear hR hF hB1 HX
    have hR := blkCell H1.out.br
    have hF := blkCell H1.out.bf
    have hXc := blkCell H1.out.bx
    have hXz := blkFrozen H1.out.bx
    have hne : w.heap.size ≠ w2.heap.size := by have := H1.out.ab; omega
    go_upto_region 7 with (fail)
    go_cut [] (fun we => Boxes w w.heap.size w1.heap.size w2.heap.size #[.int .i64 lsn, .int .i64 prev, .int .i64 txn, .int .i64 8, .int .i64 page, .int .i64 next, .int .i64 nu, .int .i64 ok, .int .i64 os, .string oo, .string on, .int .i64 how, .int .i64 root, .string ek, .int .i64 ep, .int .i64 es, .slice A ts.length c, .slice B ds.length d] #[.bool true, .bool false, .bool false, .bool false, .bool true] #[.int .i64 lsn, .int .i64 prev, .int .i64 txn, .int .i64 8, .int .i64 page, .int .i64 0, .int .i64 0, .int .i64 ok, .int .i64 os, .string oo, .string on, .int .i64 0, .int .i64 0, .string ⟨#[]⟩, .int .i64 0, .int .i64 0, .slice none 0 0, .slice none 0 0] we)
    case first =>
      go_region
      all_goals
        go_wp2_with fail
        go_meet
        case rel =>
          first
            | (have h := (((((H1.out.set 4 (.int .i64 page)).set 7 (.int .i64 ok)).set 8 (.int .i64 os)).set 9 (.string oo)).set 10 (.string on)).drew; simpa using h)
            | (have h := (((((H1.out.set 7 (.int .i64 ok)).set 8 (.int .i64 os)).set 9 (.string oo)).set 10 (.string on)).set 4 (.int .i64 page)).drew; simpa using h)
    case rest =>
    obtain ⟨W2, rfl⟩ : ∃ wm : World, wm = wc := ⟨_, rfl⟩
    have H2 := Lib.hid hcut
    clear hR hF hXc hXz hcut H1
    have hR := blkCell H2.out.br
    have hF := blkCell H2.out.bf
    go_upto_region 19 with (fail)
    generalize hqa : (decide (Rc.pg page) && decide (Rc.opR ⟨ok, os, oo, on⟩)) = qa
    have HA := Lib.hid hqa
    clear hqa
    cases qa with
    | false =>
      go_wp2_with fail
      go_ret
      refine ⟨?_, H2.out.below⟩
      have HF := HQ.out.trans (Rc.rightB_no fun h => by
        have h2 := (RI.out.1 h).2.1
        have h3 := HA.out
        simp only [Bool.and_eq_false_iff, decide_eq_false_iff_not] at h3
        grind)
      rw [HF]
      rfl
    | true =>
      have HS := Lib.hid (same_any ⟨lsn, prev, txn, 8, page, 0, 0, ⟨ok, os, oo, on⟩, 0, 0, ⟨⟨#[]⟩, 0, 0⟩, [], []⟩ ⟨lsn, prev, txn, 8, page, next, nu, ⟨ok, os, oo, on⟩, how, root, ⟨ek, ep, es⟩, ts, ds⟩ none A none B 0 c 0 d W2 ⟨(Reads.none_ _ _ _ _), (Reads.none_ _ _ _ _), ⟨by simp, by simp⟩⟩ (HRR.out.below H2.out.below))
      dsimp only [recV, recA, List.length_nil] at HS
      cases he : decide ((⟨lsn, prev, txn, 8, page, 0, 0, ⟨ok, os, oo, on⟩, 0, 0, ⟨⟨#[]⟩, 0, 0⟩, [], []⟩ : Rc.Rec) = ⟨lsn, prev, txn, 8, page, next, nu, ⟨ok, os, oo, on⟩, how, root, ⟨ek, ep, es⟩, ts, ds⟩) with
      | false =>
        have HE := Lib.hid he
        clear he
        go_wp2_with (first | (with_reducible refine listLoad (by kernel_rfl) 85 (.tmp 5) rfl w2.heap.size rfl #[.int .i64 lsn, .int .i64 prev, .int .i64 txn, .int .i64 8, .int .i64 page, .int .i64 0, .int .i64 0, .int .i64 ok, .int .i64 os, .string oo, .string on, .int .i64 0, .int .i64 0, .string ⟨#[]⟩, .int .i64 0, .int .i64 0, .slice none 0 0, .slice none 0 0] _ H2.out.bx _ Tryz.underlying85 (by kernel_rfl) (by kernel_rfl) ?_) | (with_reducible refine listLoad (by kernel_rfl) 85 (.tmp 1) rfl w.heap.size rfl #[.int .i64 lsn, .int .i64 prev, .int .i64 txn, .int .i64 8, .int .i64 page, .int .i64 next, .int .i64 nu, .int .i64 ok, .int .i64 os, .string oo, .string on, .int .i64 how, .int .i64 root, .string ek, .int .i64 ep, .int .i64 es, .slice A ts.length c, .slice B ds.length d] _ H2.out.br _ Tryz.underlying85 (by kernel_rfl) (by kernel_rfl) ?_) | (go_at_call 121; (with_reducible refine HS.out.mono ?_); rintro e w9 ⟨rfl, hb9⟩; rw [HE.out]))
        go_ret
        refine ⟨?_, joinB H2.out.below hb9⟩
        rw [HQ.out.trans (Rc.rightB_no fun h => of_decide_eq_false HE.out (RI.out.1 h).2.2)]
        rfl
      | true =>
        have HE := Lib.hid he
        clear he
        go_wp2_with (first | (with_reducible refine listLoad (by kernel_rfl) 85 (.tmp 5) rfl w2.heap.size rfl #[.int .i64 lsn, .int .i64 prev, .int .i64 txn, .int .i64 8, .int .i64 page, .int .i64 0, .int .i64 0, .int .i64 ok, .int .i64 os, .string oo, .string on, .int .i64 0, .int .i64 0, .string ⟨#[]⟩, .int .i64 0, .int .i64 0, .slice none 0 0, .slice none 0 0] _ H2.out.bx _ Tryz.underlying85 (by kernel_rfl) (by kernel_rfl) ?_) | (with_reducible refine listLoad (by kernel_rfl) 85 (.tmp 1) rfl w.heap.size rfl #[.int .i64 lsn, .int .i64 prev, .int .i64 txn, .int .i64 8, .int .i64 page, .int .i64 next, .int .i64 nu, .int .i64 ok, .int .i64 os, .string oo, .string on, .int .i64 how, .int .i64 root, .string ek, .int .i64 ep, .int .i64 es, .slice A ts.length c, .slice B ds.length d] _ H2.out.br _ Tryz.underlying85 (by kernel_rfl) (by kernel_rfl) ?_) | (go_at_call 121; (with_reducible refine HS.out.mono ?_); rintro e w9 ⟨rfl, hb9⟩; rw [HE.out]))
        go_ret
        refine ⟨?_, joinB H2.out.below hb9⟩
        rw [HQ.out.trans (Rc.rightB_yes (RI.out.2 ⟨HN.out, by have h3 := HA.out; simpa only [Bool.and_eq_true, decide_eq_true_eq] using h3, of_decide_eq_true HE.out⟩))]
        rfl
end Go.Proofs.YthfglhafphfhiaaGreat
