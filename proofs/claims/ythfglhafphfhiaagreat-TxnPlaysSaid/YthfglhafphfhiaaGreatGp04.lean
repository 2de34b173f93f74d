/- The walk over package rec: Right: its three boxes. -/
import Derived.Test.YthfglhafphfhiaaGreatGp03
import Derived.BigRegion
import Derived.Test.YthfglhafphfhiaaGreatGp02
import Derived.Test.YthfglhafphfhiaaGreatGp01
namespace Rc
section
open Classical
/-- May a record be? -/
noncomputable def rightB (r : Rec) : Bool := decide (Right r)
theorem rightB_of {r : Rec} {b : Bool} (h : Right r ↔ b = true) : rightB r = b := by
  unfold rightB
  cases b with
  | true => exact decide_eq_true (h.2 rfl)
  | false => exact decide_eq_false (fun hr => by have := h.1 hr; cases this)
theorem rightB_no {r : Rec} (h : ¬ Right r) : rightB r = false := by unfold rightB; exact decide_eq_false h
theorem rightB_yes {r : Rec} (h : Right r) : rightB r = true := by unfold rightB; exact decide_eq_true h
theorem rightB_iff {r : Rec} : rightB r = true ↔ Right r := by unfold rightB; exact decide_eq_true_iff
end
end Rc
namespace Go.Proofs.YthfglhafphfhiaaGreat
open Go.RowKit
/-- The three boxes of Right: the record, its form, what it may have. -/
structure Boxes (w : World) (a f b : Nat) (R F X : Array Value) (u : World) : Prop where
  br : u.heap[a]? = some (.cells R 85 (0, 0))
  bf : u.heap[f]? = some (.cells F 149 (0, 0))
  bx : u.heap[b]? = some (.cells X 85 (0, 0))
  ab : a < b ∧ f < b
  low : w.heap.size ≤ a
  below : Below w.heap.size w u
theorem Boxes.step {w u v : World} {a f b : Nat} {R F X : Array Value} (h : Boxes w a f b R F X u) (hb : Below u.heap.size u v) : Boxes w a f b R F X v :=
  ⟨blkOld h.br hb, blkOld h.bf hb, blkOld h.bx hb, h.ab, h.low, joinB h.below hb⟩
theorem Boxes.set {w u : World} {a f b : Nat} {R F X : Array Value} (h : Boxes w a f b R F X u) (i : Nat) (v : Value) : Boxes w a f b R F (X.setIfInBounds i v) (u.setCell ⟨b, i, none⟩ v) :=
  ⟨by rw [Below.heap_setCell _ _ _ _ (by have := h.ab; show a ≠ b; omega)]; exact h.br, by rw [Below.heap_setCell _ _ _ _ (by have := h.ab; show f ≠ b; omega)]; exact h.bf, blkSet i h.bx v, h.ab, h.low, h.below.setCell (by have := h.ab; have := h.low; show _ ≤ b; omega) v⟩
theorem Boxes.drew {w u : World} {a f b : Nat} {R F X : Array Value} (h : Boxes w a f b R F X u) : Boxes w a f b R F X u.drew := ⟨h.br, h.bf, h.bx, h.ab, h.low, h.below.drew⟩
theorem Boxes.alloc {w u : World} {a f b : Nat} {R F X : Array Value} (h : Boxes w a f b R F X u) (o : Obj) : Boxes w a f b R F X (u.alloc o) := h.step (allocB u o)
theorem boxes_new {w w1 w2 : World} {R F X : Array Value} {o : Obj} (hb1 : Below (w.alloc (.cells R 85)).heap.size (w.alloc (.cells R 85)) w1)
    (hb2 : Below ((w1.alloc (.cells F 149)).alloc o).heap.size ((w1.alloc (.cells F 149)).alloc o) w2) : Boxes w w.heap.size w1.heap.size w2.heap.size R F X (w2.alloc (.cells X 85)) := by
  have h1 : Below w.heap.size w w1 := joinB (allocB _ _) hb1
  have h2 : Below w1.heap.size w1 w2 := joinB (pastAlloc (allocB _ _)) hb2
  have hs1 := hb1.size
  have hs2 := hb2.size
  simp at hs1 hs2
  refine ⟨?_, ?_, heap_alloc_new w2 _, ⟨by omega, by omega⟩, Nat.le_refl _, pastAlloc (joinB h1 h2)⟩
  · rw [Below.heap_alloc _ _ _ (by omega)]; exact blkOld (blkNew hb1) h2
  · rw [Below.heap_alloc _ _ _ (by omega)]; exact blkOld (new21 _ _ _) hb2
end Go.Proofs.YthfglhafphfhiaaGreat
/- The walks over package rec: Same. -/
namespace Go.Proofs.YthfglhafphfhiaaGreat
open Go.RowKit
set_option maxRecDepth 100000 in
set_option maxHeartbeats 8000000 in
theorem same_any (r s : Rc.Rec) (A A' B B' : Option Addr) (c c' d d' : Nat) (w : World) (hr : RecR w r A c B d) (hs : RecR w s A' c' B' d') :
    Calls Tryz.prog 121 #[recV r (.slice A r.txns.length c) (.slice B r.dirty.length d), recV s (.slice A' s.txns.length c') (.slice B' s.dirty.length d')] w fun e w' => e = .returned (.bool (decide (r = s))) ∧ Below w.heap.size w w' := by
  have HT := Lib.hid (fun W hb => equal_txn r.txns s.txns hr.small.1 hs.small.1 A A' c c' W (hr.txns.below hb) (hs.txns.below hb))
  have HD := Lib.hid (fun W hb => equal_dirty r.dirty s.dirty hr.small.2 hs.small.2 B B' d d' W (hr.dirty.below hb) (hs.dirty.below hb))
  have ht1 := hr.small.1
  have ht2 := hs.small.1
  have hd1 := hr.small.2
  have hd2 := hs.small.2
  have HO := Lib.hid (fun W => op_equal r.op s.op W)
  have HK := Lib.hid (fun W => key_equal r.e s.e W)
  clear hr hs
  obtain ⟨rls, rpr, rtx, rki, rpa, rne, rnu, rop, rho, rro, rek, rts, rds⟩ := r
  obtain ⟨sls, spr, stx, ski, spa, sne, snu, sop, sho, sro, sek, sts, sds⟩ := s
  simp only at HT HD HO HK ht1 ht2 hd1 hd2 ⊢
  by_cases hls : rls = sls
  rotate_left
  · rw [decide_eq_false (fun e => hls (congrArg Rc.Rec.lsn e))]
    have nls : (rls == sls) = false := by simp [hls]
    have mls : (rls != sls) = true := by simp [hls]
    clear hls
    obtain ⟨rk, rs, rx, ry⟩ := rop
    obtain ⟨sk, ss, sx, sy⟩ := sop
    obtain ⟨rek1, rek2, rek3⟩ := rek
    obtain ⟨sek1, sek2, sek3⟩ := sek
    go_enter Tryz.func121, Tryz.ntmps121
    go_wp2_with fail
    go_ret
    exact ⟨by simp, pastAlloc (allocB _ _)⟩
  subst hls
  by_cases hpr : rpr = spr
  rotate_left
  · rw [decide_eq_false (fun e => hpr (congrArg Rc.Rec.prev e))]
    have npr : (rpr == spr) = false := by simp [hpr]
    have mpr : (rpr != spr) = true := by simp [hpr]
    clear hpr
    obtain ⟨rk, rs, rx, ry⟩ := rop
    obtain ⟨sk, ss, sx, sy⟩ := sop
    obtain ⟨rek1, rek2, rek3⟩ := rek
    obtain ⟨sek1, sek2, sek3⟩ := sek
    go_enter Tryz.func121, Tryz.ntmps121
    go_wp2_with fail
    go_ret
    exact ⟨by simp, pastAlloc (allocB _ _)⟩
  subst hpr
  by_cases htx : rtx = stx
  rotate_left
  · rw [decide_eq_false (fun e => htx (congrArg Rc.Rec.txn e))]
    have ntx : (rtx == stx) = false := by simp [htx]
    have mtx : (rtx != stx) = true := by simp [htx]
    clear htx
    obtain ⟨rk, rs, rx, ry⟩ := rop
    obtain ⟨sk, ss, sx, sy⟩ := sop
    obtain ⟨rek1, rek2, rek3⟩ := rek
    obtain ⟨sek1, sek2, sek3⟩ := sek
    go_enter Tryz.func121, Tryz.ntmps121
    go_wp2_with fail
    go_ret
    exact ⟨by simp, pastAlloc (allocB _ _)⟩
  subst htx
  by_cases hki : rki = ski
  rotate_left
  · rw [decide_eq_false (fun e => hki (congrArg Rc.Rec.kind e))]
    have nki : (rki == ski) = false := by simp [hki]
    have mki : (rki != ski) = true := by simp [hki]
    clear hki
    obtain ⟨rk, rs, rx, ry⟩ := rop
    obtain ⟨sk, ss, sx, sy⟩ := sop
    obtain ⟨rek1, rek2, rek3⟩ := rek
    obtain ⟨sek1, sek2, sek3⟩ := sek
    go_enter Tryz.func121, Tryz.ntmps121
    go_wp2_with fail
    go_ret
    exact ⟨by simp, pastAlloc (allocB _ _)⟩
  subst hki
  by_cases hpa : rpa = spa
  rotate_left
  · rw [decide_eq_false (fun e => hpa (congrArg Rc.Rec.page e))]
    have npa : (rpa == spa) = false := by simp [hpa]
    have mpa : (rpa != spa) = true := by simp [hpa]
    clear hpa
    obtain ⟨rk, rs, rx, ry⟩ := rop
    obtain ⟨sk, ss, sx, sy⟩ := sop
    obtain ⟨rek1, rek2, rek3⟩ := rek
    obtain ⟨sek1, sek2, sek3⟩ := sek
    go_enter Tryz.func121, Tryz.ntmps121
    go_wp2_with fail
    go_ret
    exact ⟨by simp, pastAlloc (allocB _ _)⟩
  subst hpa
  by_cases hne : rne = sne
  rotate_left
  · rw [decide_eq_false (fun e => hne (congrArg Rc.Rec.next e))]
    have nne : (rne == sne) = false := by simp [hne]
    have mne : (rne != sne) = true := by simp [hne]
    clear hne
    obtain ⟨rk, rs, rx, ry⟩ := rop
    obtain ⟨sk, ss, sx, sy⟩ := sop
    obtain ⟨rek1, rek2, rek3⟩ := rek
    obtain ⟨sek1, sek2, sek3⟩ := sek
    go_enter Tryz.func121, Tryz.ntmps121
    go_wp2_with fail
    go_ret
    exact ⟨by simp, pastAlloc (allocB _ _)⟩
  subst hne
  by_cases hnu : rnu = snu
  rotate_left
  · rw [decide_eq_false (fun e => hnu (congrArg Rc.Rec.num e))]
    have nnu : (rnu == snu) = false := by simp [hnu]
    have mnu : (rnu != snu) = true := by simp [hnu]
    clear hnu
    obtain ⟨rk, rs, rx, ry⟩ := rop
    obtain ⟨sk, ss, sx, sy⟩ := sop
    obtain ⟨rek1, rek2, rek3⟩ := rek
    obtain ⟨sek1, sek2, sek3⟩ := sek
    go_enter Tryz.func121, Tryz.ntmps121
    go_wp2_with fail
    go_ret
    exact ⟨by simp, pastAlloc (allocB _ _)⟩
  subst hnu
  cases hop : decide (rop = sop) with
  | false =>
    rw [decide_eq_false (fun e => of_decide_eq_false hop (congrArg Rc.Rec.op e))]
    have eop := HO.out
    rw [hop] at eop
    clear hop
    obtain ⟨rk, rs, rx, ry⟩ := rop
    obtain ⟨sk, ss, sx, sy⟩ := sop
    obtain ⟨rek1, rek2, rek3⟩ := rek
    obtain ⟨sek1, sek2, sek3⟩ := sek
    go_enter Tryz.func121, Tryz.ntmps121
    go_wp2_with fail
    go_ret
    exact ⟨by simp, pastAlloc (allocB _ _)⟩
  | true =>
  have eop := HO.out
  rw [hop] at eop
  have Dop := Lib.hid (of_decide_eq_true hop)
  clear hop HO
  by_cases hho : rho = sho
  rotate_left
  · rw [decide_eq_false (fun e => hho (congrArg Rc.Rec.how e))]
    have nho : (rho == sho) = false := by simp [hho]
    have mho : (rho != sho) = true := by simp [hho]
    clear hho
    obtain ⟨rk, rs, rx, ry⟩ := rop
    obtain ⟨sk, ss, sx, sy⟩ := sop
    obtain ⟨rek1, rek2, rek3⟩ := rek
    obtain ⟨sek1, sek2, sek3⟩ := sek
    go_enter Tryz.func121, Tryz.ntmps121
    go_wp2_with fail
    go_ret
    exact ⟨by simp, pastAlloc (allocB _ _)⟩
  subst hho
  by_cases hro : rro = sro
  rotate_left
  · rw [decide_eq_false (fun e => hro (congrArg Rc.Rec.root e))]
    have nro : (rro == sro) = false := by simp [hro]
    have mro : (rro != sro) = true := by simp [hro]
    clear hro
    obtain ⟨rk, rs, rx, ry⟩ := rop
    obtain ⟨sk, ss, sx, sy⟩ := sop
    obtain ⟨rek1, rek2, rek3⟩ := rek
    obtain ⟨sek1, sek2, sek3⟩ := sek
    go_enter Tryz.func121, Tryz.ntmps121
    go_wp2_with fail
    go_ret
    exact ⟨by simp, pastAlloc (allocB _ _)⟩
  subst hro
  cases hek : decide (rek = sek) with
  | false =>
    rw [decide_eq_false (fun e => of_decide_eq_false hek (congrArg Rc.Rec.e e))]
    have eek := HK.out
    rw [hek] at eek
    clear hek
    obtain ⟨rk, rs, rx, ry⟩ := rop
    obtain ⟨sk, ss, sx, sy⟩ := sop
    obtain ⟨rek1, rek2, rek3⟩ := rek
    obtain ⟨sek1, sek2, sek3⟩ := sek
    go_enter Tryz.func121, Tryz.ntmps121
    go_wp2_with fail
    go_ret
    exact ⟨by simp, pastAlloc (allocB _ _)⟩
  | true =>
  have eek := HK.out
  rw [hek] at eek
  have Dek := Lib.hid (of_decide_eq_true hek)
  clear hek HK
  cases hts' : decide (rts = sts) with
  | false =>
    have Dts := Lib.hid hts'
    rw [decide_eq_false (fun e => of_decide_eq_false hts' (congrArg Rc.Rec.txns e))]
    clear hts'
    obtain ⟨rk, rs, rx, ry⟩ := rop
    obtain ⟨sk, ss, sx, sy⟩ := sop
    obtain ⟨rek1, rek2, rek3⟩ := rek
    obtain ⟨sek1, sek2, sek3⟩ := sek
    go_enter Tryz.func121, Tryz.ntmps121
    go_wp2_with (first | (go_at_call 149; (with_reducible refine (HT.out _ ?_).mono ?_); (exact pastAlloc (allocB _ _)); rintro e w2 ⟨rfl, hb2⟩; have hx1 := blkOld (new21 _ _ _) hb2; have hx2 := blkOld (new2 _ _ _) hb2; have q1 := blkCell hx1 17; have q2 := blkCell hx2 17; clear hx1 hx2; simp at q1 q2; rw [Dts.out]))
    go_ret
    exact ⟨by simp, joinB (pastAlloc (allocB _ _)) hb2⟩
  | true =>
  have Bts := Lib.hid hts'
  have Dts := Lib.hid (of_decide_eq_true hts')
  clear hts'
  cases hds' : decide (rds = sds) with
  | false =>
    have Dds := Lib.hid hds'
    rw [decide_eq_false (fun e => of_decide_eq_false hds' (congrArg Rc.Rec.dirty e))]
    clear hds'
    obtain ⟨rk, rs, rx, ry⟩ := rop
    obtain ⟨sk, ss, sx, sy⟩ := sop
    obtain ⟨rek1, rek2, rek3⟩ := rek
    obtain ⟨sek1, sek2, sek3⟩ := sek
    go_enter Tryz.func121, Tryz.ntmps121
    go_wp2_with (first | (go_at_call 149; (with_reducible refine (HT.out _ ?_).mono ?_); (exact pastAlloc (allocB _ _)); rintro e w2 ⟨rfl, hb2⟩; have hx1 := blkOld (new21 _ _ _) hb2; have hx2 := blkOld (new2 _ _ _) hb2; have q1 := blkCell hx1 17; have q2 := blkCell hx2 17; clear hx1 hx2; simp at q1 q2; rw [Bts.out]) | (go_at_call 150; (with_reducible refine (HD.out _ ?_).mono ?_); (exact joinB (pastAlloc (allocB _ _)) hb2); rintro e w3 ⟨rfl, hb3⟩; rw [Dds.out]))
    go_ret
    exact ⟨by simp, joinB (joinB (pastAlloc (allocB _ _)) hb2) hb3⟩
  | true =>
  have Bds := Lib.hid hds'
  have Dds := Lib.hid (of_decide_eq_true hds')
  clear hds'
  rw [decide_eq_true (by rw [Dop.out, Dek.out, Dts.out, Dds.out])]
  clear Dop Dek Dts Dds
  obtain ⟨rk, rs, rx, ry⟩ := rop
  obtain ⟨sk, ss, sx, sy⟩ := sop
  obtain ⟨rek1, rek2, rek3⟩ := rek
  obtain ⟨sek1, sek2, sek3⟩ := sek
  go_enter Tryz.func121, Tryz.ntmps121
  go_wp2_with (first | (go_at_call 149; (with_reducible refine (HT.out _ ?_).mono ?_); (exact pastAlloc (allocB _ _)); rintro e w2 ⟨rfl, hb2⟩; have hx1 := blkOld (new21 _ _ _) hb2; have hx2 := blkOld (new2 _ _ _) hb2; have q1 := blkCell hx1 17; have q2 := blkCell hx2 17; clear hx1 hx2; simp at q1 q2; rw [Bts.out]) | (go_at_call 150; (with_reducible refine (HD.out _ ?_).mono ?_); (exact joinB (pastAlloc (allocB _ _)) hb2); rintro e w3 ⟨rfl, hb3⟩; rw [Bds.out]))
  go_ret
  exact ⟨by simp, joinB (joinB (pastAlloc (allocB _ _)) hb2) hb3⟩
end Go.Proofs.YthfglhafphfhiaaGreat
/- Which records may be, kind by kind. -/
namespace Rc
abbrev N3 (a b c : Int) : Prop := num a ∧ num b ∧ num c
theorem right_4 (lsn prev txn page next nu how root : Int) (op : Op) (e : Key) (ts : List TxnAt) (ds : List DirtyAt) :
    Right ⟨lsn, prev, txn, 4, page, next, nu, op, how, root, e, ts, ds⟩ ↔ N3 lsn prev txn ∧ num next ∧ (⟨lsn, prev, txn, 4, 0, next, 0, noOp, 0, 0, noKey, [], []⟩ : Rec) = ⟨lsn, prev, txn, 4, page, next, nu, op, how, root, e, ts, ds⟩ := by
  constructor
  · intro h
    have f := form_of h
    obtain ⟨i1, i2⟩ := f.bare (fun h => by rcases h with h | h | h <;> cases h)
    obtain ⟨g1, g2, g3⟩ := f.noTree (fun h => by cases h)
    obtain ⟨h3, h4, h5⟩ := f.noLists (fun h => by cases h)
    simp only at h3 h4 h5 g1 g2 g3 i1 i2
    subst h3 h4 h5 g1 g2 g3 i1 i2
    exact ⟨f.nums, f.next (Or.inr rfl), rfl⟩
  · rintro ⟨⟨h1, h2, h3⟩, h6, h7⟩
    rw [← h7]
    exact Right.nest _ _ _ _ h1 h2 h3 h6
theorem right_small (kind : Int) (hk : kind = 1 ∨ kind = 5 ∨ kind = 6 ∨ kind = 7) (lsn prev txn page next nu how root : Int) (op : Op) (e : Key) (ts : List TxnAt) (ds : List DirtyAt) :
    Right ⟨lsn, prev, txn, kind, page, next, nu, op, how, root, e, ts, ds⟩ ↔ N3 lsn prev txn ∧ (⟨lsn, prev, txn, kind, 0, 0, 0, noOp, 0, 0, noKey, [], []⟩ : Rec) = ⟨lsn, prev, txn, kind, page, next, nu, op, how, root, e, ts, ds⟩ := by
  constructor
  · intro h
    have f := form_of h
    obtain ⟨i1, i2⟩ := f.bare (fun h => by unfold hasChange at h; simp only at h; omega)
    have h2 : next = 0 := f.noNext (fun h => by unfold hasNext at h; simp only at h; omega)
    obtain ⟨g1, g2, g3⟩ := f.noTree (fun h => by simp only at h; omega)
    obtain ⟨h3, h4, h5⟩ := f.noLists (fun h => by simp only at h; omega)
    simp only at h3 h4 h5 g1 g2 g3 i1 i2
    subst h2 h3 h4 h5 g1 g2 g3 i1 i2
    exact ⟨f.nums, rfl⟩
  · rintro ⟨⟨h1, h2, h3⟩, h7⟩
    rw [← h7]
    exact Right.small _ _ _ _ hk h1 h2 h3
end Rc
/- The walk over package rec: Right, of one kind. -/
namespace Go.Proofs.YthfglhafphfhiaaGreat
open Go.RowKit
end Go.Proofs.YthfglhafphfhiaaGreat
/- The walk over package rec: Right, of one kind. -/
namespace Go.Proofs.YthfglhafphfhiaaGreat
open Go.RowKit
end Go.Proofs.YthfglhafphfhiaaGreat
/- The walk over package rec: Right, of one kind. -/
namespace Go.Proofs.YthfglhafphfhiaaGreat
open Go.RowKit
set_option maxRecDepth 100000 in
set_option maxHeartbeats 2000000 in
theorem right_nest (lsn prev txn page next nu ok os how root ep es : Int) (oo on ek : ByteArray) (ts : List Rc.TxnAt) (ds : List Rc.DirtyAt) (A B : Option Addr) (c d : Nat) (w : World) (hr : RecR w ⟨lsn, prev, txn, 4, page, next, nu, ⟨ok, os, oo, on⟩, how, root, ⟨ek, ep, es⟩, ts, ds⟩ A c B d) :
    Calls Tryz.prog 103 #[.agg #[.int .i64 lsn, .int .i64 prev, .int .i64 txn, .int .i64 4, .int .i64 page, .int .i64 next, .int .i64 nu, .int .i64 ok, .int .i64 os, .string oo, .string on, .int .i64 how, .int .i64 root, .string ek, .int .i64 ep, .int .i64 es, .slice A ts.length c, .slice B ds.length d]] w fun e w' => e = .returned (.bool (Rc.rightB ⟨lsn, prev, txn, 4, page, next, nu, ⟨ok, os, oo, on⟩, how, root, ⟨ek, ep, es⟩, ts, ds⟩)) ∧ Below w.heap.size w w' := by
  have HOF := Lib.hid (fun W => of_any 4 W)
  rw [show ofV 4 = .tuple #[formV false false true false true, .bool true] from rfl] at HOF
  have HNO := Lib.hid (fun W g h => number3 lsn prev txn W g h)
  obtain ⟨Q, hQ⟩ : ∃ Q, Q = Rc.rightB ⟨lsn, prev, txn, 4, page, next, nu, ⟨ok, os, oo, on⟩, how, root, ⟨ek, ep, es⟩, ts, ds⟩ := ⟨_, rfl⟩
  rw [← hQ]
  have HQ := Lib.hid hQ
  have hsm := hr.small
  simp only at hsm
  have hsm1 := hsm.1
  have hsm2 := hsm.2
  have HRR := Lib.hid hr
  clear hQ hr hsm
  have RI := Lib.hid (Rc.right_4 lsn prev txn page next nu how root ⟨ok, os, oo, on⟩ ⟨ek, ep, es⟩ ts ds)
  cases hn : decide (Rc.num lsn ∧ Rc.num prev ∧ Rc.num txn) with
  | false =>
    rw [hn] at HNO
    have HF := Lib.hid (HQ.out.trans (Rc.rightB_no fun h => of_decide_eq_false hn (RI.out.1 h).1))
    clear hn RI
    go_enter Tryz.func103, Tryz.ntmps103
    go_wp2_with (first
      | (go_at_call 112; (with_reducible refine (HOF.out _).mono ?_); rintro e w1 ⟨rfl, hb1⟩; have hR := blkCell (blkNew hb1); have hl1 : w.heap.size < w1.heap.size := (by have := hb1.size; simp at this; omega); have HB1 := Lib.hid hb1; clear hb1)
      | (go_at_call 113; (with_reducible refine (HNO.out _ _ ?_).mono ?_); (with_reducible exact new2 _ _ _); rintro e w2 ⟨rfl, hb2⟩; have hR2 := blkCell (blkOld (blkNew HB1.out) (joinB (pastAlloc (allocB _ _)) hb2)); have hl2 : w1.heap.size + 1 < w2.heap.size := (by have := hb2.size; simp at this; omega); have HB2 := Lib.hid hb2; clear hb2)
      | (with_reducible refine wpList_store_new rfl 85 (.tmp 5) (.tmp 33) rfl #[.int .i64 lsn, .int .i64 prev, .int .i64 txn, .int .i64 4, .int .i64 0, .int .i64 0, .int .i64 0, .int .i64 0, .int .i64 0, .string ⟨#[]⟩, .string ⟨#[]⟩, .int .i64 0, .int .i64 0, .string ⟨#[]⟩, .int .i64 0, .int .i64 0, .slice none 0 0, .slice none 0 0] _ _ rfl (by kernel_rfl) (by kernel_rfl) (by kernel_rfl) (by kernel_rfl) ?_))
    go_ret
    exact ⟨by rw [HF.out]; rfl, joinB (joinB (allocB _ _) HB1.out) (joinB (pastAlloc (allocB _ _)) HB2.out)⟩
  | true =>
    rw [hn] at HNO
    have HN := Lib.hid (of_decide_eq_true hn)
    clear hn
    go_enter Tryz.func103, Tryz.ntmps103
    go_upto_region 5 with (first
      | (go_at_call 112; (with_reducible refine (HOF.out _).mono ?_); rintro e w1 ⟨rfl, hb1⟩; have hR := blkCell (blkNew hb1); have hl1 : w.heap.size < w1.heap.size := (by have := hb1.size; simp at this; omega); have HB1 := Lib.hid hb1; clear hb1)
      | (go_at_call 113; (with_reducible refine (HNO.out _ _ ?_).mono ?_); (with_reducible exact new2 _ _ _); rintro e w2 ⟨rfl, hb2⟩; have hR2 := blkCell (blkOld (blkNew HB1.out) (joinB (pastAlloc (allocB _ _)) hb2)); have hl2 : w1.heap.size + 1 < w2.heap.size := (by have := hb2.size; simp at this; omega); have HB2 := Lib.hid hb2; clear hb2)
      | (with_reducible refine wpList_store_new rfl 85 (.tmp 5) (.tmp 33) rfl #[.int .i64 lsn, .int .i64 prev, .int .i64 txn, .int .i64 4, .int .i64 0, .int .i64 0, .int .i64 0, .int .i64 0, .int .i64 0, .string ⟨#[]⟩, .string ⟨#[]⟩, .int .i64 0, .int .i64 0, .string ⟨#[]⟩, .int .i64 0, .int .i64 0, .slice none 0 0, .slice none 0 0] _ _ rfl (by kernel_rfl) (by kernel_rfl) (by kernel_rfl) (by kernel_rfl) ?_))
    have HX := Lib.hid (boxes_new (R := #[.int .i64 lsn, .int .i64 prev, .int .i64 txn, .int .i64 4, .int .i64 page, .int .i64 next, .int .i64 nu, .int .i64 ok, .int .i64 os, .string oo, .string on, .int .i64 how, .int .i64 root, .string ek, .int .i64 ep, .int .i64 es, .slice A ts.length c, .slice B ds.length d]) (F := #[.bool false, .bool false, .bool true, .bool false, .bool true]) (X := #[.int .i64 lsn, .int .i64 prev, .int .i64 txn, .int .i64 4, .int .i64 0, .int .i64 0, .int .i64 0, .int .i64 0, .int .i64 0, .string ⟨#[]⟩, .string ⟨#[]⟩, .int .i64 0, .int .i64 0, .string ⟨#[]⟩, .int .i64 0, .int .i64 0, .slice none 0 0, .slice none 0 0]) HB1.out HB2.out)
    clear hR hR2 HNO HOF HB1 HB2
    obtain ⟨V, hV⟩ : ∃ V, V = w2.alloc (.cells #[.int .i64 lsn, .int .i64 prev, .int .i64 txn, .int .i64 4, .int .i64 0, .int .i64 0, .int .i64 0, .int .i64 0, .int .i64 0, .string ⟨#[]⟩, .string ⟨#[]⟩, .int .i64 0, .int .i64 0, .string ⟨#[]⟩, .int .i64 0, .int .i64 0, .slice none 0 0, .slice none 0 0] 85) := ⟨_, rfl⟩
    rw [← hV] at HX ⊢
    clear hV
    have hR := blkCell HX.out.br
    have hF := blkCell HX.out.bf
    go_upto_region 12 with (fail)
    go_cut [4] (fun s we => s = .bool (decide (Rc.num next)) ∧ Boxes w w.heap.size w1.heap.size w2.heap.size #[.int .i64 lsn, .int .i64 prev, .int .i64 txn, .int .i64 4, .int .i64 page, .int .i64 next, .int .i64 nu, .int .i64 ok, .int .i64 os, .string oo, .string on, .int .i64 how, .int .i64 root, .string ek, .int .i64 ep, .int .i64 es, .slice A ts.length c, .slice B ds.length d] #[.bool false, .bool false, .bool true, .bool false, .bool true] #[.int .i64 lsn, .int .i64 prev, .int .i64 txn, .int .i64 4, .int .i64 0, .int .i64 0, .int .i64 0, .int .i64 0, .int .i64 0, .string ⟨#[]⟩, .string ⟨#[]⟩, .int .i64 0, .int .i64 0, .string ⟨#[]⟩, .int .i64 0, .int .i64 0, .slice none 0 0, .slice none 0 0] we)
    case first =>
      generalize hqt : decide (Rc.num next) = qt
      have HT := Lib.hid hqt
      clear hqt
      go_wp2_with (first | (go_at_call 113; (with_reducible refine (number1 next _ _ ?_).mono ?_); (with_reducible exact heap_alloc_new _ _); rintro e w5 ⟨rfl, hb5⟩; rw [HT.out]))
      go_meet
      case rel => exact ⟨by simp [HT.out], HX.out.step (joinB (allocB _ _) hb5)⟩
    case rest =>
    obtain ⟨W1, rfl⟩ : ∃ wm : World, wm = wc := ⟨_, rfl⟩
    obtain ⟨rfl, hB1⟩ := hcut
    have H1 := Lib.hid hB1
    clear hR hF hB1 HX
    have hR := blkCell H1.out.br
    have hF := blkCell H1.out.bf
    have hXc := blkCell H1.out.bx
    have hXz := blkFrozen H1.out.bx
    have hne : w.heap.size ≠ w2.heap.size := by have := H1.out.ab; omega
    go_upto_region 14 with (fail)
    have h := H1.out.set 5 (.int .i64 next)
    have H2 : Hid (Boxes w w.heap.size w1.heap.size w2.heap.size #[.int .i64 lsn, .int .i64 prev, .int .i64 txn, .int .i64 4, .int .i64 page, .int .i64 next, .int .i64 nu, .int .i64 ok, .int .i64 os, .string oo, .string on, .int .i64 how, .int .i64 root, .string ek, .int .i64 ep, .int .i64 es, .slice A ts.length c, .slice B ds.length d] #[.bool false, .bool false, .bool true, .bool false, .bool true] #[.int .i64 lsn, .int .i64 prev, .int .i64 txn, .int .i64 4, .int .i64 0, .int .i64 next, .int .i64 0, .int .i64 0, .int .i64 0, .string ⟨#[]⟩, .string ⟨#[]⟩, .int .i64 0, .int .i64 0, .string ⟨#[]⟩, .int .i64 0, .int .i64 0, .slice none 0 0, .slice none 0 0] _) := Lib.hid (by simpa using h)
    clear h hR hF hXc hXz H1
    generalize World.setCell _ _ _ = W2 at H2 ⊢
    have hR := blkCell H2.out.br
    have hF := blkCell H2.out.bf
    go_upto_region 19 with (fail)
    generalize hqa : (decide (Rc.num next)) = qa
    have HA := Lib.hid hqa
    clear hqa
    cases qa with
    | false =>
      go_wp2_with fail
      go_ret
      refine ⟨?_, H2.out.below⟩
      have HF := HQ.out.trans (Rc.rightB_no fun h => by
        have h2 := (RI.out.1 h).2.1
        have h3 := HA.out
        simp only [decide_eq_false_iff_not] at h3
        grind)
      rw [HF]
      rfl
    | true =>
      have HS := Lib.hid (same_any ⟨lsn, prev, txn, 4, 0, next, 0, ⟨0, 0, ⟨#[]⟩, ⟨#[]⟩⟩, 0, 0, ⟨⟨#[]⟩, 0, 0⟩, [], []⟩ ⟨lsn, prev, txn, 4, page, next, nu, ⟨ok, os, oo, on⟩, how, root, ⟨ek, ep, es⟩, ts, ds⟩ none A none B 0 c 0 d W2 ⟨(Reads.none_ _ _ _ _), (Reads.none_ _ _ _ _), ⟨by simp, by simp⟩, HRR.out.kd⟩ (HRR.out.below H2.out.below))
      dsimp only [recV, recA, List.length_nil] at HS
      cases he : decide ((⟨lsn, prev, txn, 4, 0, next, 0, ⟨0, 0, ⟨#[]⟩, ⟨#[]⟩⟩, 0, 0, ⟨⟨#[]⟩, 0, 0⟩, [], []⟩ : Rc.Rec) = ⟨lsn, prev, txn, 4, page, next, nu, ⟨ok, os, oo, on⟩, how, root, ⟨ek, ep, es⟩, ts, ds⟩) with
      | false =>
        have HE := Lib.hid he
        clear he
        go_wp2_with (first | (with_reducible refine listLoad (by kernel_rfl) 85 (.tmp 5) rfl w2.heap.size rfl #[.int .i64 lsn, .int .i64 prev, .int .i64 txn, .int .i64 4, .int .i64 0, .int .i64 next, .int .i64 0, .int .i64 0, .int .i64 0, .string ⟨#[]⟩, .string ⟨#[]⟩, .int .i64 0, .int .i64 0, .string ⟨#[]⟩, .int .i64 0, .int .i64 0, .slice none 0 0, .slice none 0 0] _ H2.out.bx _ Tryz.underlying85 (by kernel_rfl) (by kernel_rfl) ?_) | (with_reducible refine listLoad (by kernel_rfl) 85 (.tmp 1) rfl w.heap.size rfl #[.int .i64 lsn, .int .i64 prev, .int .i64 txn, .int .i64 4, .int .i64 page, .int .i64 next, .int .i64 nu, .int .i64 ok, .int .i64 os, .string oo, .string on, .int .i64 how, .int .i64 root, .string ek, .int .i64 ep, .int .i64 es, .slice A ts.length c, .slice B ds.length d] _ H2.out.br _ Tryz.underlying85 (by kernel_rfl) (by kernel_rfl) ?_) | (go_at_call 121; (with_reducible refine HS.out.mono ?_); rintro e w9 ⟨rfl, hb9⟩; rw [HE.out]))
        go_ret
        refine ⟨?_, joinB H2.out.below hb9⟩
        rw [HQ.out.trans (Rc.rightB_no fun h => of_decide_eq_false HE.out (RI.out.1 h).2.2)]
        rfl
      | true =>
        have HE := Lib.hid he
        clear he
        go_wp2_with (first | (with_reducible refine listLoad (by kernel_rfl) 85 (.tmp 5) rfl w2.heap.size rfl #[.int .i64 lsn, .int .i64 prev, .int .i64 txn, .int .i64 4, .int .i64 0, .int .i64 next, .int .i64 0, .int .i64 0, .int .i64 0, .string ⟨#[]⟩, .string ⟨#[]⟩, .int .i64 0, .int .i64 0, .string ⟨#[]⟩, .int .i64 0, .int .i64 0, .slice none 0 0, .slice none 0 0] _ H2.out.bx _ Tryz.underlying85 (by kernel_rfl) (by kernel_rfl) ?_) | (with_reducible refine listLoad (by kernel_rfl) 85 (.tmp 1) rfl w.heap.size rfl #[.int .i64 lsn, .int .i64 prev, .int .i64 txn, .int .i64 4, .int .i64 page, .int .i64 next, .int .i64 nu, .int .i64 ok, .int .i64 os, .string oo, .string on, .int .i64 how, .int .i64 root, .string ek, .int .i64 ep, .int .i64 es, .slice A ts.length c, .slice B ds.length d] _ H2.out.br _ Tryz.underlying85 (by kernel_rfl) (by kernel_rfl) ?_) | (go_at_call 121; (with_reducible refine HS.out.mono ?_); rintro e w9 ⟨rfl, hb9⟩; rw [HE.out]))
        go_ret
        refine ⟨?_, joinB H2.out.below hb9⟩
        rw [HQ.out.trans (Rc.rightB_yes (RI.out.2 ⟨HN.out, by have h3 := HA.out; simpa only [Bool.and_eq_true, decide_eq_true_eq] using h3, of_decide_eq_true HE.out⟩))]
        rfl
end Go.Proofs.YthfglhafphfhiaaGreat
/- The walk over package rec: Right, of one kind. -/
namespace Go.Proofs.YthfglhafphfhiaaGreat
open Go.RowKit
end Go.Proofs.YthfglhafphfhiaaGreat
/- The walk over package rec: Right, of one kind. -/
namespace Go.Proofs.YthfglhafphfhiaaGreat
open Go.RowKit
end Go.Proofs.YthfglhafphfhiaaGreat
/- The walk over package rec: Right, of one kind. -/
namespace Go.Proofs.YthfglhafphfhiaaGreat
open Go.RowKit
set_option maxRecDepth 100000 in
set_option maxHeartbeats 2000000 in
theorem right_bare (kind : Int) (hk : kind = 1 ∨ kind = 5 ∨ kind = 6 ∨ kind = 7) (lsn prev txn page next nu ok os how root ep es : Int) (oo on ek : ByteArray) (ts : List Rc.TxnAt) (ds : List Rc.DirtyAt) (A B : Option Addr) (c d : Nat) (w : World) (hr : RecR w ⟨lsn, prev, txn, kind, page, next, nu, ⟨ok, os, oo, on⟩, how, root, ⟨ek, ep, es⟩, ts, ds⟩ A c B d) :
    Calls Tryz.prog 103 #[.agg #[.int .i64 lsn, .int .i64 prev, .int .i64 txn, .int .i64 kind, .int .i64 page, .int .i64 next, .int .i64 nu, .int .i64 ok, .int .i64 os, .string oo, .string on, .int .i64 how, .int .i64 root, .string ek, .int .i64 ep, .int .i64 es, .slice A ts.length c, .slice B ds.length d]] w fun e w' => e = .returned (.bool (Rc.rightB ⟨lsn, prev, txn, kind, page, next, nu, ⟨ok, os, oo, on⟩, how, root, ⟨ek, ep, es⟩, ts, ds⟩)) ∧ Below w.heap.size w w' := by
  have HOF := Lib.hid (fun W => of_any kind W)
  rw [show ofV kind = .tuple #[formV false false false false true, .bool true] from by rcases hk with rfl | rfl | rfl | rfl <;> rfl] at HOF
  have HNO := Lib.hid (fun W g h => number3 lsn prev txn W g h)
  obtain ⟨Q, hQ⟩ : ∃ Q, Q = Rc.rightB ⟨lsn, prev, txn, kind, page, next, nu, ⟨ok, os, oo, on⟩, how, root, ⟨ek, ep, es⟩, ts, ds⟩ := ⟨_, rfl⟩
  rw [← hQ]
  have HQ := Lib.hid hQ
  have hsm := hr.small
  simp only at hsm
  have hsm1 := hsm.1
  have hsm2 := hsm.2
  have HRR := Lib.hid hr
  clear hQ hr hsm
  have RI := Lib.hid (Rc.right_small kind hk lsn prev txn page next nu how root ⟨ok, os, oo, on⟩ ⟨ek, ep, es⟩ ts ds)
  cases hn : decide (Rc.num lsn ∧ Rc.num prev ∧ Rc.num txn) with
  | false =>
    rw [hn] at HNO
    have HF := Lib.hid (HQ.out.trans (Rc.rightB_no fun h => of_decide_eq_false hn (RI.out.1 h).1))
    clear hn RI
    go_enter Tryz.func103, Tryz.ntmps103
    go_wp2_with (first
      | (go_at_call 112; (with_reducible refine (HOF.out _).mono ?_); rintro e w1 ⟨rfl, hb1⟩; have hR := blkCell (blkNew hb1); have hl1 : w.heap.size < w1.heap.size := (by have := hb1.size; simp at this; omega); have HB1 := Lib.hid hb1; clear hb1)
      | (go_at_call 113; (with_reducible refine (HNO.out _ _ ?_).mono ?_); (with_reducible exact new2 _ _ _); rintro e w2 ⟨rfl, hb2⟩; have hR2 := blkCell (blkOld (blkNew HB1.out) (joinB (pastAlloc (allocB _ _)) hb2)); have hl2 : w1.heap.size + 1 < w2.heap.size := (by have := hb2.size; simp at this; omega); have HB2 := Lib.hid hb2; clear hb2)
      | (with_reducible refine wpList_store_new rfl 85 (.tmp 5) (.tmp 33) rfl #[.int .i64 lsn, .int .i64 prev, .int .i64 txn, .int .i64 kind, .int .i64 0, .int .i64 0, .int .i64 0, .int .i64 0, .int .i64 0, .string ⟨#[]⟩, .string ⟨#[]⟩, .int .i64 0, .int .i64 0, .string ⟨#[]⟩, .int .i64 0, .int .i64 0, .slice none 0 0, .slice none 0 0] _ _ rfl (by kernel_rfl) (by kernel_rfl) (by kernel_rfl) (by kernel_rfl) ?_))
    go_ret
    exact ⟨by rw [HF.out]; rfl, joinB (joinB (allocB _ _) HB1.out) (joinB (pastAlloc (allocB _ _)) HB2.out)⟩
  | true =>
    rw [hn] at HNO
    have HN := Lib.hid (of_decide_eq_true hn)
    clear hn
    go_enter Tryz.func103, Tryz.ntmps103
    go_upto_region 5 with (first
      | (go_at_call 112; (with_reducible refine (HOF.out _).mono ?_); rintro e w1 ⟨rfl, hb1⟩; have hR := blkCell (blkNew hb1); have hl1 : w.heap.size < w1.heap.size := (by have := hb1.size; simp at this; omega); have HB1 := Lib.hid hb1; clear hb1)
      | (go_at_call 113; (with_reducible refine (HNO.out _ _ ?_).mono ?_); (with_reducible exact new2 _ _ _); rintro e w2 ⟨rfl, hb2⟩; have hR2 := blkCell (blkOld (blkNew HB1.out) (joinB (pastAlloc (allocB _ _)) hb2)); have hl2 : w1.heap.size + 1 < w2.heap.size := (by have := hb2.size; simp at this; omega); have HB2 := Lib.hid hb2; clear hb2)
      | (with_reducible refine wpList_store_new rfl 85 (.tmp 5) (.tmp 33) rfl #[.int .i64 lsn, .int .i64 prev, .int .i64 txn, .int .i64 kind, .int .i64 0, .int .i64 0, .int .i64 0, .int .i64 0, .int .i64 0, .string ⟨#[]⟩, .string ⟨#[]⟩, .int .i64 0, .int .i64 0, .string ⟨#[]⟩, .int .i64 0, .int .i64 0, .slice none 0 0, .slice none 0 0] _ _ rfl (by kernel_rfl) (by kernel_rfl) (by kernel_rfl) (by kernel_rfl) ?_))
    have HX := Lib.hid (boxes_new (R := #[.int .i64 lsn, .int .i64 prev, .int .i64 txn, .int .i64 kind, .int .i64 page, .int .i64 next, .int .i64 nu, .int .i64 ok, .int .i64 os, .string oo, .string on, .int .i64 how, .int .i64 root, .string ek, .int .i64 ep, .int .i64 es, .slice A ts.length c, .slice B ds.length d]) (F := #[.bool false, .bool false, .bool false, .bool false, .bool true]) (X := #[.int .i64 lsn, .int .i64 prev, .int .i64 txn, .int .i64 kind, .int .i64 0, .int .i64 0, .int .i64 0, .int .i64 0, .int .i64 0, .string ⟨#[]⟩, .string ⟨#[]⟩, .int .i64 0, .int .i64 0, .string ⟨#[]⟩, .int .i64 0, .int .i64 0, .slice none 0 0, .slice none 0 0]) HB1.out HB2.out)
    clear hR hR2 HNO HOF HB1 HB2
    obtain ⟨V, hV⟩ : ∃ V, V = w2.alloc (.cells #[.int .i64 lsn, .int .i64 prev, .int .i64 txn, .int .i64 kind, .int .i64 0, .int .i64 0, .int .i64 0, .int .i64 0, .int .i64 0, .string ⟨#[]⟩, .string ⟨#[]⟩, .int .i64 0, .int .i64 0, .string ⟨#[]⟩, .int .i64 0, .int .i64 0, .slice none 0 0, .slice none 0 0] 85) := ⟨_, rfl⟩
    rw [← hV] at HX ⊢
    clear hV
    have hR := blkCell HX.out.br
    have hF := blkCell HX.out.bf
    go_upto_region 19 with (fail)
    have HS := Lib.hid (same_any ⟨lsn, prev, txn, kind, 0, 0, 0, ⟨0, 0, ⟨#[]⟩, ⟨#[]⟩⟩, 0, 0, ⟨⟨#[]⟩, 0, 0⟩, [], []⟩ ⟨lsn, prev, txn, kind, page, next, nu, ⟨ok, os, oo, on⟩, how, root, ⟨ek, ep, es⟩, ts, ds⟩ none A none B 0 c 0 d V ⟨(Reads.none_ _ _ _ _), (Reads.none_ _ _ _ _), ⟨by simp, by simp⟩, HRR.out.kd⟩ (HRR.out.below HX.out.below))
    dsimp only [recV, recA, List.length_nil] at HS
    cases he : decide ((⟨lsn, prev, txn, kind, 0, 0, 0, ⟨0, 0, ⟨#[]⟩, ⟨#[]⟩⟩, 0, 0, ⟨⟨#[]⟩, 0, 0⟩, [], []⟩ : Rc.Rec) = ⟨lsn, prev, txn, kind, page, next, nu, ⟨ok, os, oo, on⟩, how, root, ⟨ek, ep, es⟩, ts, ds⟩) with
    | false =>
      have HE := Lib.hid he
      clear he
      go_wp2_with (first | (with_reducible refine listLoad (by kernel_rfl) 85 (.tmp 5) rfl w2.heap.size rfl #[.int .i64 lsn, .int .i64 prev, .int .i64 txn, .int .i64 kind, .int .i64 0, .int .i64 0, .int .i64 0, .int .i64 0, .int .i64 0, .string ⟨#[]⟩, .string ⟨#[]⟩, .int .i64 0, .int .i64 0, .string ⟨#[]⟩, .int .i64 0, .int .i64 0, .slice none 0 0, .slice none 0 0] _ HX.out.bx _ Tryz.underlying85 (by kernel_rfl) (by kernel_rfl) ?_) | (with_reducible refine listLoad (by kernel_rfl) 85 (.tmp 1) rfl w.heap.size rfl #[.int .i64 lsn, .int .i64 prev, .int .i64 txn, .int .i64 kind, .int .i64 page, .int .i64 next, .int .i64 nu, .int .i64 ok, .int .i64 os, .string oo, .string on, .int .i64 how, .int .i64 root, .string ek, .int .i64 ep, .int .i64 es, .slice A ts.length c, .slice B ds.length d] _ HX.out.br _ Tryz.underlying85 (by kernel_rfl) (by kernel_rfl) ?_) | (go_at_call 121; (with_reducible refine HS.out.mono ?_); rintro e w9 ⟨rfl, hb9⟩; rw [HE.out]))
      go_ret
      refine ⟨?_, joinB HX.out.below hb9⟩
      rw [HQ.out.trans (Rc.rightB_no fun h => of_decide_eq_false HE.out (RI.out.1 h).2)]
      rfl
    | true =>
      have HE := Lib.hid he
      clear he
      go_wp2_with (first | (with_reducible refine listLoad (by kernel_rfl) 85 (.tmp 5) rfl w2.heap.size rfl #[.int .i64 lsn, .int .i64 prev, .int .i64 txn, .int .i64 kind, .int .i64 0, .int .i64 0, .int .i64 0, .int .i64 0, .int .i64 0, .string ⟨#[]⟩, .string ⟨#[]⟩, .int .i64 0, .int .i64 0, .string ⟨#[]⟩, .int .i64 0, .int .i64 0, .slice none 0 0, .slice none 0 0] _ HX.out.bx _ Tryz.underlying85 (by kernel_rfl) (by kernel_rfl) ?_) | (with_reducible refine listLoad (by kernel_rfl) 85 (.tmp 1) rfl w.heap.size rfl #[.int .i64 lsn, .int .i64 prev, .int .i64 txn, .int .i64 kind, .int .i64 page, .int .i64 next, .int .i64 nu, .int .i64 ok, .int .i64 os, .string oo, .string on, .int .i64 how, .int .i64 root, .string ek, .int .i64 ep, .int .i64 es, .slice A ts.length c, .slice B ds.length d] _ HX.out.br _ Tryz.underlying85 (by kernel_rfl) (by kernel_rfl) ?_) | (go_at_call 121; (with_reducible refine HS.out.mono ?_); rintro e w9 ⟨rfl, hb9⟩; rw [HE.out]))
      go_ret
      refine ⟨?_, joinB HX.out.below hb9⟩
      rw [HQ.out.trans (Rc.rightB_yes (RI.out.2 ⟨HN.out, of_decide_eq_true HE.out⟩))]
      rfl
end Go.Proofs.YthfglhafphfhiaaGreat
/- The walk over package rec: Right, of any record. -/
namespace Go.Proofs.YthfglhafphfhiaaGreat
open Go.RowKit
theorem cright_rec (x : Rc.Rec) (A B : Option Addr) (c d : Nat) (w : World) (hr : RecR w x A c B d) :
    Calls Tryz.prog 103 #[recV x (.slice A x.txns.length c) (.slice B x.dirty.length d)] w fun e w' => e = .returned (.bool (Rc.rightB x)) ∧ Below w.heap.size w w' := by
  obtain ⟨lsn, prev, txn, kind, page, next, nu, ⟨ok, os, oo, on⟩, how, root, ⟨ek, ep, es⟩, ts, ds⟩ := x
  have h9 : kind = 4 ∨ (kind = 1 ∨ kind = 5 ∨ kind = 6 ∨ kind = 7) := by have h : kind = 1 ∨ kind = 4 ∨ kind = 5 ∨ kind = 6 ∨ kind = 7 := hr.kd; omega
  rcases h9 with rfl | h9
  · exact right_nest lsn prev txn page next nu ok os how root ep es oo on ek ts ds A B c d w hr
  · exact right_bare kind h9 lsn prev txn page next nu ok os how root ep es oo on ek ts ds A B c d w hr
end Go.Proofs.YthfglhafphfhiaaGreat
/- A record's writer: a strings.Builder that lies in another struct; what WriteString and String do there, with a frame that keeps all blocks that are no bytes. -/
namespace Go.Proofs.YthfglhafphfhiaaGreat
open Go.RowKit
/-- Block b is a writer that holds the bytes l; its row of bytes, if there is one, is block number B or later. -/
def BldW (B b : Nat) (l : List UInt8) (w : World) : Prop :=
  b < B ∧ ∃ p v, w.heap[b]? = some (.cells #[p, v] 160 (0, 0)) ∧ (p = .pointer none ∨ p = .pointer (some ⟨b, 0, none⟩)) ∧ w.ownsRow B 5 1 v l.length (Lib.byteCells l)
/-- Is this no row of bytes? -/
def noBytes (o : Option Obj) : Prop := ∃ cs t fr, o = some (.cells cs t fr) ∧ t ≠ 5
/-- Only block b, and rows of bytes from B on, may have turned. -/
structure KeptW (B b : Nat) (w w' : World) : Prop where
  os : w'.os = w.os
  tape : w'.tape = w.tape
  output : w'.output = w.output
  size : w.heap.size ≤ w'.heap.size
  block : ∀ k, k < w.heap.size → k ≠ b → k < B ∨ noBytes w.heap[k]? → w'.heap[k]? = w.heap[k]?
theorem KeptW.refl (B b : Nat) (w : World) : KeptW B b w w := ⟨rfl, rfl, rfl, Nat.le_refl _, fun _ _ _ _ => rfl⟩
theorem KeptW.trans {B b : Nat} {u v w : World} (h : KeptW B b u v) (k : KeptW B b v w) : KeptW B b u w :=
  ⟨k.os.trans h.os, k.tape.trans h.tape, k.output.trans h.output, Nat.le_trans h.size k.size, fun i hi hb hc => by
    have e := h.block i hi hb hc
    exact (k.block i (Nat.lt_of_lt_of_le hi h.size) hb (by rw [e]; exact hc)).trans e⟩
theorem KeptW.of_below {B b : Nat} {u v : World} (h : Below u.heap.size u v) : KeptW B b u v :=
  ⟨h.os, h.tape, h.output, h.size, fun i hi _ _ => h.block i hi⟩
theorem KeptW.below {B b lo : Nat} {u v : World} (h : KeptW B b u v) (h1 : lo ≤ B) (h2 : lo ≤ b) (h3 : lo ≤ u.heap.size) : Below lo u v :=
  ⟨h.os, h.tape, h.output, h.size, fun i hi => h.block i (by omega) (by omega) (.inl (by omega))⟩
theorem KeptW.at_ {B b : Nat} {u v : World} (h : KeptW B b u v) {g : Nat} {cs : Array Value} {t : TypeId} {fr : Nat × Nat} (hg : u.heap[g]? = some (.cells cs t fr)) (hb : g ≠ b) (ht : t ≠ 5) : v.heap[g]? = some (.cells cs t fr) :=
  (h.block g (heapLt hg) hb (.inr ⟨cs, t, fr, hg, ht⟩)).trans hg
theorem bldw_size {B b : Nat} {l : List UInt8} {w : World} (h : BldW B b l w) : b < w.heap.size := by
  obtain ⟨_, p, v, hb, _⟩ := h
  exact heapLt hb
theorem BldW.below {B b : Nat} {l : List UInt8} {w w' : World} (h : BldW B b l w) (hb : Below w.heap.size w w') : BldW B b l w' := by
  obtain ⟨hbB, p, v, hbk, hp, hown⟩ := h
  exact ⟨hbB, p, v, blkOld hbk hb, hp, ownBelow hown hb⟩
theorem BldW.fresh (B b : Nat) (w : World) (hb : b < B) (h : w.heap[b]? = some (.cells #[.pointer none, .slice none 0 0] 160 (0, 0))) : BldW B b [] w :=
  ⟨hb, _, _, h, .inl rfl, ⟨rfl, .inl ⟨rfl, rfl⟩⟩⟩
set_option maxRecDepth 100000 in
set_option maxHeartbeats 1000000 in
theorem copyCheckW_fresh (b : Nat) (w : World) (h0 : w.cell? ⟨b, 0, none⟩ = some (.pointer none)) (hsh : w.shape? b = some (160, 2)) (hfz : w.frozen? ⟨b, 0, none⟩ = false) :
    Calls Tryz.prog 98 #[.pointer (some ⟨b, 0, none⟩)] w fun e w' => e = .returned (.tuple #[]) ∧ w' = w.setCell ⟨b, 0, none⟩ (.pointer (some ⟨b, 0, none⟩)) := by
  obtain ⟨j, hj, hjs⟩ := Option.map_eq_some_iff.1 (show (Tryz.prog.info? 109).map (·.size) = some 2 by kernel_rfl)
  have hlies : liesAt Tryz.prog Tryz.prog.depth 160 (2 / Tryz.prog.cellsOf 160) 0 109 1 = true := by kernel_rfl
  go_enter Tryz.func98, Tryz.ntmps98
  go_wp2
  rw [Lib.run_to_unsafe w ⟨b, 0, none⟩ Tryz.underlying106 Tryz.underlying145 hj (by rw [hjs]; decide) hsh (Nat.zero_lt_succ 1)]
  simp only [Result.andThen]
  rw [Oper.upon_value]
  go_wp2
  rw [run_callFunc_extern Tryz.func108 (by kernel_rfl) (by kernel_rfl) (by kernel_rfl) (e := Extern.AbiNoEscape.same) (by kernel_rfl)]
  rw [Lib.run_noEscape]
  simp only [Result.andThen]
  rw [Oper.upon_value]
  go_wp2
  rw [Lib.run_from_unsafe w ⟨b, 0, none⟩ Tryz.underlying145 Tryz.underlying106 hj hsh hlies]
  simp only [Result.andThen]
  rw [Oper.upon_value]
  go_wp2
  go_end0
  exact ⟨rfl, rfl⟩
theorem setW (B b : Nat) (w : World) (i : Nat) (v : Value) : KeptW B b w (w.setCell ⟨b, i, none⟩ v) :=
  ⟨rfl, rfl, rfl, by simp [World.setCell], fun k _ hk _ => Below.heap_setCell _ _ _ _ hk⟩
theorem copyCheckW_any (B b : Nat) (l : List UInt8) (w : World) (h : BldW B b l w) :
    Calls Tryz.prog 98 #[.pointer (some ⟨b, 0, none⟩)] w fun e w' => e = .returned (.tuple #[]) ∧
      (b < B ∧ ∃ v, w'.heap[b]? = some (.cells #[.pointer (some ⟨b, 0, none⟩), v] 160 (0, 0)) ∧ w'.ownsRow B 5 1 v l.length (Lib.byteCells l)) ∧ KeptW B b w w' := by
  obtain ⟨hbB, p, v, hb, hp, hown⟩ := h
  rcases hp with rfl | rfl
  · refine (copyCheckW_fresh b w (by rw [blkCell hb]; rfl) (by simp [World.shape?, hb]) (by simp [World.frozen?, hb])).mono ?_
    rintro e w' ⟨rfl, rfl⟩
    exact ⟨rfl, ⟨hbB, v, heap_set w b 0 _ _ _ _ hb, own_set hbB hown⟩, setW B b w 0 _⟩
  · refine (copyCheck_used b w (by rw [blkCell hb]; rfl)).mono ?_
    rintro e w' ⟨rfl, rfl⟩
    exact ⟨rfl, ⟨hbB, v, hb, hown⟩, KeptW.refl _ _ _⟩
set_option maxHeartbeats 1000000 in
theorem writeW_any (B b : Nat) (l : List UInt8) (s : ByteArray) (w : World) (h : BldW B b l w) (hlen : l.length + s.size ≤ 140737488355328) (hBw : B ≤ w.heap.size) :
    Calls Tryz.prog 72 #[.pointer (some ⟨b, 0, none⟩), .string s] w fun e w' => e = .returned (.tuple #[.int .i64 s.size, .nilIface]) ∧ BldW B b (l ++ s.data.toList) w' ∧ KeptW B b w w' := by
  obtain ⟨i0, hi, hz0, hz1, hz2⟩ := info_parts info_byte
  have HC := Lib.hid (copyCheckW_any B b l w h)
  clear h
  go_enter Tryz.func72, Tryz.ntmps72
  go_wp2_with (go_at_call 98; refine HC.out.mono ?_)
  rintro e w1 ⟨rfl, ⟨hbB, v, hbk, hown⟩, hk1⟩
  have hs1 := hk1.size
  have c1 : w1.cell? ⟨b, 1, none⟩ = some v := by rw [blkCell hbk]; rfl
  go_wp2_with (at_builtin; refine Lib.wpList_append_own_string _ rfl _ _ 107 9 rfl B 5 i0 Tryz.underlying107 Tryz.underlying9 hi hz0 hz1 hz2 _ _ _ rfl hown s rfl ?c3 ?c4 ?c5 ?_)
  case c3 => unfold maxLen; omega
  case c4 => omega
  case c5 => omega
  intro v' w2 hown' hgrow _
  have hlt : b < w1.heap.size := heapLt hbk
  have hne : v.ownBlock ≠ some b := fun e => by
    have := (hown.lt b e).1; omega
  have hb2 : w2.heap[b]? = some (.cells #[.pointer (some ⟨b, 0, none⟩), v] 160 (0, 0)) := by
    rw [hgrow.block b hlt (fun e => hne e.symm)]; exact hbk
  have d1 : w2.cell? ⟨b, 1, none⟩ = some v := by rw [blkCell hb2]; rfl
  have f1 : w2.frozen? ⟨b, 1, none⟩ = false := by simp [World.frozen?, hb2]
  obtain ⟨ao, n', cap, rfl⟩ : ∃ ao n' cap, v' = .slice ao n' cap := by
    rcases hown'.2 with ⟨hv, _⟩ | ⟨g, cap, cur, hv, _⟩
    · exact ⟨_, _, _, hv⟩
    · exact ⟨_, _, _, hv⟩
  have hk2 : KeptW B b w1 w2 := ⟨hgrow.os, hgrow.tape, hgrow.output, hgrow.size, fun k hk hkb hc => hgrow.block k hk (fun e => by
    have h1 := (hown.lt k e.symm).1
    rcases hc with hc | ⟨cs, t, fr, hcs, ht⟩
    · omega
    · rcases hown.2 with ⟨hv, _⟩ | ⟨g, cap', cur, hv, _, hg, _⟩
      · rw [hv] at e; simp [Value.ownBlock] at e
      · rw [hv] at e
        have hkg : g = k := by simpa [Value.ownBlock] using e.symm
        subst hkg
        rw [hcs] at hg
        injection hg with hg
        injection hg with _ hg2
        exact ht hg2)⟩
  have HKW := Lib.hid (hk1.trans hk2)
  clear hk1 hk2
  go_wp2_with fail
  go_ret2
  refine ⟨rfl, ?_, HKW.out.trans (setW B b w2 1 _)⟩
  have hbs : Lib.byteCells (l ++ s.data.toList) = Lib.byteCells l ++ Lib.strCells s := by
    simp [Lib.byteCells, Lib.strCells]
  refine ⟨hbB, _, _, heap_set w2 b 1 _ _ _ _ hb2, .inr rfl, ?_⟩
  have := own_set (i := 1) (u := .slice ao n' cap) hbB hown'
  rw [hbs, List.length_append, show s.data.toList.length = s.size by simp]
  exact this
end Go.Proofs.YthfglhafphfhiaaGreat
/- The walks over package rec: how a writer gathers numbers and texts. -/
namespace Go.Proofs.YthfglhafphfhiaaGreat
open Go.RowKit
set_option maxHeartbeats 2000000 in
set_option maxRecDepth 100000 in
theorem stringW_any (B b : Nat) (l : List UInt8) (w : World) (h : BldW B b l w) (h0 : l ≠ []) :
    Calls Tryz.prog 74 #[.pointer (some ⟨b, 0, none⟩)] w fun e w' => e = .returned (.string ⟨l.toArray⟩) ∧ KeptW B b w w' := by
  obtain ⟨hbB, p, v, hbk, hp, hown⟩ := h
  have hl0 : l.length ≠ 0 := by simpa using h0
  obtain ⟨g, cap, cur, rfl, hbg, hgc, hnc, hcm, hcs, htake⟩ : ∃ g cap cur, v = .slice (some ⟨g, 0, none⟩) l.length cap ∧ B ≤ g ∧ w.heap[g]? = some (.cells cur 5 (0, 0)) ∧ l.length ≤ cap ∧ cap ≤ maxLen ∧ cur.size = cap * 1 ∧ cur.toList.take (l.length * 1) = Lib.byteCells l := by
    rcases hown.2 with ⟨_, hz⟩ | ⟨g, cap, cur, hv, r⟩
    · exact absurd hz hl0
    · exact ⟨g, cap, cur, hv, r⟩
  have c1 : w.drew.cell? ⟨b, 1, none⟩ = some (.slice (some ⟨g, 0, none⟩) l.length cap) := by
    have : w.drew.heap[b]? = some (.cells #[p, .slice (some ⟨g, 0, none⟩) l.length cap] 160 (0, 0)) := hbk
    rw [blkCell this]; rfl
  have hSD : (Builtin.unsafeSliceData_ #[107] 139 #[.slice (some ⟨g, 0, none⟩) l.length cap]).run Tryz.prog w.drew = .ok (.pointer (some ⟨g, 0, none⟩)) w.drew :=
    Lib.run_unsafeSliceData_row _ _ _ _ _ _ (by omega)
  have hUS : (Builtin.unsafeString_ #[139, 3] 9 #[.pointer (some ⟨g, 0, none⟩), .int .i64 l.length]).run Tryz.prog w.drew = .ok (.string ⟨l.toArray⟩) (w.drew.freeze ⟨g, 0, none⟩ l.length) := by
    refine Lib.run_unsafeString_row w.drew 139 3 9 5 ptr_type cells_byte g cur.size (by have hg' : w.drew.heap[g]? = some (.cells cur 5 (0, 0)) := hgc; simp [World.shape?, hg']) l h0 (by omega) (by unfold maxLen at hcm; omega) ?_
    intro j x hx
    have := hown.cells (g := g) rfl j (.int .u8 x.toNat) (by simp [Lib.byteCells, hx])
    exact this
  have HK : KeptW B b w (w.drew.freeze ⟨g, 0, none⟩ l.length) := by
    have h1 := KeptR.freeze g (g + 1) g l.length w (Nat.le_refl _) (Nat.lt_succ_self _)
    refine ⟨h1.os, h1.tape, h1.output, h1.size, fun k hk hkb hc => h1.block k hk ?_⟩
    rcases Nat.lt_trichotomy k g with h | h | h
    · exact .inl h
    · subst h
      rcases hc with hc | ⟨cs, t, fr, hcs, ht⟩
      · omega
      · rw [hcs] at hgc
        injection hgc with hgc
        injection hgc with _ h2
        exact absurd h2 ht
    · exact .inr h
  clear hown hbk htake hcs hcm hnc hgc h0
  go_enter Tryz.func74, Tryz.ntmps74
  go_wp2
  go_region
  all_goals (go_wp2; go_ret; exact ⟨rfl, HK⟩)
theorem p_bytes (n : Int) (size : Nat) (h8 : size ≤ 8) : (Oct.putB n size).data.toList = Rc.p n size := by
  unfold Oct.putB
  rw [if_neg (by omega)]
  simp [Rc.p]
theorem p_size (n : Int) (size : Nat) : (Rc.p n size).length = size := Oct.putL_length _ _
theorem t_size (s : ByteArray) : (Rc.t s).length = 2 + s.size := by
  unfold Rc.t
  rw [List.length_append, p_size]
  simp
set_option maxRecDepth 100000 in
theorem putText_any (s : ByteArray) (hs : s.size ≤ 65535) (w : World) :
    Calls Tryz.prog 151 #[.string s] w fun e w' => ∃ x : ByteArray, e = .returned (.string x) ∧ x.data.toList = Rc.t s ∧ Below w.heap.size w w' := by
  have HP := Lib.hid (fun W => put_any s.size 2 (by omega) (by omega) W)
  have hmin : min (s.size : Int) 65535 = s.size := by omega
  have hex : s.extract 0 s.size = s := ByteArray.extract_zero_size
  have hsz : (Oct.putB (s.size : Int) 2).size = 2 := Oct.putB_size _ 2 (by omega)
  have hsum : (Oct.putB (s.size : Int) 2).size + s.size ≤ 281474976710656 := by omega
  have hfin : (Oct.putB (s.size : Int) 2 ++ s).data.toList = Rc.t s := by
    have e : (Oct.putB (s.size : Int) 2).data.toList = Rc.p s.size 2 := p_bytes _ 2 (by omega)
    rw [ByteArray.data_append, Array.toList_append, e]; rfl
  go_enter Tryz.func151, Tryz.ntmps151
  go_wp2_with ((go_at_call 66; refine (HP.out _).mono ?_; rintro e w1 ⟨rfl, hb1⟩))
  go_ret
  exact ⟨_, rfl, hfin, hb1⟩
theorem flat_int (size : Nat) (h8 : size ≤ 8) (xs : List Int) (k : Nat) : ((xs.take k).flatMap (fun n => Rc.p n size)).length ≤ k * 8 := by
  refine Nat.le_trans ?_ (Nat.mul_le_mul_right _ (show (xs.take k).length ≤ k by rw [List.length_take]; omega))
  have hh : ∀ ys : List Int, (∀ y ∈ ys, ((fun n => Rc.p n size) y).length ≤ 8) → (ys.flatMap (fun n => Rc.p n size)).length ≤ ys.length * 8 := by
    intro ys
    induction ys with
    | nil => intro _; simp
    | cons y ys ih =>
      intro h
      rw [List.flatMap_cons, List.length_append, List.length_cons, Nat.succ_mul]
      have h1 : (Rc.p y size).length ≤ 8 := h y (List.mem_cons_self ..)
      show (Rc.p y size).length + _ ≤ _
      have h2 := ih (fun z hz => h z (List.mem_cons_of_mem _ hz))
      omega
  exact hh _ (fun y hy => by show (Rc.p y size).length ≤ 8; rw [p_size]; exact h8)
set_option maxRecDepth 100000 in
set_option maxHeartbeats 2000000 in
theorem wput_any (B b g : Nat) (l : List UInt8) (size : Nat) (h8 : size ≤ 8) (xs : List Int) (w : World) (h : BldW B b l w) (hB : B ≤ w.heap.size) (hg : w.heap[g]? = some (.cells (xs.map (Value.int .i64)).toArray 3 (0, 0))) (hgb : g ≠ b) (hlen : l.length + xs.length * 8 ≤ 140737488355328) :
    Calls Tryz.prog 122 #[.pointer (some ⟨b, 0, none⟩), .int .i64 (size : Int), .slice (some ⟨g, 0, none⟩) xs.length xs.length] w fun e w' => e = .returned (.tuple #[]) ∧ BldW B b (l ++ xs.flatMap (fun n => Rc.p n size)) w' ∧ KeptW B b w w' := by
  have HW := Lib.hid h
  have HG := Lib.hid hg
  have hFL := Lib.hid (flat_int size h8 xs)
  have HP := Lib.hid (fun n W => put_any n (size : Int) (by omega) (by omega) W)
  have HPB := Lib.hid (fun n => p_bytes n size h8)
  have HPZ := Lib.hid (fun n => Oct.putB_size n size h8)
  clear h hg
  go_enter Tryz.func122, Tryz.ntmps122
  go_wp2_with fail
  go_loopw [7, 10] (fun _ i wr => ∃ k : Nat, k ≤ xs.length ∧ i = .int .i64 k ∧ BldW B b (l ++ (xs.take k).flatMap (fun n => Rc.p n size)) wr ∧ KeptW B b w wr) (fun _ i _ => xs.length - (intOf i).toNat)
  case atStart => exact ⟨0, Nat.zero_le _, rfl, by simpa using HW.out, KeptW.refl _ _ _⟩
  case round =>
    obtain ⟨k, hk, rfl, hbw, hkw⟩ := hrel
    have HBW := Lib.hid hbw
    have HKW := Lib.hid hkw
    clear hbw hkw
    by_cases hlt : k < xs.length
    · have q0 : wr.cell? ⟨g, k, none⟩ = some (Value.int .i64 xs[k]) := by
        rw [blkCell (HKW.out.at_ HG.out hgb (by decide))]
        simp [hlt]
      have hst : (xs.take (k + 1)).flatMap (fun n => Rc.p n size) = (xs.take k).flatMap (fun n => Rc.p n size) ++ (fun n => Rc.p n size) xs[k] := by
        rw [List.take_add_one, List.flatMap_append, List.getElem?_eq_getElem hlt]
        simp
      have HST := Lib.hid hst
      
      generalize xs[k] = x at q0 HST
      clear hst
      go_upto_region 3 with fail
      refine wp_region_held_drew (S := (fun _ => True)) (by kernel_rfl) ?_ (fun hHeld => ?_)
      · trivial
      refine tkW 0 (some 14) (v := ?_) rfl ?_ ?_
      rotate_left
      · intro w hSw; (try dsimp only at hSw); go_simp; (try with_reducible rfl)
      try simp only [Act.put, List.setIfInBounds_toArray, List.set_cons_zero, List.set_cons_succ]
      refine tkW 1 (some 15) (v := ?_) rfl ?_ ?_
      rotate_left
      · intro w hSw; (try dsimp only at hSw); go_simp; (try with_reducible rfl)
      try simp only [Act.put, List.setIfInBounds_toArray, List.set_cons_zero, List.set_cons_succ]
      refine tkW 2 (some 16) (v := ?_) rfl ?_ ?_
      rotate_left
      · intro w hSw; (try dsimp only at hSw); go_simp; (try with_reducible rfl)
      try simp only [Act.put, List.setIfInBounds_toArray, List.set_cons_zero, List.set_cons_succ]
      refine tkW 3 (some 17) (v := ?_) rfl ?_ ?_
      rotate_left
      · intro w hSw; (try dsimp only at hSw); go_simp; (try with_reducible rfl)
      try simp only [Act.put, List.setIfInBounds_toArray, List.set_cons_zero, List.set_cons_succ]
      refine tkW 4 (some 18) (v := ?_) rfl ?_ ?_
      rotate_left
      · intro w hSw; (try dsimp only at hSw); go_simp; (try with_reducible rfl)
      try simp only [Act.put, List.setIfInBounds_toArray, List.set_cons_zero, List.set_cons_succ]
      refine rdH 5 (some 19) rfl (fun K hK => ?_)
      go_simp
      refine (HP.out x _).mono ?_; rintro e w1 ⟨rfl, hb1⟩; have HB1 := Lib.hid (HBW.out.below ((Below.refl _ wr).drew.trans hb1)); have HS1 := Lib.hid hb1.size; try go_simp
      refine hK.out _ _ ?_ (fun hHeld => ?_)
      · trivial
      clear hK K
      try simp only [Act.put, List.setIfInBounds_toArray, List.set_cons_zero, List.set_cons_succ]
      refine rdH 6 (some 20) rfl (fun K hK => ?_)
      go_simp
      refine (writeW_any B b _ (Oct.putB x (size : Int)) _ HB1.out (by have := HPZ.out x; have := hFL.out k; rw [List.length_append]; omega) (by have h1 := HKW.out.size; have h2 := HS1.out; have h3 : wr.drew.heap.size = wr.heap.size := rfl; omega)).mono ?_; rintro e w2 ⟨rfl, hbw2, hkw2⟩; have HBW2 := Lib.hid hbw2; have HKW2 := Lib.hid ((HKW.out.trans (KeptW.of_below ((Below.refl _ wr).drew.trans hb1))).trans hkw2); clear hbw2 hkw2; try go_simp
      refine hK.out _ _ ?_ (fun hHeld => ?_)
      · trivial
      clear hK K
      try simp only [Act.put, List.setIfInBounds_toArray, List.set_cons_zero, List.set_cons_succ]
      refine wpAnyH_done (by kernel_rfl) ?_ _
      clear hHeld
      go_wp2_with fail
      go_roundw
      case rel => exact ⟨k + 1, by omega, by go_num, by rw [HST.out, ← List.append_assoc]; have h := HBW2.out; rw [HPB.out] at h; exact h, HKW2.out⟩
      case measure => simp [intOf]; omega
    · obtain rfl : k = xs.length := by omega
      go_wp2_with fail
      first | go_end0 | go_ret
      refine ⟨rfl, ?_, HKW.out⟩
      have h := HBW.out
      rw [List.take_length] at h
      exact h
theorem flat_str (xs : List ByteArray) (hx : ∀ s ∈ xs, s.size ≤ 65535) (k : Nat) : ((xs.take k).flatMap Rc.t).length ≤ k * 65537 := by
  refine Nat.le_trans ?_ (Nat.mul_le_mul_right _ (show (xs.take k).length ≤ k by rw [List.length_take]; omega))
  have hh : ∀ ys : List ByteArray, (∀ y ∈ ys, (Rc.t y).length ≤ 65537) → (ys.flatMap Rc.t).length ≤ ys.length * 65537 := by
    intro ys
    induction ys with
    | nil => intro _; simp
    | cons y ys ih =>
      intro h
      rw [List.flatMap_cons, List.length_append, List.length_cons, Nat.succ_mul]
      have h1 : (Rc.t y).length ≤ 65537 := h y (List.mem_cons_self ..)
      show (Rc.t y).length + _ ≤ _
      have h2 := ih (fun z hz => h z (List.mem_cons_of_mem _ hz))
      omega
  exact hh _ (fun y hy => by rw [t_size]; have := hx y (List.mem_of_mem_take hy); omega)
set_option maxRecDepth 100000 in
set_option maxHeartbeats 2000000 in
theorem wtexts_any (B b g : Nat) (l : List UInt8) (xs : List ByteArray) (hx : ∀ s ∈ xs, s.size ≤ 65535) (w : World) (h : BldW B b l w) (hB : B ≤ w.heap.size) (hg : w.heap[g]? = some (.cells (xs.map Value.string).toArray 9 (0, 0))) (hgb : g ≠ b) (hlen : l.length + xs.length * 65537 ≤ 140737488355328) :
    Calls Tryz.prog 123 #[.pointer (some ⟨b, 0, none⟩), .slice (some ⟨g, 0, none⟩) xs.length xs.length] w fun e w' => e = .returned (.tuple #[]) ∧ BldW B b (l ++ xs.flatMap Rc.t) w' ∧ KeptW B b w w' := by
  have HW := Lib.hid h
  have HG := Lib.hid hg
  have hFL := Lib.hid (flat_str xs hx)
  have HP := Lib.hid (fun s hs W => putText_any s hs W)
  have HXS := Lib.hid hx
  
  clear h hg hx
  go_enter Tryz.func123, Tryz.ntmps123
  go_wp2_with fail
  go_loopw [5, 8] (fun _ i wr => ∃ k : Nat, k ≤ xs.length ∧ i = .int .i64 k ∧ BldW B b (l ++ (xs.take k).flatMap Rc.t) wr ∧ KeptW B b w wr) (fun _ i _ => xs.length - (intOf i).toNat)
  case atStart => exact ⟨0, Nat.zero_le _, rfl, by simpa using HW.out, KeptW.refl _ _ _⟩
  case round =>
    obtain ⟨k, hk, rfl, hbw, hkw⟩ := hrel
    have HBW := Lib.hid hbw
    have HKW := Lib.hid hkw
    clear hbw hkw
    by_cases hlt : k < xs.length
    · have q0 : wr.cell? ⟨g, k, none⟩ = some (Value.string xs[k]) := by
        rw [blkCell (HKW.out.at_ HG.out hgb (by decide))]
        simp [hlt]
      have hst : (xs.take (k + 1)).flatMap Rc.t = (xs.take k).flatMap Rc.t ++ Rc.t xs[k] := by
        rw [List.take_add_one, List.flatMap_append, List.getElem?_eq_getElem hlt]
        simp
      have HST := Lib.hid hst
      have HXK := Lib.hid (HXS.out _ (List.getElem_mem hlt))
      generalize xs[k] = x at q0 HST HXK
      clear hst
      go_upto_region 3 with fail
      refine wp_region_held_drew (S := (fun _ => True)) (by kernel_rfl) ?_ (fun hHeld => ?_)
      · trivial
      refine tkW 0 (some 12) (v := ?_) rfl ?_ ?_
      rotate_left
      · intro w hSw; (try dsimp only at hSw); go_simp; (try with_reducible rfl)
      try simp only [Act.put, List.setIfInBounds_toArray, List.set_cons_zero, List.set_cons_succ]
      refine tkW 1 (some 13) (v := ?_) rfl ?_ ?_
      rotate_left
      · intro w hSw; (try dsimp only at hSw); go_simp; (try with_reducible rfl)
      try simp only [Act.put, List.setIfInBounds_toArray, List.set_cons_zero, List.set_cons_succ]
      refine tkW 2 (some 14) (v := ?_) rfl ?_ ?_
      rotate_left
      · intro w hSw; (try dsimp only at hSw); go_simp; (try with_reducible rfl)
      try simp only [Act.put, List.setIfInBounds_toArray, List.set_cons_zero, List.set_cons_succ]
      refine tkW 3 (some 15) (v := ?_) rfl ?_ ?_
      rotate_left
      · intro w hSw; (try dsimp only at hSw); go_simp; (try with_reducible rfl)
      try simp only [Act.put, List.setIfInBounds_toArray, List.set_cons_zero, List.set_cons_succ]
      refine rdH 4 (some 16) rfl (fun K hK => ?_)
      go_simp
      refine (HP.out x HXK.out _).mono ?_; rintro e w1 ⟨y, rfl, hy, hb1⟩; have HB1 := Lib.hid (HBW.out.below ((Below.refl _ wr).drew.trans hb1)); have HY := Lib.hid hy; have HS1 := Lib.hid hb1.size; clear hy; try go_simp
      refine hK.out _ _ ?_ (fun hHeld => ?_)
      · trivial
      clear hK K
      try simp only [Act.put, List.setIfInBounds_toArray, List.set_cons_zero, List.set_cons_succ]
      refine rdH 5 (some 17) rfl (fun K hK => ?_)
      go_simp
      refine (writeW_any B b _ (y) _ HB1.out (by have h1 := hFL.out k; have h2 := t_size x; have h3 : y.size = (Rc.t x).length := (by rw [← HY.out]; first | done | simp); have h4 := HXK.out; rw [List.length_append]; omega) (by have h1 := HKW.out.size; have h2 := HS1.out; have h3 : wr.drew.heap.size = wr.heap.size := rfl; omega)).mono ?_; rintro e w2 ⟨rfl, hbw2, hkw2⟩; have HBW2 := Lib.hid hbw2; have HKW2 := Lib.hid ((HKW.out.trans (KeptW.of_below ((Below.refl _ wr).drew.trans hb1))).trans hkw2); clear hbw2 hkw2; try go_simp
      refine hK.out _ _ ?_ (fun hHeld => ?_)
      · trivial
      clear hK K
      try simp only [Act.put, List.setIfInBounds_toArray, List.set_cons_zero, List.set_cons_succ]
      refine wpAnyH_done (by kernel_rfl) ?_ _
      clear hHeld
      go_wp2_with fail
      go_roundw
      case rel => exact ⟨k + 1, by omega, by go_num, by rw [HST.out, ← List.append_assoc]; have h := HBW2.out; rw [HY.out] at h; exact h, HKW2.out⟩
      case measure => simp [intOf]; omega
    · obtain rfl : k = xs.length := by omega
      go_wp2_with fail
      first | go_end0 | go_ret
      refine ⟨rfl, ?_, HKW.out⟩
      have h := HBW.out
      rw [List.take_length] at h
      exact h
end Go.Proofs.YthfglhafphfhiaaGreat
/- The walks over package rec: the three boxes of body, and what each put and texts does to them. -/
namespace Go.Proofs.YthfglhafphfhiaaGreat
open Go.RowKit
/-- The boxes of body: the record, its form, the writer with its bytes. -/
structure Wr (w : World) (a f b : Nat) (R F : Array Value) (l : List UInt8) (u : World) : Prop where
  br : u.heap[a]? = some (.cells R 85 (0, 0))
  bf : u.heap[f]? = some (.cells F 149 (0, 0))
  wr : BldW (b + 1) b l u
  ab : a < b ∧ f < b
  low : w.heap.size ≤ a
  below : Below w.heap.size w u
theorem Wr.step {w u v : World} {a f b : Nat} {R F : Array Value} {l : List UInt8} (h : Wr w a f b R F l u) (hb : Below u.heap.size u v) : Wr w a f b R F l v :=
  ⟨blkOld h.br hb, blkOld h.bf hb, h.wr.below hb, h.ab, h.low, joinB h.below hb⟩
theorem Wr.turn {w u v : World} {a f b : Nat} {R F : Array Value} {l l' : List UInt8} (h : Wr w a f b R F l u) (hw : BldW (b + 1) b l' v) (hk : KeptW (b + 1) b u v) : Wr w a f b R F l' v :=
  ⟨hk.at_ h.br (by have := h.ab; omega) (by decide), hk.at_ h.bf (by have := h.ab; omega) (by decide), hw, h.ab, h.low, h.below.trans (hk.below (by have := h.ab; have := h.low; omega) (by have := h.ab; have := h.low; omega) h.below.size)⟩
theorem Wr.size {w u : World} {a f b : Nat} {R F : Array Value} {l : List UInt8} (h : Wr w a f b R F l u) : b + 1 ≤ u.heap.size := bldw_size h.wr
theorem Wr.put {w u : World} {a f b : Nat} {R F : Array Value} {l : List UInt8} (h : Wr w a f b R F l u) (size : Nat) (h8 : size ≤ 8) (xs : List Int) (hlen : l.length + xs.length * 8 ≤ 140737488355328) :
    Calls Tryz.prog 122 #[.pointer (some ⟨b, 0, none⟩), .int .i64 (size : Int), .slice (some ⟨u.heap.size, 0, none⟩) xs.length xs.length] (u.alloc (.cells (xs.map (Value.int .i64)).toArray 3)) fun e w' => e = .returned (.tuple #[]) ∧ Wr w a f b R F (l ++ xs.flatMap (fun n => Rc.p n size)) w' := by
  have h2 := h.step (allocB u (.cells (xs.map (Value.int .i64)).toArray 3))
  refine (wput_any (b + 1) b u.heap.size l size h8 xs _ h2.wr h2.size (heap_alloc_new u _) (by have := h.size; omega) hlen).mono ?_
  rintro e w' ⟨rfl, h3, h4⟩
  exact ⟨rfl, h2.turn h3 h4⟩
theorem Wr.put1 {w u : World} {a f b : Nat} {R F : Array Value} {l : List UInt8} (h : Wr w a f b R F l u) (size : Nat) (h8 : size ≤ 8) (x : Int) (hlen : l.length + 8 ≤ 140737488355328) :
    Calls Tryz.prog 122 #[.pointer (some ⟨b, 0, none⟩), .int .i64 (size : Int), .slice (some ⟨u.heap.size, 0, none⟩) 1 1] (u.alloc (.cells #[.int .i64 x] 3)) fun e w' => e = .returned (.tuple #[]) ∧ Wr w a f b R F (l ++ Rc.p x size) w' := by
  refine (h.put size h8 [x] (by simpa using hlen)).mono ?_
  rintro e w' ⟨rfl, h3⟩
  exact ⟨rfl, by simpa using h3⟩
theorem Wr.put3 {w u : World} {a f b : Nat} {R F : Array Value} {l : List UInt8} (h : Wr w a f b R F l u) (size : Nat) (h8 : size ≤ 8) (x y z : Int) (hlen : l.length + 24 ≤ 140737488355328) :
    Calls Tryz.prog 122 #[.pointer (some ⟨b, 0, none⟩), .int .i64 (size : Int), .slice (some ⟨u.heap.size, 0, none⟩) 3 3] (u.alloc (.cells #[.int .i64 x, .int .i64 y, .int .i64 z] 3)) fun e w' => e = .returned (.tuple #[]) ∧ Wr w a f b R F (l ++ (Rc.p x size ++ (Rc.p y size ++ Rc.p z size))) w' := by
  refine (h.put size h8 [x, y, z] (by simpa using hlen)).mono ?_
  rintro e w' ⟨rfl, h3⟩
  exact ⟨rfl, by simpa using h3⟩
theorem Wr.texts {w u : World} {a f b : Nat} {R F : Array Value} {l : List UInt8} (h : Wr w a f b R F l u) (xs : List ByteArray) (hx : ∀ s ∈ xs, s.size ≤ 65535) (hlen : l.length + xs.length * 65537 ≤ 140737488355328) :
    Calls Tryz.prog 123 #[.pointer (some ⟨b, 0, none⟩), .slice (some ⟨u.heap.size, 0, none⟩) xs.length xs.length] (u.alloc (.cells (xs.map Value.string).toArray 9)) fun e w' => e = .returned (.tuple #[]) ∧ Wr w a f b R F (l ++ xs.flatMap Rc.t) w' := by
  have h2 := h.step (allocB u (.cells (xs.map Value.string).toArray 9))
  refine (wtexts_any (b + 1) b u.heap.size l xs hx _ h2.wr h2.size (heap_alloc_new u _) (by have := h.size; omega) hlen).mono ?_
  rintro e w' ⟨rfl, h3, h4⟩
  exact ⟨rfl, h2.turn h3 h4⟩
theorem Wr.done {w u : World} {a f b : Nat} {R F : Array Value} {l : List UInt8} (h : Wr w a f b R F l u) (h0 : l ≠ []) :
    Calls Tryz.prog 74 #[.pointer (some ⟨b, 0, none⟩)] u fun e w' => e = .returned (.string ⟨l.toArray⟩) ∧ Below w.heap.size w w' := by
  refine (stringW_any (b + 1) b l u h.wr h0).mono ?_
  rintro e w' ⟨rfl, hk⟩
  exact ⟨rfl, (h.turn (h.wr) (KeptW.refl _ _ _)).below.trans (hk.below (by have := h.ab; have := h.low; omega) (by have := h.ab; have := h.low; omega) h.below.size)⟩
theorem wr_new {w w1 : World} {R F : Array Value} (hb1 : Below (w.alloc (.cells R 85)).heap.size (w.alloc (.cells R 85)) w1) :
    Wr w w.heap.size w1.heap.size (w1.heap.size + 1) R F [] ((w1.alloc (.cells F 149)).alloc (.cells #[.pointer none, .slice none 0 0] 160)) := by
  have h1 : Below w.heap.size w w1 := joinB (allocB _ _) hb1
  have hs1 := hb1.size
  simp at hs1
  refine ⟨?_, new21 _ _ _, ?_, ⟨by omega, by omega⟩, Nat.le_refl _, pastAlloc (pastAlloc h1)⟩
  · exact blkOld (blkNew hb1) (pastAlloc (allocB _ _))
  · refine BldW.fresh _ _ _ (Nat.lt_succ_self _) ?_
    have := heap_alloc_new (w1.alloc (.cells F 149)) (.cells #[.pointer none, .slice none 0 0] 160)
    simpa using this
end Go.Proofs.YthfglhafphfhiaaGreat
/- The walk over package rec: body, of every kind but the checkpoint's. -/
namespace Go.Proofs.YthfglhafphfhiaaGreat
open Go.RowKit
set_option maxRecDepth 100000 in
set_option maxHeartbeats 2000000 in
theorem body_bare (kind : Int) (hk : kind = 1 ∨ kind = 5 ∨ kind = 6 ∨ kind = 7) (lsn prev txn page next nu ok os how root ep es : Int) (oo on ek : ByteArray) (ts : List Rc.TxnAt) (ds : List Rc.DirtyAt) (T D : Value) (_zo : oo.size ≤ 65535) (_zn : on.size ≤ 65535) (_ze : ek.size ≤ 65535) (w : World) :
    Calls Tryz.prog 104 #[.agg #[.int .i64 lsn, .int .i64 prev, .int .i64 txn, .int .i64 kind, .int .i64 page, .int .i64 next, .int .i64 nu, .int .i64 ok, .int .i64 os, .string oo, .string on, .int .i64 how, .int .i64 root, .string ek, .int .i64 ep, .int .i64 es, T, D]] w fun e w' => e = .returned (.string ⟨(Rc.bodyB ⟨lsn, prev, txn, kind, page, next, nu, ⟨ok, os, oo, on⟩, how, root, ⟨ek, ep, es⟩, ts, ds⟩).toArray⟩) ∧ Below w.heap.size w w' := by
  have HOF := Lib.hid (fun W => of_any kind W)
  rw [show ofV kind = .tuple #[formV false false false false true, .bool true] from by rcases hk with rfl | rfl | rfl | rfl <;> rfl] at HOF
  have HBB := Lib.hid (show Rc.bodyB ⟨lsn, prev, txn, kind, page, next, nu, ⟨ok, os, oo, on⟩, how, root, ⟨ek, ep, es⟩, ts, ds⟩ = Rc.headB ⟨lsn, prev, txn, kind, page, next, nu, ⟨ok, os, oo, on⟩, how, root, ⟨ek, ep, es⟩, ts, ds⟩ ++ [] from by unfold Rc.bodyB; congr 1; unfold Rc.restB; simp only; rw [if_neg (by omega), if_neg (by omega), if_neg (by omega), if_neg (by omega), if_neg (by omega)])
  clear hk
  generalize Rc.bodyB ⟨lsn, prev, txn, kind, page, next, nu, ⟨ok, os, oo, on⟩, how, root, ⟨ek, ep, es⟩, ts, ds⟩ = bb at HBB ⊢
  go_enter Tryz.func104, Tryz.ntmps104
  go_upto_region 3 with ((go_at_call 112; (with_reducible refine (HOF.out _).mono ?_); rintro e w1 ⟨rfl, hb1⟩))
  have H0 := Lib.hid (wr_new (R := #[.int .i64 lsn, .int .i64 prev, .int .i64 txn, .int .i64 kind, .int .i64 page, .int .i64 next, .int .i64 nu, .int .i64 ok, .int .i64 os, .string oo, .string on, .int .i64 how, .int .i64 root, .string ek, .int .i64 ep, .int .i64 es, T, D]) (F := #[.bool false, .bool false, .bool false, .bool false, .bool true]) hb1)
  obtain ⟨V, hV⟩ : ∃ V, V = (w1.alloc (.cells #[.bool false, .bool false, .bool false, .bool false, .bool true] 149)).alloc (.cells #[.pointer none, .slice none 0 0] 160) := ⟨_, rfl⟩
  rw [← hV] at H0 ⊢
  clear hV
  have hR0 := blkCell H0.out.br
  have hF0 := blkCell H0.out.bf
  clear hb1 HOF
  go_upto_region 4 with ((go_at_call 122; refine (H0.out.put1 1 (by omega) kind (by simp only [List.length_nil]; omega)).mono ?_; rintro e v1 ⟨rfl, hx⟩; have H1 := Lib.hid hx; clear hx; have hR1 := blkCell H1.out.br; have hF1 := blkCell H1.out.bf))
  clear hR0 hF0 H0
  go_upto_region 20 with ((go_at_call 122; refine (H1.out.put3 6 (by omega) lsn prev txn (by simp only [List.length_append, p_size, List.length_nil]; omega)).mono ?_; rintro e v2 ⟨rfl, hx⟩; have H2 := Lib.hid hx; clear hx; have hR2 := blkCell H2.out.br; have hF2 := blkCell H2.out.bf))
  clear hR1 hF1 H1
  go_wp2_with ((go_at_call 74; refine (H2.out.done (by intro h; have := congrArg List.length h; simp only [List.length_append, p_size, List.length_nil] at this; omega)).mono ?_; rintro e w9 ⟨rfl, hb9⟩))
  go_ret
  refine ⟨?_, hb9⟩
  rw [HBB.out]
  simp [Rc.headB]
set_option maxRecDepth 100000 in
set_option maxHeartbeats 2000000 in
theorem body_nest (lsn prev txn page next nu ok os how root ep es : Int) (oo on ek : ByteArray) (ts : List Rc.TxnAt) (ds : List Rc.DirtyAt) (T D : Value) (_zo : oo.size ≤ 65535) (_zn : on.size ≤ 65535) (_ze : ek.size ≤ 65535) (w : World) :
    Calls Tryz.prog 104 #[.agg #[.int .i64 lsn, .int .i64 prev, .int .i64 txn, .int .i64 4, .int .i64 page, .int .i64 next, .int .i64 nu, .int .i64 ok, .int .i64 os, .string oo, .string on, .int .i64 how, .int .i64 root, .string ek, .int .i64 ep, .int .i64 es, T, D]] w fun e w' => e = .returned (.string ⟨(Rc.bodyB ⟨lsn, prev, txn, 4, page, next, nu, ⟨ok, os, oo, on⟩, how, root, ⟨ek, ep, es⟩, ts, ds⟩).toArray⟩) ∧ Below w.heap.size w w' := by
  have HOF := Lib.hid (fun W => of_any 4 W)
  rw [show ofV 4 = .tuple #[formV false false true false true, .bool true] from rfl] at HOF
  have HBB := Lib.hid (show Rc.bodyB ⟨lsn, prev, txn, 4, page, next, nu, ⟨ok, os, oo, on⟩, how, root, ⟨ek, ep, es⟩, ts, ds⟩ = Rc.headB ⟨lsn, prev, txn, 4, page, next, nu, ⟨ok, os, oo, on⟩, how, root, ⟨ek, ep, es⟩, ts, ds⟩ ++ Rc.restB ⟨lsn, prev, txn, 4, page, next, nu, ⟨ok, os, oo, on⟩, how, root, ⟨ek, ep, es⟩, ts, ds⟩ from rfl)
  rw [Rc.restB_4 rfl] at HBB
  generalize Rc.bodyB ⟨lsn, prev, txn, 4, page, next, nu, ⟨ok, os, oo, on⟩, how, root, ⟨ek, ep, es⟩, ts, ds⟩ = bb at HBB ⊢
  go_enter Tryz.func104, Tryz.ntmps104
  go_upto_region 3 with ((go_at_call 112; (with_reducible refine (HOF.out _).mono ?_); rintro e w1 ⟨rfl, hb1⟩))
  have H0 := Lib.hid (wr_new (R := #[.int .i64 lsn, .int .i64 prev, .int .i64 txn, .int .i64 4, .int .i64 page, .int .i64 next, .int .i64 nu, .int .i64 ok, .int .i64 os, .string oo, .string on, .int .i64 how, .int .i64 root, .string ek, .int .i64 ep, .int .i64 es, T, D]) (F := #[.bool false, .bool false, .bool true, .bool false, .bool true]) hb1)
  obtain ⟨V, hV⟩ : ∃ V, V = (w1.alloc (.cells #[.bool false, .bool false, .bool true, .bool false, .bool true] 149)).alloc (.cells #[.pointer none, .slice none 0 0] 160) := ⟨_, rfl⟩
  rw [← hV] at H0 ⊢
  clear hV
  have hR0 := blkCell H0.out.br
  have hF0 := blkCell H0.out.bf
  clear hb1 HOF
  go_upto_region 4 with ((go_at_call 122; refine (H0.out.put1 1 (by omega) 4 (by simp only [List.length_nil]; omega)).mono ?_; rintro e v1 ⟨rfl, hx⟩; have H1 := Lib.hid hx; clear hx; have hR1 := blkCell H1.out.br; have hF1 := blkCell H1.out.bf))
  clear hR0 hF0 H0
  go_upto_region 17 with ((go_at_call 122; refine (H1.out.put3 6 (by omega) lsn prev txn (by simp only [List.length_append, p_size, List.length_nil]; omega)).mono ?_; rintro e v2 ⟨rfl, hx⟩; have H2 := Lib.hid hx; clear hx; have hR2 := blkCell H2.out.br; have hF2 := blkCell H2.out.bf))
  clear hR1 hF1 H1
  go_upto_region 20 with ((go_at_call 122; refine (H2.out.put1 6 (by omega) next (by simp only [List.length_append, p_size, List.length_nil]; omega)).mono ?_; rintro e v3 ⟨rfl, hx⟩; have H3 := Lib.hid hx; clear hx; have hR3 := blkCell H3.out.br; have hF3 := blkCell H3.out.bf))
  clear hR2 hF2 H2
  go_wp2_with ((go_at_call 74; refine (H3.out.done (by intro h; have := congrArg List.length h; simp only [List.length_append, p_size, List.length_nil] at this; omega)).mono ?_; rintro e w9 ⟨rfl, hb9⟩))
  go_ret
  refine ⟨?_, hb9⟩
  rw [HBB.out]
  simp [Rc.headB, List.append_assoc]
end Go.Proofs.YthfglhafphfhiaaGreat
/- The walk over package rec: the lists of a checkpoint. -/
namespace Go.Proofs.YthfglhafphfhiaaGreat
open Go.RowKit
end Go.Proofs.YthfglhafphfhiaaGreat
/- The walk over package rec: body of a checkpoint's record; of any record that may be. -/
namespace Rc
theorem right_sizes {r : Rec} (h : Right r) : r.op.old.size ≤ 65535 ∧ r.op.new.size ≤ 65535 ∧ r.e.key.size ≤ 65535 ∧ r.txns.length ≤ 1048576 ∧ r.dirty.length ≤ 1048576 ∧ 1 ≤ r.kind ∧ r.kind ≤ 9 := by
  have no1 : noOp.old.size = 0 := rfl
  have no2 : noOp.new.size = 0 := rfl
  have no3 : noKey.key.size = 0 := rfl
  cases h with
  | small kind lsn prev txn hk h1 h2 h3 =>
    unfold bare
    refine ⟨by show noOp.old.size ≤ _; omega, by show noOp.new.size ≤ _; omega, by show noKey.key.size ≤ _; omega, by simp, by simp, ?_, ?_⟩ <;> simp only <;> omega
  | change lsn prev txn page op how root e h1 h2 h3 h4 h5 h6 =>
    obtain ⟨_, _, _, o1, o2⟩ := h5
    have h7 : e.key.size ≤ 65535 := by
      rcases h6 with ⟨_, _, h8⟩ | ⟨_, _, _, _, h8⟩
      · simp only at h8; rw [h8]; omega
      · simp only at h8; omega
    exact ⟨by simp only; omega, by simp only; omega, h7, by simp, by simp, by simp only; omega, by simp only; omega⟩
  | clr lsn prev txn page op next h1 h2 h3 h4 h5 h6 =>
    obtain ⟨_, _, _, o1, o2⟩ := h5
    exact ⟨by simp only; omega, by simp only; omega, by show noKey.key.size ≤ _; omega, by simp, by simp, by simp only; omega, by simp only; omega⟩
  | nest lsn prev txn next h1 h2 h3 h6 =>
    exact ⟨by show noOp.old.size ≤ _; omega, by show noOp.new.size ≤ _; omega, by show noKey.key.size ≤ _; omega, by simp, by simp, by simp only; omega, by simp only; omega⟩
  | image lsn prev txn page op h1 h2 h3 h4 h5 =>
    obtain ⟨_, _, _, o1, o2⟩ := h5
    exact ⟨by simp only; omega, by simp only; omega, by show noKey.key.size ≤ _; omega, by simp, by simp, by simp only; omega, by simp only; omega⟩
  | check lsn prev txn n ts ds h1 h2 h3 h4 h5 =>
    obtain ⟨l1, l2, _, _⟩ := h5
    simp only at l1 l2
    exact ⟨by show noOp.old.size ≤ _; omega, by show noOp.new.size ≤ _; omega, by show noKey.key.size ≤ _; omega, by simp only; omega, by simp only; omega, by simp only; omega, by simp only; omega⟩
end Rc
namespace Go.Proofs.YthfglhafphfhiaaGreat
open Go.RowKit
theorem Wr.old {w u v : World} {a f b : Nat} {R F : Array Value} {l : List UInt8} (h : Wr w a f b R F l u) (hk : KeptW (b + 1) b u v) : Below w.heap.size w v :=
  h.below.trans (hk.below (by have := h.ab; have := h.low; omega) (by have := h.ab; have := h.low; omega) h.below.size)
theorem body_any (x : Rc.Rec) (hx : Rc.Right x) (A D : Option Addr) (c d : Nat) (w : World) (hr : RecR w x A c D d) :
    Calls Tryz.prog 104 #[recV x (.slice A x.txns.length c) (.slice D x.dirty.length d)] w fun e w' => e = .returned (.string ⟨(Rc.bodyB x).toArray⟩) ∧ Below w.heap.size w w' := by
  obtain ⟨z1, z2, z3, -, -, -, -⟩ := Rc.right_sizes hx
  obtain ⟨lsn, prev, txn, kind, page, next, nu, ⟨ok, os, oo, on⟩, how, root, ⟨ek, ep, es⟩, ts, ds⟩ := x
  simp only at z1 z2 z3
  have h9 : kind = 4 ∨ (kind = 1 ∨ kind = 5 ∨ kind = 6 ∨ kind = 7) := by have h : kind = 1 ∨ kind = 4 ∨ kind = 5 ∨ kind = 6 ∨ kind = 7 := hr.kd; omega
  rcases h9 with rfl | h9
  · exact body_nest lsn prev txn page next nu ok os how root ep es oo on ek ts ds _ _ z1 z2 z3 w
  · exact body_bare kind h9 lsn prev txn page next nu ok os how root ep es oo on ek ts ds _ _ z1 z2 z3 w
end Go.Proofs.YthfglhafphfhiaaGreat
/- The walk over package rec: Get. -/
namespace Lg
end Lg
namespace Go.Proofs.YthfglhafphfhiaaGreat
open Go.RowKit
/-! walk -/
end Go.Proofs.YthfglhafphfhiaaGreat
/- The walks over package log: sectors. -/
namespace Lg
/-- What has been read of some sectors. -/
structure Acc (d : Dk) (f : Int) (N k : Nat) (l : List UInt8) : Prop where
  le : k ≤ N
  eq : secsD d f N = match secsD d (f + (k : Int)) (N - k) with
    | .ok r => .ok (l ++ r)
    | .error e => .error e
theorem Acc.zero (d : Dk) (f : Int) (N : Nat) : Acc d f N 0 [] := ⟨Nat.zero_le _, by
  simp only [Nat.sub_zero, List.nil_append]
  rw [show f + ((0 : Nat) : Int) = f by omega]
  cases secsD d f N <;> rfl⟩
theorem Acc.next {d : Dk} {f : Int} {N k : Nat} {l : List UInt8} (h : Acc d f N k l) (hk : k < N) (h0 : (readD d (f + (k : Int))).2 = 0) : Acc d f N (k + 1) (l ++ (readD d (f + (k : Int))).1.data.toList) := by
  refine ⟨hk, ?_⟩
  rw [h.eq, show N - k = (N - (k + 1)) + 1 by omega]
  rw [show f + ((k + 1 : Nat) : Int) = f + (k : Int) + 1 by omega]
  conv => lhs; unfold secsD
  rw [if_pos h0]
  cases secsD d (f + (k : Int) + 1) (N - (k + 1)) with
  | ok r => simp only [List.append_assoc]
  | error e => rfl
theorem Acc.fault {d : Dk} {f : Int} {N k : Nat} {l : List UInt8} (h : Acc d f N k l) (hk : k < N) (h0 : (readD d (f + (k : Int))).2 ≠ 0) : secsD d f N = .error (readD d (f + (k : Int))).2 := by
  rw [h.eq, show N - k = (N - (k + 1)) + 1 by omega]
  conv => lhs; unfold secsD
  rw [if_neg h0]
theorem Acc.done {d : Dk} {f : Int} {N : Nat} {l : List UInt8} (h : Acc d f N N l) : secsD d f N = .ok l := by
  rw [h.eq, Nat.sub_self]
  unfold secsD
  simp
end Lg
namespace Go.Proofs.YthfglhafphfhiaaGreat
open Go.RowKit
end Go.Proofs.YthfglhafphfhiaaGreat
/- The walk over package rec: Put. -/
namespace Go.Proofs.YthfglhafphfhiaaGreat
open Go.RowKit
theorem putW (n : Nat) (h : n < 18446744073709551616) (size : Nat) (h8 : size ≤ 8) : (Oct.putB (n : Int) size).data.toList = Oct.putL n size := by
  rw [Oct.putB_list _ _ h8]
  congr 1
  unfold Oct.word
  omega
set_option maxRecDepth 100000 in
theorem seal_any (s : ByteArray) (hs : s.size ≤ 1000000) (w : World) :
    Calls Tryz.prog 65 #[.string s] w fun e w' => ∃ x : ByteArray, e = .returned (.string x) ∧ x.data.toList = Oct.putL (Oct.sumN s.data.toList) 4 ++ s.data.toList ∧ Below w.heap.size w w' := by
  have HS := Lib.hid (fun W => sum_any s (by omega) W)
  have hlt : Oct.sumN s.data.toList < 18446744073709551616 := by have := Oct.sumN_lt s.data.toList; omega
  have hfin0 : (Oct.putB ((Oct.sumN s.data.toList : Nat) : Int) 4).data.toList = Oct.putL (Oct.sumN s.data.toList) 4 := putW _ hlt 4 (by omega)
  generalize Oct.sumN s.data.toList = n at HS hfin0 ⊢
  have HP := Lib.hid (fun W => put_any (n : Int) 4 (by omega) (by omega) W)
  have hsz : (Oct.putB (n : Int) 4).size = 4 := Oct.putB_size _ 4 (by omega)
  have hsum : (Oct.putB (n : Int) 4).size + s.size ≤ 281474976710656 := by omega
  have hfin : (Oct.putB (n : Int) 4 ++ s).data.toList = Oct.putL n 4 ++ s.data.toList := by
    rw [ByteArray.data_append, Array.toList_append, hfin0]
  clear hlt hfin0
  generalize Oct.putB (n : Int) 4 = x at HP hsz hsum hfin
  go_enter Tryz.func65, Tryz.ntmps65
  go_wp2_with (first | (go_at_call 79; refine (HS.out _).mono ?_; rintro e w1 ⟨rfl, rfl⟩) | (go_at_call 66; refine (HP.out _).mono ?_; rintro e w2 ⟨rfl, hb2⟩))
  go_ret
  exact ⟨_, rfl, hfin, hb2⟩
/-- What Put answers. -/
def PutOut (r : Rc.Rec) (w : World) (e : Ending) (w' : World) : Prop :=
  (∃ x : ByteArray, Rc.Right r ∧ e = .returned (.tuple #[.string x, .int .i64 0]) ∧ x.data.toList = Lg.putR r ∨ ¬ Rc.Right r ∧ e = .returned (.tuple #[.string ⟨#[]⟩, .int .i64 1])) ∧ Below w.heap.size w w'
set_option maxRecDepth 100000 in
set_option maxHeartbeats 2000000 in
theorem recput_any (r : Rc.Rec) (A D : Option Addr) (c d : Nat) (w : World) (hr : RecR w r A c D d) :
    Calls Tryz.prog 90 #[recV r (.slice A r.txns.length c) (.slice D r.dirty.length d)] w (PutOut r w) := by
  have HR := Lib.hid (fun W (h : Below w.heap.size w W) => cright_rec r A D c d W (hr.below h))
  have HA := Lib.hid (heap_alloc_new w (.cells (recA r (.slice A r.txns.length c) (.slice D r.dirty.length d)) 85))
  cases hb : Rc.rightB r with
  | false =>
    rw [hb] at HR
    have hno : ¬ Rc.Right r := fun h => by rw [Rc.rightB_yes h] at hb; cases hb
    have HO := Lib.hid (fun w' (h : Below w.heap.size w w') => show PutOut r w (.returned (.tuple #[.string ⟨#[]⟩, .int .i64 1])) w' from ⟨⟨⟨#[]⟩, .inr ⟨hno, rfl⟩⟩, h⟩)
    clear hno hb hr
    generalize PutOut r w = Q at HO ⊢
    obtain ⟨lsn, prev, txn, kind, page, next, nu, ⟨ok, os, oo, on⟩, how, root, ⟨ek, ep, es⟩, ts, ds⟩ := r
    dsimp only [recV, recA] at HR HA ⊢
    go_enter Tryz.func90, Tryz.ntmps90
    go_wp2_with (first
      | (with_reducible refine listLoad (by kernel_rfl) 85 (.tmp 1) rfl w.heap.size rfl #[.int .i64 lsn, .int .i64 prev, .int .i64 txn, .int .i64 kind, .int .i64 page, .int .i64 next, .int .i64 nu, .int .i64 ok, .int .i64 os, .string oo, .string on, .int .i64 how, .int .i64 root, .string ek, .int .i64 ep, .int .i64 es, .slice A ts.length c, .slice D ds.length d] _ HA.out _ Tryz.underlying85 (by kernel_rfl) (by kernel_rfl) ?_)
      | (go_at_call 103; (with_reducible refine (HR.out _ (allocB _ _)).mono ?_); rintro e w1 ⟨rfl, hb1⟩))
    exact HO.out _ (joinB (allocB _ _) hb1)
  | true =>
    rw [hb] at HR
    have hx : Rc.Right r := Rc.rightB_iff.1 hb
    have HB := Lib.hid (fun W (h : Below w.heap.size w W) => body_any r hx A D c d W (hr.below h))
    obtain ⟨y, hy⟩ : ∃ y : ByteArray, y = ⟨(Rc.bodyB r).toArray⟩ := ⟨_, rfl⟩
    rw [← hy] at HB
    have hyl : y.data.toList = Rc.bodyB r := by rw [hy]
    have hlen := Rc.bodyB_len hx
    have hys : y.size = (Rc.bodyB r).length := by rw [← hyl]; simp
    have hsz : y.size ≤ 1000000 := by omega
    have HS := Lib.hid (fun W => seal_any y hsz W)
    have HP := Lib.hid (fun W => put_any (y.size : Int) 4 (by omega) (by omega) W)
    have hpl : (Oct.putB (y.size : Int) 4).data.toList = Oct.putL y.size 4 := putW _ (by omega) 4 (by omega)
    have hpz : (Oct.putB (y.size : Int) 4).size = 4 := Oct.putB_size _ 4 (by omega)
    generalize Oct.putB (y.size : Int) 4 = z at HP hpl hpz
    have HO := Lib.hid (fun w' (x : ByteArray) (hxx : x.data.toList = Oct.putL (Oct.sumN y.data.toList) 4 ++ y.data.toList) (h : Below w.heap.size w w') => show PutOut r w (.returned (.tuple #[.string (z ++ x), .int .i64 0])) w' from ⟨⟨z ++ x, .inl ⟨hx, rfl, by rw [ByteArray.data_append, Array.toList_append, hpl, hxx, hyl, hys]; rfl⟩⟩, h⟩)
    have HX := Lib.hid (fun (x : ByteArray) (hxx : x.data.toList = Oct.putL (Oct.sumN y.data.toList) 4 ++ y.data.toList) => show x.size ≤ 1000004 from by
      have e : x.size = x.data.toList.length := by simp
      rw [e, hxx, List.length_append, Oct.putL_length]
      have e2 : y.data.toList.length = y.size := by simp
      omega)
    clear hx hb hr hy hyl hlen hys hpl
    generalize PutOut r w = Q at HO ⊢
    obtain ⟨lsn, prev, txn, kind, page, next, nu, ⟨ok, os, oo, on⟩, how, root, ⟨ek, ep, es⟩, ts, ds⟩ := r
    dsimp only [recV, recA] at HR HA HB ⊢
    go_enter Tryz.func90, Tryz.ntmps90
    go_upto_region 3 with (first
      | (with_reducible refine listLoad (by kernel_rfl) 85 (.tmp 1) rfl w.heap.size rfl #[.int .i64 lsn, .int .i64 prev, .int .i64 txn, .int .i64 kind, .int .i64 page, .int .i64 next, .int .i64 nu, .int .i64 ok, .int .i64 os, .string oo, .string on, .int .i64 how, .int .i64 root, .string ek, .int .i64 ep, .int .i64 es, .slice A ts.length c, .slice D ds.length d] _ HA.out _ Tryz.underlying85 (by kernel_rfl) (by kernel_rfl) ?_)
      | (go_at_call 103; (with_reducible refine (HR.out _ (allocB _ _)).mono ?_); rintro e w1 ⟨rfl, hb1⟩))
    have HA1 := Lib.hid (blkOld HA.out hb1)
    have HB1 := Lib.hid (joinB (allocB w _) hb1)
    clear hb1 HA HR
    go_upto_region 4 with (first
      | (with_reducible refine listLoad (by kernel_rfl) 85 (.tmp 1) rfl w.heap.size rfl #[.int .i64 lsn, .int .i64 prev, .int .i64 txn, .int .i64 kind, .int .i64 page, .int .i64 next, .int .i64 nu, .int .i64 ok, .int .i64 os, .string oo, .string on, .int .i64 how, .int .i64 root, .string ek, .int .i64 ep, .int .i64 es, .slice A ts.length c, .slice D ds.length d] _ HA1.out _ Tryz.underlying85 (by kernel_rfl) (by kernel_rfl) ?_)
      | (go_at_call 104; (with_reducible refine (HB.out _ HB1.out).mono ?_); rintro e w2 ⟨rfl, hb2⟩))
    have HB2 := Lib.hid (joinB HB1.out hb2)
    clear hb2 HB1 HA1 HB
    go_wp2_with (first | (go_at_call 66; refine (HP.out _).mono ?_; rintro e w3 ⟨rfl, hb3⟩) | (go_at_call 65; refine (HS.out _).mono ?_; rintro e w4 ⟨x, rfl, hxx, hb4⟩; have hxs := HX.out x hxx; have hsum : z.size + x.size ≤ 281474976710656 := (by omega)))
    exact HO.out _ x hxx (joinB (joinB HB2.out hb3) hb4)
end Go.Proofs.YthfglhafphfhiaaGreat
