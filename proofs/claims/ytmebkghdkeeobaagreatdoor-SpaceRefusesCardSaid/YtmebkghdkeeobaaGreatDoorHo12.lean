import Derived.Test.YtmebkghdkeeobaaGreatDoorHo00
import Derived.Test.YtmebkghdkeeobaaGreatDoorHo11
import Derived.Test.YtmebkghdkeeobaaGreatDoorHo02
import Derived.Test.YtmebkghdkeeobaaGreatDoorHo01
import Derived.Deep.DeepCutAuto
import Derived.Test.YtmebkghdkeeobaaGreatDoorHo04
set_option maxRecDepth 100000
set_option maxHeartbeats 16000000
set_option linter.unusedSimpArgs false
namespace Go.Proofs.YtmebkghdkeeobaaGreatDoor
open Go.RowKit
structure Cop where
  kind : Int
  slot : Int
  old : ByteArray
  new : ByteArray
def noPage : ByteArray × Bool := (⟨#[]⟩, false)
def okB (x : ByteArray × Int) : ByteArray × Bool := (x.1, decide (x.2 = 0))
def oldIs (p : ByteArray) (o : Cop) : Bool := !decide ((Pg.slotAt (leafP p).recs o.slot).size = 0) && decide (o.old = Pg.slotAt (leafP p).recs o.slot)
def wholeO (p : ByteArray) (o : Cop) : ByteArray × Bool :=
  if o.slot = 0 ∧ o.old = lsnB p 0 ∧ ¬ o.new.size = 0 ∧ lsnB o.new 0 = o.new then (lsnB o.new ((leafP p).lsn : Nat), !decide ((lsnB o.new ((leafP p).lsn : Nat)).size = 0)) else noPage
def madeO (p : ByteArray) (o : Cop) : ByteArray × Bool :=
  if o.kind = 3 then (if oldIs p o then okB (setO p o.slot o.new) else noPage) else if o.kind = 7 then wholeO p o else noPage
def rightO (p : ByteArray) (o : Cop) : Bool := isPg p && (madeO p o).2
def doO (p : ByteArray) (o : Cop) : ByteArray × Int := if rightO p o then ((madeO p o).1, 0) else (⟨#[]⟩, 1)
theorem plain_any (p : ByteArray) (hm : p.size ≤ 140737488355328) (w : World) :
    Calls Tryz.prog 215 #[.string p] w fun e w' => e = .returned (.string (lsnB p 0)) ∧ Below w.heap.size w w' := by
  have HS := Lib.hid (fun W => setlsn_any p 0 hm W)
  generalize lsnB p 0 = q at HS ⊢
  go_enter Tryz.func215, Tryz.ntmps215
  go_wp2_with (go_at_call 18; refine (HS.out _).mono ?_; rintro e w1 ⟨rfl, hb⟩)
  go_ret
  exact ⟨rfl, hb⟩
abbrev copV (o : Cop) : Value := .agg #[.int .i64 o.kind, .int .i64 o.slot, .string o.old, .string o.new]
structure HeldC (X : Nat) (o : Cop) (w0 u : World) : Prop where
  c0 : u.cell? ⟨X, 0, none⟩ = some (.int .i64 o.kind)
  c1 : u.cell? ⟨X, 1, none⟩ = some (.int .i64 o.slot)
  c2 : u.cell? ⟨X, 2, none⟩ = some (.string o.old)
  c3 : u.cell? ⟨X, 3, none⟩ = some (.string o.new)
  lt : X < u.heap.size
  below : Below w0.heap.size w0 u
abbrev HeldCV (X : Nat) (o : Cop) (w0 u : World) : Prop :=
  u.cell? ⟨X, 0, none⟩ = some (.int .i64 o.kind) ∧ u.cell? ⟨X, 1, none⟩ = some (.int .i64 o.slot) ∧ u.cell? ⟨X, 2, none⟩ = some (.string o.old) ∧ u.cell? ⟨X, 3, none⟩ = some (.string o.new) ∧ HeldC X o w0 u
theorem HeldC.step {X : Nat} {o : Cop} {w0 u v : World} (h : HeldC X o w0 u) (hb : Below u.heap.size u v) : HeldC X o w0 v :=
  ⟨by rw [hb.cell (p := ⟨X, 0, none⟩) h.lt]; exact h.c0, by rw [hb.cell (p := ⟨X, 1, none⟩) h.lt]; exact h.c1, by rw [hb.cell (p := ⟨X, 2, none⟩) h.lt]; exact h.c2, by rw [hb.cell (p := ⟨X, 3, none⟩) h.lt]; exact h.c3, Nat.lt_of_lt_of_le h.lt hb.size, joinB h.below hb⟩
theorem HeldC.v {X : Nat} {o : Cop} {w0 u : World} (h : HeldC X o w0 u) : HeldCV X o w0 u := ⟨h.c0, h.c1, h.c2, h.c3, h⟩
theorem heldC_new (w : World) (o : Cop) (T : TypeId) : HeldC w.heap.size o w (w.alloc (.cells #[.int .i64 o.kind, .int .i64 o.slot, .string o.old, .string o.new] T)) := by
  have h := heap_alloc_new w (.cells #[.int .i64 o.kind, .int .i64 o.slot, .string o.old, .string o.new] T)
  exact ⟨by rw [blkCell h]; rfl, by rw [blkCell h]; rfl, by rw [blkCell h]; rfl, by rw [blkCell h]; rfl, by simp, allocB _ _⟩
theorem toList_nil (a : ByteArray) : a.toList = [] ↔ a.size = 0 := by
  rw [ByteArray.toList_eq]
  have h : a.data.toList.length = a.size := by simp
  constructor
  · intro e; rw [e] at h; exact h.symm
  · intro e; exact List.eq_nil_of_length_eq_zero (by omega)
theorem cstr_ne {a b : ByteArray} (h : a ≠ b) : (a.toList == b.toList) = false := by
  rw [ByteArray.toList_eq, ByteArray.toList_eq]
  exact beq_eq_false_iff_ne.2 (fun e => h (ByteArray.ext (Array.toList_inj.1 e)))
theorem cstr_nil {a : ByteArray} (h : a.size = 0) : a.toList = [] ∧ a.toList.isEmpty = true ∧ (a.toList == []) = true := by
  have := (toList_nil a).2 h
  rw [this]; simp
theorem cstr_some {a : ByteArray} (h : a.size ≠ 0) : ¬ a.toList = [] ∧ a.toList.isEmpty = false ∧ (a.toList == []) = false := by
  have h2 : ¬ a.toList = [] := fun e => h ((toList_nil a).1 e)
  exact ⟨h2, by simpa using h2, by simpa using h2⟩
set_option maxRecDepth 100000 in
set_option maxHeartbeats 1000000 in
theorem whole_any (p : ByteArray) (o : Cop) (hp : p.size ≤ 140737488355328) (ho : o.new.size ≤ 140737488355328) (w : World) :
    Calls Tryz.prog 197 #[.string p, copV o] w fun e w' => e = .returned (.tuple #[.string (wholeO p o).1, .bool (wholeO p o).2]) ∧ Below w.heap.size w w' := by
  have HP := Lib.hid (fun W => plain_any p hp W)
  have HN := Lib.hid (fun W => plain_any o.new ho W)
  have HL := Lib.hid (fun W => lsn_any p hp W)
  have HS := Lib.hid (fun W => setlsn_any o.new ((leafP p).lsn : Nat) ho W)
  have HX := Lib.hid (heldC_new w o 89)
  obtain ⟨R, hR⟩ : ∃ R, R = wholeO p o := ⟨_, rfl⟩
  rw [← hR]
  have HR := Lib.hid hR
  clear hR
  have HRn := Lib.hid (fun h => HR.out.trans (if_neg h))
  have HRy := Lib.hid (fun h => HR.out.trans (if_pos h))
  clear HR
  obtain ⟨kind, slot, old, new⟩ := o
  dsimp only [copV] at HN HS HX HRn HRy ⊢
  generalize lsnB p 0 = pp at HP HRn HRy
  generalize lsnB new 0 = np at HN HRn HRy
  generalize ((leafP p).lsn : Nat) = l at HL HS HRy
  generalize lsnB new (l : Int) = q at HS HRy
  by_cases h1 : slot = 0
  rotate_left
  · have HF := Lib.hid (HRn.out (fun h => h1 h.1))
    have hne1 : (slot == 0) = false := by simp [h1]
    have hne2 : (slot != 0) = true := by simp [h1]
    clear h1 HRn HRy
    go_enter Tryz.func197, Tryz.ntmps197
    go_upto_region 1 with (fail)
    generalize w.alloc (.cells #[.int .i64 kind, .int .i64 slot, .string old, .string new] 89) = V at HX ⊢
    refine wp_region_held_drew (S := (fun u => HeldCV w.heap.size ⟨kind, slot, old, new⟩ w u)) (by kernel_rfl) ?_ (fun hHeld => ?_)
    · first | exact HX.out.v | exact hSn | exact (HX.out.step (Below.refl _ _).drew).v | exact (HX.out.step (drewB _ _)).v
    refine tkW 0 (some 7) (v := ?_) rfl ?_ ?_
    rotate_left
    · intro w hSw; (try dsimp only at hSw); go_simp; (try with_reducible rfl)
    try simp only [Act.put, List.setIfInBounds_toArray, List.set_cons_zero, List.set_cons_succ]
    refine tkW 1 (some 8) (v := ?_) rfl ?_ ?_
    rotate_left
    · intro w hSw; (try dsimp only at hSw); go_simp; (try with_reducible rfl)
    try simp only [Act.put, List.setIfInBounds_toArray, List.set_cons_zero, List.set_cons_succ]
    refine tkW 2 (some 9) (v := ?_) rfl ?_ ?_
    rotate_left
    · intro w hSw; (try dsimp only at hSw); go_simp; (try with_reducible rfl)
    try simp only [Act.put, List.setIfInBounds_toArray, List.set_cons_zero, List.set_cons_succ]
    refine tkW 3 (some 10) (v := ?_) rfl ?_ ?_
    rotate_left
    · intro w hSw; (try dsimp only at hSw); go_simp; (try with_reducible rfl)
    try simp only [Act.put, List.setIfInBounds_toArray, List.set_cons_zero, List.set_cons_succ]
    refine tkO 4 (some 11) rfl ?_
    try simp only [Act.put, List.setIfInBounds_toArray, List.set_cons_zero, List.set_cons_succ]
    refine tkO 5 (some 12) rfl ?_
    try simp only [Act.put, List.setIfInBounds_toArray, List.set_cons_zero, List.set_cons_succ]
    refine tkO 6 (some 13) rfl ?_
    try simp only [Act.put, List.setIfInBounds_toArray, List.set_cons_zero, List.set_cons_succ]
    refine tkO 7 (some 14) rfl ?_
    try simp only [Act.put, List.setIfInBounds_toArray, List.set_cons_zero, List.set_cons_succ]
    refine tkO 8 (some 15) rfl ?_
    try simp only [Act.put, List.setIfInBounds_toArray, List.set_cons_zero, List.set_cons_succ]
    refine tkW 9 (some 16) (v := ?_) rfl ?_ ?_
    rotate_left
    · intro w hSw; (try dsimp only at hSw); go_simp; (try with_reducible rfl)
    try simp only [Act.put, List.setIfInBounds_toArray, List.set_cons_zero, List.set_cons_succ]
    refine tkW 10 (some 17) (v := ?_) rfl ?_ ?_
    rotate_left
    · intro w hSw; (try dsimp only at hSw); go_simp; (try with_reducible rfl)
    try simp only [Act.put, List.setIfInBounds_toArray, List.set_cons_zero, List.set_cons_succ]
    refine tkO 11 (some 18) rfl ?_
    try simp only [Act.put, List.setIfInBounds_toArray, List.set_cons_zero, List.set_cons_succ]
    refine tkO 12 (some 19) rfl ?_
    try simp only [Act.put, List.setIfInBounds_toArray, List.set_cons_zero, List.set_cons_succ]
    refine tkO 13 (some 20) rfl ?_
    try simp only [Act.put, List.setIfInBounds_toArray, List.set_cons_zero, List.set_cons_succ]
    refine tkW 14 (some 21) (v := ?_) rfl ?_ ?_
    rotate_left
    · intro w hSw; (try dsimp only at hSw); go_simp; (try with_reducible rfl)
    try simp only [Act.put, List.setIfInBounds_toArray, List.set_cons_zero, List.set_cons_succ]
    refine tkW 15 (some 22) (v := ?_) rfl ?_ ?_
    rotate_left
    · intro w hSw; (try dsimp only at hSw); go_simp; (try with_reducible rfl)
    try simp only [Act.put, List.setIfInBounds_toArray, List.set_cons_zero, List.set_cons_succ]
    refine tkO 16 (some 23) rfl ?_
    try simp only [Act.put, List.setIfInBounds_toArray, List.set_cons_zero, List.set_cons_succ]
    refine tkO 17 (some 24) rfl ?_
    try simp only [Act.put, List.setIfInBounds_toArray, List.set_cons_zero, List.set_cons_succ]
    refine tkO 18 (some 25) rfl ?_
    try simp only [Act.put, List.setIfInBounds_toArray, List.set_cons_zero, List.set_cons_succ]
    refine tkO 19 (some 26) rfl ?_
    try simp only [Act.put, List.setIfInBounds_toArray, List.set_cons_zero, List.set_cons_succ]
    refine tkO 20 (some 27) rfl ?_
    try simp only [Act.put, List.setIfInBounds_toArray, List.set_cons_zero, List.set_cons_succ]
    refine tkO 21 (some 28) rfl ?_
    try simp only [Act.put, List.setIfInBounds_toArray, List.set_cons_zero, List.set_cons_succ]
    refine tkW 22 (some 29) (v := ?_) rfl ?_ ?_
    rotate_left
    · intro w hSw; (try dsimp only at hSw); go_simp; (try with_reducible rfl)
    try simp only [Act.put, List.setIfInBounds_toArray, List.set_cons_zero, List.set_cons_succ]
    refine wpAnyH_done (by kernel_rfl) ?_ _
    go_wp2_with fail
    go_ret2
    exact ⟨by rw [HF.out]; rfl, hHeld.2.2.2.2.below⟩
  · subst h1
    by_cases h2 : old = pp
    rotate_left
    · have HF := Lib.hid (HRn.out (fun h => h2 h.2.1))
      have hq := cstr_ne h2
      clear h2 HRn HRy
      go_enter Tryz.func197, Tryz.ntmps197
      go_upto_region 1 with (fail)
      generalize w.alloc (.cells #[.int .i64 kind, .int .i64 0, .string old, .string new] 89) = V at HX ⊢
      refine wp_region_held_drew (S := (fun u => HeldCV w.heap.size ⟨kind, 0, old, new⟩ w u)) (by kernel_rfl) ?_ (fun hHeld => ?_)
      · first | exact HX.out.v | exact hSn | exact (HX.out.step (Below.refl _ _).drew).v | exact (HX.out.step (drewB _ _)).v
      refine tkW 0 (some 7) (v := ?_) rfl ?_ ?_
      rotate_left
      · intro w hSw; (try dsimp only at hSw); go_simp; (try with_reducible rfl)
      try simp only [Act.put, List.setIfInBounds_toArray, List.set_cons_zero, List.set_cons_succ]
      refine tkW 1 (some 8) (v := ?_) rfl ?_ ?_
      rotate_left
      · intro w hSw; (try dsimp only at hSw); go_simp; (try with_reducible rfl)
      try simp only [Act.put, List.setIfInBounds_toArray, List.set_cons_zero, List.set_cons_succ]
      refine tkW 2 (some 9) (v := ?_) rfl ?_ ?_
      rotate_left
      · intro w hSw; (try dsimp only at hSw); go_simp; (try with_reducible rfl)
      try simp only [Act.put, List.setIfInBounds_toArray, List.set_cons_zero, List.set_cons_succ]
      refine tkW 3 (some 10) (v := ?_) rfl ?_ ?_
      rotate_left
      · intro w hSw; (try dsimp only at hSw); go_simp; (try with_reducible rfl)
      try simp only [Act.put, List.setIfInBounds_toArray, List.set_cons_zero, List.set_cons_succ]
      refine tkW 4 (some 11) (v := ?_) rfl ?_ ?_
      rotate_left
      · intro w hSw; (try dsimp only at hSw); go_simp; (try with_reducible rfl)
      try simp only [Act.put, List.setIfInBounds_toArray, List.set_cons_zero, List.set_cons_succ]
      refine tkW 5 (some 12) (v := ?_) rfl ?_ ?_
      rotate_left
      · intro w hSw; (try dsimp only at hSw); go_simp; (try with_reducible rfl)
      try simp only [Act.put, List.setIfInBounds_toArray, List.set_cons_zero, List.set_cons_succ]
      refine tkW 6 (some 13) (v := ?_) rfl ?_ ?_
      rotate_left
      · intro w hSw; (try dsimp only at hSw); go_simp; (try with_reducible rfl)
      try simp only [Act.put, List.setIfInBounds_toArray, List.set_cons_zero, List.set_cons_succ]
      refine rdH 7 (some 14) rfl (fun K hK => ?_)
      go_simp
      refine (HP.out _).mono ?_; rintro e w2 ⟨rfl, hb2⟩; have hSn := (hHeld.2.2.2.2.step hb2).v; clear hHeld hb2; try go_simp
      refine hK.out _ _ ?_ (fun hHeld => ?_)
      · first | exact HX.out.v | exact hSn | exact (HX.out.step (Below.refl _ _).drew).v | exact (HX.out.step (drewB _ _)).v
      clear hK K
      try simp only [Act.put, List.setIfInBounds_toArray, List.set_cons_zero, List.set_cons_succ]
      refine tkW 8 (some 15) (v := ?_) rfl ?_ ?_
      rotate_left
      · intro w hSw; (try dsimp only at hSw); go_simp; (try with_reducible rfl)
      try simp only [Act.put, List.setIfInBounds_toArray, List.set_cons_zero, List.set_cons_succ]
      refine tkW 9 (some 16) (v := ?_) rfl ?_ ?_
      rotate_left
      · intro w hSw; (try dsimp only at hSw); go_simp; (try with_reducible rfl)
      try simp only [Act.put, List.setIfInBounds_toArray, List.set_cons_zero, List.set_cons_succ]
      refine tkW 10 (some 17) (v := ?_) rfl ?_ ?_
      rotate_left
      · intro w hSw; (try dsimp only at hSw); go_simp; (try with_reducible rfl)
      try simp only [Act.put, List.setIfInBounds_toArray, List.set_cons_zero, List.set_cons_succ]
      refine tkO 11 (some 18) rfl ?_
      try simp only [Act.put, List.setIfInBounds_toArray, List.set_cons_zero, List.set_cons_succ]
      refine tkO 12 (some 19) rfl ?_
      try simp only [Act.put, List.setIfInBounds_toArray, List.set_cons_zero, List.set_cons_succ]
      refine tkO 13 (some 20) rfl ?_
      try simp only [Act.put, List.setIfInBounds_toArray, List.set_cons_zero, List.set_cons_succ]
      refine tkW 14 (some 21) (v := ?_) rfl ?_ ?_
      rotate_left
      · intro w hSw; (try dsimp only at hSw); go_simp; (try with_reducible rfl)
      try simp only [Act.put, List.setIfInBounds_toArray, List.set_cons_zero, List.set_cons_succ]
      refine tkW 15 (some 22) (v := ?_) rfl ?_ ?_
      rotate_left
      · intro w hSw; (try dsimp only at hSw); go_simp; (try with_reducible rfl)
      try simp only [Act.put, List.setIfInBounds_toArray, List.set_cons_zero, List.set_cons_succ]
      refine tkO 16 (some 23) rfl ?_
      try simp only [Act.put, List.setIfInBounds_toArray, List.set_cons_zero, List.set_cons_succ]
      refine tkO 17 (some 24) rfl ?_
      try simp only [Act.put, List.setIfInBounds_toArray, List.set_cons_zero, List.set_cons_succ]
      refine tkO 18 (some 25) rfl ?_
      try simp only [Act.put, List.setIfInBounds_toArray, List.set_cons_zero, List.set_cons_succ]
      refine tkO 19 (some 26) rfl ?_
      try simp only [Act.put, List.setIfInBounds_toArray, List.set_cons_zero, List.set_cons_succ]
      refine tkO 20 (some 27) rfl ?_
      try simp only [Act.put, List.setIfInBounds_toArray, List.set_cons_zero, List.set_cons_succ]
      refine tkO 21 (some 28) rfl ?_
      try simp only [Act.put, List.setIfInBounds_toArray, List.set_cons_zero, List.set_cons_succ]
      refine tkW 22 (some 29) (v := ?_) rfl ?_ ?_
      rotate_left
      · intro w hSw; (try dsimp only at hSw); go_simp; (try with_reducible rfl)
      try simp only [Act.put, List.setIfInBounds_toArray, List.set_cons_zero, List.set_cons_succ]
      refine wpAnyH_done (by kernel_rfl) ?_ _
      go_wp2_with fail
      go_ret2
      exact ⟨by rw [HF.out]; rfl, hHeld.2.2.2.2.below⟩
    · subst h2
      have hq : (old.toList == old.toList) = true := beq_self_eq_true _
      by_cases h3 : new.size = 0
      · have HF := Lib.hid (HRn.out (fun h => h.2.2.1 h3))
        obtain ⟨z1, z2, z3⟩ := cstr_nil h3
        clear h3 HRn HRy
        go_enter Tryz.func197, Tryz.ntmps197
        go_upto_region 1 with (fail)
        generalize w.alloc (.cells #[.int .i64 kind, .int .i64 0, .string old, .string new] 89) = V at HX ⊢
        refine wp_region_held_drew (S := (fun u => HeldCV w.heap.size ⟨kind, 0, old, new⟩ w u)) (by kernel_rfl) ?_ (fun hHeld => ?_)
        · first | exact HX.out.v | exact hSn | exact (HX.out.step (Below.refl _ _).drew).v | exact (HX.out.step (drewB _ _)).v
        refine tkW 0 (some 7) (v := ?_) rfl ?_ ?_
        rotate_left
        · intro w hSw; (try dsimp only at hSw); go_simp; (try with_reducible rfl)
        try simp only [Act.put, List.setIfInBounds_toArray, List.set_cons_zero, List.set_cons_succ]
        refine tkW 1 (some 8) (v := ?_) rfl ?_ ?_
        rotate_left
        · intro w hSw; (try dsimp only at hSw); go_simp; (try with_reducible rfl)
        try simp only [Act.put, List.setIfInBounds_toArray, List.set_cons_zero, List.set_cons_succ]
        refine tkW 2 (some 9) (v := ?_) rfl ?_ ?_
        rotate_left
        · intro w hSw; (try dsimp only at hSw); go_simp; (try with_reducible rfl)
        try simp only [Act.put, List.setIfInBounds_toArray, List.set_cons_zero, List.set_cons_succ]
        refine tkW 3 (some 10) (v := ?_) rfl ?_ ?_
        rotate_left
        · intro w hSw; (try dsimp only at hSw); go_simp; (try with_reducible rfl)
        try simp only [Act.put, List.setIfInBounds_toArray, List.set_cons_zero, List.set_cons_succ]
        refine tkW 4 (some 11) (v := ?_) rfl ?_ ?_
        rotate_left
        · intro w hSw; (try dsimp only at hSw); go_simp; (try with_reducible rfl)
        try simp only [Act.put, List.setIfInBounds_toArray, List.set_cons_zero, List.set_cons_succ]
        refine tkW 5 (some 12) (v := ?_) rfl ?_ ?_
        rotate_left
        · intro w hSw; (try dsimp only at hSw); go_simp; (try with_reducible rfl)
        try simp only [Act.put, List.setIfInBounds_toArray, List.set_cons_zero, List.set_cons_succ]
        refine tkW 6 (some 13) (v := ?_) rfl ?_ ?_
        rotate_left
        · intro w hSw; (try dsimp only at hSw); go_simp; (try with_reducible rfl)
        try simp only [Act.put, List.setIfInBounds_toArray, List.set_cons_zero, List.set_cons_succ]
        refine rdH 7 (some 14) rfl (fun K hK => ?_)
        go_simp
        refine (HP.out _).mono ?_; rintro e w2 ⟨rfl, hb2⟩; have hSn := (hHeld.2.2.2.2.step hb2).v; clear hHeld hb2; try go_simp
        refine hK.out _ _ ?_ (fun hHeld => ?_)
        · first | exact HX.out.v | exact hSn | exact (HX.out.step (Below.refl _ _).drew).v | exact (HX.out.step (drewB _ _)).v
        clear hK K
        try simp only [Act.put, List.setIfInBounds_toArray, List.set_cons_zero, List.set_cons_succ]
        refine tkW 8 (some 15) (v := ?_) rfl ?_ ?_
        rotate_left
        · intro w hSw; (try dsimp only at hSw); go_simp; (try with_reducible rfl)
        try simp only [Act.put, List.setIfInBounds_toArray, List.set_cons_zero, List.set_cons_succ]
        refine tkW 9 (some 16) (v := ?_) rfl ?_ ?_
        rotate_left
        · intro w hSw; (try dsimp only at hSw); go_simp; (try with_reducible rfl)
        try simp only [Act.put, List.setIfInBounds_toArray, List.set_cons_zero, List.set_cons_succ]
        refine tkW 10 (some 17) (v := ?_) rfl ?_ ?_
        rotate_left
        · intro w hSw; (try dsimp only at hSw); go_simp; (try with_reducible rfl)
        try simp only [Act.put, List.setIfInBounds_toArray, List.set_cons_zero, List.set_cons_succ]
        refine tkW 11 (some 18) (v := ?_) rfl ?_ ?_
        rotate_left
        · intro w hSw; (try dsimp only at hSw); go_simp; (try with_reducible rfl)
        try simp only [Act.put, List.setIfInBounds_toArray, List.set_cons_zero, List.set_cons_succ]
        refine tkW 12 (some 19) (v := ?_) rfl ?_ ?_
        rotate_left
        · intro w hSw; (try dsimp only at hSw); go_simp; (try with_reducible rfl)
        try simp only [Act.put, List.setIfInBounds_toArray, List.set_cons_zero, List.set_cons_succ]
        refine tkW 13 (some 20) (v := ?_) rfl ?_ ?_
        rotate_left
        · intro w hSw; (try dsimp only at hSw); go_simp; (try with_reducible rfl)
        try simp only [Act.put, List.setIfInBounds_toArray, List.set_cons_zero, List.set_cons_succ]
        refine tkW 14 (some 21) (v := ?_) rfl ?_ ?_
        rotate_left
        · intro w hSw; (try dsimp only at hSw); go_simp; (try with_reducible rfl)
        try simp only [Act.put, List.setIfInBounds_toArray, List.set_cons_zero, List.set_cons_succ]
        refine tkW 15 (some 22) (v := ?_) rfl ?_ ?_
        rotate_left
        · intro w hSw; (try dsimp only at hSw); go_simp; (try with_reducible rfl)
        try simp only [Act.put, List.setIfInBounds_toArray, List.set_cons_zero, List.set_cons_succ]
        refine tkO 16 (some 23) rfl ?_
        try simp only [Act.put, List.setIfInBounds_toArray, List.set_cons_zero, List.set_cons_succ]
        refine tkO 17 (some 24) rfl ?_
        try simp only [Act.put, List.setIfInBounds_toArray, List.set_cons_zero, List.set_cons_succ]
        refine tkO 18 (some 25) rfl ?_
        try simp only [Act.put, List.setIfInBounds_toArray, List.set_cons_zero, List.set_cons_succ]
        refine tkO 19 (some 26) rfl ?_
        try simp only [Act.put, List.setIfInBounds_toArray, List.set_cons_zero, List.set_cons_succ]
        refine tkO 20 (some 27) rfl ?_
        try simp only [Act.put, List.setIfInBounds_toArray, List.set_cons_zero, List.set_cons_succ]
        refine tkO 21 (some 28) rfl ?_
        try simp only [Act.put, List.setIfInBounds_toArray, List.set_cons_zero, List.set_cons_succ]
        refine tkW 22 (some 29) (v := ?_) rfl ?_ ?_
        rotate_left
        · intro w hSw; (try dsimp only at hSw); go_simp; (try with_reducible rfl)
        try simp only [Act.put, List.setIfInBounds_toArray, List.set_cons_zero, List.set_cons_succ]
        refine wpAnyH_done (by kernel_rfl) ?_ _
        go_wp2_with fail
        go_ret2
        exact ⟨by rw [HF.out]; rfl, hHeld.2.2.2.2.below⟩
      · obtain ⟨z1, z2, z3⟩ := cstr_some h3
        by_cases h4 : np = new
        rotate_left
        · have HF := Lib.hid (HRn.out (fun h => h4 h.2.2.2))
          have hq2 := cstr_ne h4
          clear h4 h3 HRn HRy
          go_enter Tryz.func197, Tryz.ntmps197
          go_upto_region 1 with (fail)
          generalize w.alloc (.cells #[.int .i64 kind, .int .i64 0, .string old, .string new] 89) = V at HX ⊢
          refine wp_region_held_drew (S := (fun u => HeldCV w.heap.size ⟨kind, 0, old, new⟩ w u)) (by kernel_rfl) ?_ (fun hHeld => ?_)
          · first | exact HX.out.v | exact hSn | exact (HX.out.step (Below.refl _ _).drew).v | exact (HX.out.step (drewB _ _)).v
          refine tkW 0 (some 7) (v := ?_) rfl ?_ ?_
          rotate_left
          · intro w hSw; (try dsimp only at hSw); go_simp; (try with_reducible rfl)
          try simp only [Act.put, List.setIfInBounds_toArray, List.set_cons_zero, List.set_cons_succ]
          refine tkW 1 (some 8) (v := ?_) rfl ?_ ?_
          rotate_left
          · intro w hSw; (try dsimp only at hSw); go_simp; (try with_reducible rfl)
          try simp only [Act.put, List.setIfInBounds_toArray, List.set_cons_zero, List.set_cons_succ]
          refine tkW 2 (some 9) (v := ?_) rfl ?_ ?_
          rotate_left
          · intro w hSw; (try dsimp only at hSw); go_simp; (try with_reducible rfl)
          try simp only [Act.put, List.setIfInBounds_toArray, List.set_cons_zero, List.set_cons_succ]
          refine tkW 3 (some 10) (v := ?_) rfl ?_ ?_
          rotate_left
          · intro w hSw; (try dsimp only at hSw); go_simp; (try with_reducible rfl)
          try simp only [Act.put, List.setIfInBounds_toArray, List.set_cons_zero, List.set_cons_succ]
          refine tkW 4 (some 11) (v := ?_) rfl ?_ ?_
          rotate_left
          · intro w hSw; (try dsimp only at hSw); go_simp; (try with_reducible rfl)
          try simp only [Act.put, List.setIfInBounds_toArray, List.set_cons_zero, List.set_cons_succ]
          refine tkW 5 (some 12) (v := ?_) rfl ?_ ?_
          rotate_left
          · intro w hSw; (try dsimp only at hSw); go_simp; (try with_reducible rfl)
          try simp only [Act.put, List.setIfInBounds_toArray, List.set_cons_zero, List.set_cons_succ]
          refine tkW 6 (some 13) (v := ?_) rfl ?_ ?_
          rotate_left
          · intro w hSw; (try dsimp only at hSw); go_simp; (try with_reducible rfl)
          try simp only [Act.put, List.setIfInBounds_toArray, List.set_cons_zero, List.set_cons_succ]
          refine rdH 7 (some 14) rfl (fun K hK => ?_)
          go_simp
          refine (HP.out _).mono ?_; rintro e w2 ⟨rfl, hb2⟩; have hSn := (hHeld.2.2.2.2.step hb2).v; clear hHeld hb2; try go_simp
          refine hK.out _ _ ?_ (fun hHeld => ?_)
          · first | exact HX.out.v | exact hSn | exact (HX.out.step (Below.refl _ _).drew).v | exact (HX.out.step (drewB _ _)).v
          clear hK K
          try simp only [Act.put, List.setIfInBounds_toArray, List.set_cons_zero, List.set_cons_succ]
          refine tkW 8 (some 15) (v := ?_) rfl ?_ ?_
          rotate_left
          · intro w hSw; (try dsimp only at hSw); go_simp; (try with_reducible rfl)
          try simp only [Act.put, List.setIfInBounds_toArray, List.set_cons_zero, List.set_cons_succ]
          refine tkW 9 (some 16) (v := ?_) rfl ?_ ?_
          rotate_left
          · intro w hSw; (try dsimp only at hSw); go_simp; (try with_reducible rfl)
          try simp only [Act.put, List.setIfInBounds_toArray, List.set_cons_zero, List.set_cons_succ]
          refine tkW 10 (some 17) (v := ?_) rfl ?_ ?_
          rotate_left
          · intro w hSw; (try dsimp only at hSw); go_simp; (try with_reducible rfl)
          try simp only [Act.put, List.setIfInBounds_toArray, List.set_cons_zero, List.set_cons_succ]
          refine tkW 11 (some 18) (v := ?_) rfl ?_ ?_
          rotate_left
          · intro w hSw; (try dsimp only at hSw); go_simp; (try with_reducible rfl)
          try simp only [Act.put, List.setIfInBounds_toArray, List.set_cons_zero, List.set_cons_succ]
          refine tkW 12 (some 19) (v := ?_) rfl ?_ ?_
          rotate_left
          · intro w hSw; (try dsimp only at hSw); go_simp; (try with_reducible rfl)
          try simp only [Act.put, List.setIfInBounds_toArray, List.set_cons_zero, List.set_cons_succ]
          refine tkW 13 (some 20) (v := ?_) rfl ?_ ?_
          rotate_left
          · intro w hSw; (try dsimp only at hSw); go_simp; (try with_reducible rfl)
          try simp only [Act.put, List.setIfInBounds_toArray, List.set_cons_zero, List.set_cons_succ]
          refine tkW 14 (some 21) (v := ?_) rfl ?_ ?_
          rotate_left
          · intro w hSw; (try dsimp only at hSw); go_simp; (try with_reducible rfl)
          try simp only [Act.put, List.setIfInBounds_toArray, List.set_cons_zero, List.set_cons_succ]
          refine tkW 15 (some 22) (v := ?_) rfl ?_ ?_
          rotate_left
          · intro w hSw; (try dsimp only at hSw); go_simp; (try with_reducible rfl)
          try simp only [Act.put, List.setIfInBounds_toArray, List.set_cons_zero, List.set_cons_succ]
          refine tkW 16 (some 23) (v := ?_) rfl ?_ ?_
          rotate_left
          · intro w hSw; (try dsimp only at hSw); go_simp; (try with_reducible rfl)
          try simp only [Act.put, List.setIfInBounds_toArray, List.set_cons_zero, List.set_cons_succ]
          refine tkW 17 (some 24) (v := ?_) rfl ?_ ?_
          rotate_left
          · intro w hSw; (try dsimp only at hSw); go_simp; (try with_reducible rfl)
          try simp only [Act.put, List.setIfInBounds_toArray, List.set_cons_zero, List.set_cons_succ]
          refine tkW 19 (some 26) (v := ?_) rfl ?_ ?_
          rotate_left
          · intro w hSw; (try dsimp only at hSw); go_simp; (try with_reducible rfl)
          try simp only [Act.put, List.setIfInBounds_toArray, List.set_cons_zero, List.set_cons_succ]
          refine tkW 20 (some 27) (v := ?_) rfl ?_ ?_
          rotate_left
          · intro w hSw; (try dsimp only at hSw); go_simp; (try with_reducible rfl)
          try simp only [Act.put, List.setIfInBounds_toArray, List.set_cons_zero, List.set_cons_succ]
          refine rdH 18 (some 25) rfl (fun K hK => ?_)
          go_simp
          refine (HN.out _).mono ?_; rintro e w2 ⟨rfl, hb2⟩; have hSn := (hHeld.2.2.2.2.step hb2).v; clear hHeld hb2; try go_simp
          refine hK.out _ _ ?_ (fun hHeld => ?_)
          · first | exact HX.out.v | exact hSn | exact (HX.out.step (Below.refl _ _).drew).v | exact (HX.out.step (drewB _ _)).v
          clear hK K
          try simp only [Act.put, List.setIfInBounds_toArray, List.set_cons_zero, List.set_cons_succ]
          refine tkW 21 (some 28) (v := ?_) rfl ?_ ?_
          rotate_left
          · intro w hSw; (try dsimp only at hSw); go_simp; (try with_reducible rfl)
          try simp only [Act.put, List.setIfInBounds_toArray, List.set_cons_zero, List.set_cons_succ]
          refine tkW 22 (some 29) (v := ?_) rfl ?_ ?_
          rotate_left
          · intro w hSw; (try dsimp only at hSw); go_simp; (try with_reducible rfl)
          try simp only [Act.put, List.setIfInBounds_toArray, List.set_cons_zero, List.set_cons_succ]
          refine wpAnyH_done (by kernel_rfl) ?_ _
          go_wp2_with fail
          go_ret2
          exact ⟨by rw [HF.out]; rfl, hHeld.2.2.2.2.below⟩
        · subst h4
          have hq2 : (np.toList == np.toList) = true := beq_self_eq_true _
          have HF := Lib.hid (HRy.out ⟨rfl, rfl, h3, rfl⟩)
          clear h3 HRn HRy
          go_enter Tryz.func197, Tryz.ntmps197
          go_upto_region 1 with (fail)
          generalize w.alloc (.cells #[.int .i64 kind, .int .i64 0, .string old, .string np] 89) = V at HX ⊢
          refine wp_region_held_drew (S := (fun u => HeldCV w.heap.size ⟨kind, 0, old, np⟩ w u)) (by kernel_rfl) ?_ (fun hHeld => ?_)
          · first | exact HX.out.v | exact hSn | exact (HX.out.step (Below.refl _ _).drew).v | exact (HX.out.step (drewB _ _)).v
          refine tkW 0 (some 7) (v := ?_) rfl ?_ ?_
          rotate_left
          · intro w hSw; (try dsimp only at hSw); go_simp; (try with_reducible rfl)
          try simp only [Act.put, List.setIfInBounds_toArray, List.set_cons_zero, List.set_cons_succ]
          refine tkW 1 (some 8) (v := ?_) rfl ?_ ?_
          rotate_left
          · intro w hSw; (try dsimp only at hSw); go_simp; (try with_reducible rfl)
          try simp only [Act.put, List.setIfInBounds_toArray, List.set_cons_zero, List.set_cons_succ]
          refine tkW 2 (some 9) (v := ?_) rfl ?_ ?_
          rotate_left
          · intro w hSw; (try dsimp only at hSw); go_simp; (try with_reducible rfl)
          try simp only [Act.put, List.setIfInBounds_toArray, List.set_cons_zero, List.set_cons_succ]
          refine tkW 3 (some 10) (v := ?_) rfl ?_ ?_
          rotate_left
          · intro w hSw; (try dsimp only at hSw); go_simp; (try with_reducible rfl)
          try simp only [Act.put, List.setIfInBounds_toArray, List.set_cons_zero, List.set_cons_succ]
          refine tkW 4 (some 11) (v := ?_) rfl ?_ ?_
          rotate_left
          · intro w hSw; (try dsimp only at hSw); go_simp; (try with_reducible rfl)
          try simp only [Act.put, List.setIfInBounds_toArray, List.set_cons_zero, List.set_cons_succ]
          refine tkW 5 (some 12) (v := ?_) rfl ?_ ?_
          rotate_left
          · intro w hSw; (try dsimp only at hSw); go_simp; (try with_reducible rfl)
          try simp only [Act.put, List.setIfInBounds_toArray, List.set_cons_zero, List.set_cons_succ]
          refine tkW 6 (some 13) (v := ?_) rfl ?_ ?_
          rotate_left
          · intro w hSw; (try dsimp only at hSw); go_simp; (try with_reducible rfl)
          try simp only [Act.put, List.setIfInBounds_toArray, List.set_cons_zero, List.set_cons_succ]
          refine rdH 7 (some 14) rfl (fun K hK => ?_)
          go_simp
          refine (HP.out _).mono ?_; rintro e w2 ⟨rfl, hb2⟩; have hSn := (hHeld.2.2.2.2.step hb2).v; clear hHeld hb2; try go_simp
          refine hK.out _ _ ?_ (fun hHeld => ?_)
          · first | exact HX.out.v | exact hSn | exact (HX.out.step (Below.refl _ _).drew).v | exact (HX.out.step (drewB _ _)).v
          clear hK K
          try simp only [Act.put, List.setIfInBounds_toArray, List.set_cons_zero, List.set_cons_succ]
          refine tkW 8 (some 15) (v := ?_) rfl ?_ ?_
          rotate_left
          · intro w hSw; (try dsimp only at hSw); go_simp; (try with_reducible rfl)
          try simp only [Act.put, List.setIfInBounds_toArray, List.set_cons_zero, List.set_cons_succ]
          refine tkW 9 (some 16) (v := ?_) rfl ?_ ?_
          rotate_left
          · intro w hSw; (try dsimp only at hSw); go_simp; (try with_reducible rfl)
          try simp only [Act.put, List.setIfInBounds_toArray, List.set_cons_zero, List.set_cons_succ]
          refine tkW 10 (some 17) (v := ?_) rfl ?_ ?_
          rotate_left
          · intro w hSw; (try dsimp only at hSw); go_simp; (try with_reducible rfl)
          try simp only [Act.put, List.setIfInBounds_toArray, List.set_cons_zero, List.set_cons_succ]
          refine tkW 11 (some 18) (v := ?_) rfl ?_ ?_
          rotate_left
          · intro w hSw; (try dsimp only at hSw); go_simp; (try with_reducible rfl)
          try simp only [Act.put, List.setIfInBounds_toArray, List.set_cons_zero, List.set_cons_succ]
          refine tkW 12 (some 19) (v := ?_) rfl ?_ ?_
          rotate_left
          · intro w hSw; (try dsimp only at hSw); go_simp; (try with_reducible rfl)
          try simp only [Act.put, List.setIfInBounds_toArray, List.set_cons_zero, List.set_cons_succ]
          refine tkW 13 (some 20) (v := ?_) rfl ?_ ?_
          rotate_left
          · intro w hSw; (try dsimp only at hSw); go_simp; (try with_reducible rfl)
          try simp only [Act.put, List.setIfInBounds_toArray, List.set_cons_zero, List.set_cons_succ]
          refine tkW 14 (some 21) (v := ?_) rfl ?_ ?_
          rotate_left
          · intro w hSw; (try dsimp only at hSw); go_simp; (try with_reducible rfl)
          try simp only [Act.put, List.setIfInBounds_toArray, List.set_cons_zero, List.set_cons_succ]
          refine tkW 15 (some 22) (v := ?_) rfl ?_ ?_
          rotate_left
          · intro w hSw; (try dsimp only at hSw); go_simp; (try with_reducible rfl)
          try simp only [Act.put, List.setIfInBounds_toArray, List.set_cons_zero, List.set_cons_succ]
          refine tkW 16 (some 23) (v := ?_) rfl ?_ ?_
          rotate_left
          · intro w hSw; (try dsimp only at hSw); go_simp; (try with_reducible rfl)
          try simp only [Act.put, List.setIfInBounds_toArray, List.set_cons_zero, List.set_cons_succ]
          refine tkW 17 (some 24) (v := ?_) rfl ?_ ?_
          rotate_left
          · intro w hSw; (try dsimp only at hSw); go_simp; (try with_reducible rfl)
          try simp only [Act.put, List.setIfInBounds_toArray, List.set_cons_zero, List.set_cons_succ]
          refine tkW 19 (some 26) (v := ?_) rfl ?_ ?_
          rotate_left
          · intro w hSw; (try dsimp only at hSw); go_simp; (try with_reducible rfl)
          try simp only [Act.put, List.setIfInBounds_toArray, List.set_cons_zero, List.set_cons_succ]
          refine tkW 20 (some 27) (v := ?_) rfl ?_ ?_
          rotate_left
          · intro w hSw; (try dsimp only at hSw); go_simp; (try with_reducible rfl)
          try simp only [Act.put, List.setIfInBounds_toArray, List.set_cons_zero, List.set_cons_succ]
          refine rdH 18 (some 25) rfl (fun K hK => ?_)
          go_simp
          refine (HN.out _).mono ?_; rintro e w2 ⟨rfl, hb2⟩; have hSn := (hHeld.2.2.2.2.step hb2).v; clear hHeld hb2; try go_simp
          refine hK.out _ _ ?_ (fun hHeld => ?_)
          · first | exact HX.out.v | exact hSn | exact (HX.out.step (Below.refl _ _).drew).v | exact (HX.out.step (drewB _ _)).v
          clear hK K
          try simp only [Act.put, List.setIfInBounds_toArray, List.set_cons_zero, List.set_cons_succ]
          refine tkW 21 (some 28) (v := ?_) rfl ?_ ?_
          rotate_left
          · intro w hSw; (try dsimp only at hSw); go_simp; (try with_reducible rfl)
          try simp only [Act.put, List.setIfInBounds_toArray, List.set_cons_zero, List.set_cons_succ]
          refine tkW 22 (some 29) (v := ?_) rfl ?_ ?_
          rotate_left
          · intro w hSw; (try dsimp only at hSw); go_simp; (try with_reducible rfl)
          try simp only [Act.put, List.setIfInBounds_toArray, List.set_cons_zero, List.set_cons_succ]
          refine wpAnyH_done (by kernel_rfl) ?_ _
          have HX2 := Lib.hid hHeld.2.2.2.2
          clear hHeld hSn
          go_upto_region 3 with (fail)
          refine wp_region_held_drew (S := (fun u => HeldCV w.heap.size ⟨kind, 0, old, np⟩ w u)) (by kernel_rfl) ?_ (fun hHeld => ?_)
          · first | exact HX2.out.v | exact hSn | exact (HX2.out.step (Below.refl _ _).drew).v | exact (HX2.out.step (drewB _ _)).v
          refine tkW 0 (some 30) (v := ?_) rfl ?_ ?_
          rotate_left
          · intro w hSw; (try dsimp only at hSw); go_simp; (try with_reducible rfl)
          try simp only [Act.put, List.setIfInBounds_toArray, List.set_cons_zero, List.set_cons_succ]
          refine tkW 1 (some 31) (v := ?_) rfl ?_ ?_
          rotate_left
          · intro w hSw; (try dsimp only at hSw); go_simp; (try with_reducible rfl)
          try simp only [Act.put, List.setIfInBounds_toArray, List.set_cons_zero, List.set_cons_succ]
          refine tkW 2 (some 32) (v := ?_) rfl ?_ ?_
          rotate_left
          · intro w hSw; (try dsimp only at hSw); go_simp; (try with_reducible rfl)
          try simp only [Act.put, List.setIfInBounds_toArray, List.set_cons_zero, List.set_cons_succ]
          refine rdH 3 (some 33) rfl (fun K hK => ?_)
          go_simp
          refine (HL.out _).mono ?_; rintro e w2 ⟨rfl, hb2⟩; have hSn := (hHeld.2.2.2.2.step hb2).v; clear hHeld hb2; try go_simp
          refine hK.out _ _ ?_ (fun hHeld => ?_)
          · first | exact HX2.out.v | exact hSn | exact (HX2.out.step (Below.refl _ _).drew).v | exact (HX2.out.step (drewB _ _)).v
          clear hK K
          try simp only [Act.put, List.setIfInBounds_toArray, List.set_cons_zero, List.set_cons_succ]
          refine rdH 4 (some 34) rfl (fun K hK => ?_)
          go_simp
          refine (HS.out _).mono ?_; rintro e w2 ⟨rfl, hb2⟩; have hSn := (hHeld.2.2.2.2.step hb2).v; clear hHeld hb2; try go_simp
          refine hK.out _ _ ?_ (fun hHeld => ?_)
          · first | exact HX2.out.v | exact hSn | exact (HX2.out.step (Below.refl _ _).drew).v | exact (HX2.out.step (drewB _ _)).v
          clear hK K
          try simp only [Act.put, List.setIfInBounds_toArray, List.set_cons_zero, List.set_cons_succ]
          refine tkW 5 (some 6) (v := ?_) rfl ?_ ?_
          rotate_left
          · intro w hSw; (try dsimp only at hSw); go_simp; (try with_reducible rfl)
          try simp only [Act.put, List.setIfInBounds_toArray, List.set_cons_zero, List.set_cons_succ]
          refine wpAnyH_done (by kernel_rfl) ?_ _
          by_cases h5 : q.size = 0
          · obtain ⟨y1, y2, y3⟩ := cstr_nil h5
            have HQ := Lib.hid (decide_eq_true h5)
            clear h5
            go_wp2_with fail
            go_ret2
            exact ⟨by rw [HF.out, HQ.out]; simp, hHeld.2.2.2.2.below⟩
          · obtain ⟨y1, y2, y3⟩ := cstr_some h5
            have HQ := Lib.hid (decide_eq_false h5)
            clear h5
            go_wp2_with fail
            go_ret2
            exact ⟨by rw [HF.out, HQ.out]; simp, hHeld.2.2.2.2.below⟩
set_option maxRecDepth 100000 in
set_option maxHeartbeats 1000000 in
theorem made_3 (p : ByteArray) (o : Cop) (hk : o.kind = 3) (hp : p.size ≤ 140737488355328) (ho : o.new.size ≤ 140737488355328) (w : World) :
    Calls Tryz.prog 158 #[.string p, copV o] w fun e w' => e = .returned (.tuple #[.string (madeO p o).1, .bool (madeO p o).2]) ∧ Below w.heap.size w w' := by
  have HX := Lib.hid (heldC_new w o 89)
  have HG := Lib.hid (fun W => get_any_rec p o.slot hp W)
  obtain ⟨R, hR⟩ : ∃ R, R = madeO p o := ⟨_, rfl⟩
  rw [← hR]
  have HR := Lib.hid (hR.trans (show madeO p o = if oldIs p o then okB (setO p o.slot o.new) else noPage by unfold madeO; rw [hk]; rfl))
  have HC := Lib.hid (fun W => pset_any p o.slot o.new hp W)
  generalize setO p o.slot o.new = x at HC HR
  obtain ⟨qx, ex⟩ := x
  unfold outV at HC
  have HO := Lib.hid (show oldIs p o = (!decide ((Pg.slotAt (leafP p).recs o.slot).size = 0) && decide (o.old = Pg.slotAt (leafP p).recs o.slot)) from rfl)
  generalize oldIs p o = oi at HO HR
  generalize (!decide ((Pg.slotAt (leafP p).recs o.slot).size = 0)) = th at HO HG
  generalize Pg.slotAt (leafP p).recs o.slot = r at HO HG
  obtain ⟨kind, slot, old, new⟩ := o
  dsimp only [copV] at HX HG HO HR hk HC ⊢
  subst hk
  clear hR
  go_enter Tryz.func158, Tryz.ntmps158
  go_upto_region 2 with (go_at_call 57; refine (HG.out _).mono ?_; rintro e w1 ⟨rfl, hb1⟩)
  have H1 := Lib.hid (HX.out.step hb1)
  clear HX hb1
  obtain ⟨c0, c1, c2, c3, -⟩ := H1.out.v
  dsimp only at c0 c1 c2 c3
  go_cut [8] (fun s we => s = .bool oi ∧ w1 = we)
  case first =>
    cases th with
    | false =>
      have HO2 := Lib.hid (HO.out.trans (Bool.false_and _))
      go_wp2_with fail
      go_meet
      case rel => exact ⟨by rw [HO2.out], rfl⟩
    | true =>
      by_cases he : old = r
      · subst he
        have hq : (old.toList == old.toList) = true := beq_self_eq_true _
        have HO2 := Lib.hid (HO.out.trans (show _ = true by simp))
        go_wp2_with fail
        go_meet
        case rel => exact ⟨by rw [HO2.out], rfl⟩
      · have hq := cstr_ne he
        have HO2 := Lib.hid (HO.out.trans (show _ = false by simp [he]))
        clear he
        go_wp2_with fail
        go_meet
        case rel => exact ⟨by rw [HO2.out], rfl⟩
  case rest =>
    obtain ⟨rfl, rfl⟩ := hcut
    clear HO HG
    cases oi with
    | true =>
      have HF := Lib.hid (HR.out.trans (if_pos rfl))
      clear HR
      go_wp2_with ((go_at_call 193; refine (HC.out _).mono ?_; rintro e w2 ⟨rfl, hb2⟩))
      go_ret2
      exact ⟨by rw [HF.out]; rfl, joinB H1.out.below hb2⟩
    | false =>
      have HF := Lib.hid (HR.out.trans (if_neg (by simp)))
      clear HR
      go_wp2_with fail
      go_ret2
      exact ⟨by rw [HF.out]; rfl, H1.out.below⟩
set_option maxRecDepth 100000 in
set_option maxHeartbeats 1000000 in
theorem made_7 (p : ByteArray) (o : Cop) (hk : o.kind = 7) (hp : p.size ≤ 140737488355328) (ho : o.new.size ≤ 140737488355328) (w : World) :
    Calls Tryz.prog 158 #[.string p, copV o] w fun e w' => e = .returned (.tuple #[.string (madeO p o).1, .bool (madeO p o).2]) ∧ Below w.heap.size w w' := by
  have HX := Lib.hid (heldC_new w o 89)
  have HG := Lib.hid (fun W => get_any_rec p o.slot hp W)
  obtain ⟨R, hR⟩ : ∃ R, R = madeO p o := ⟨_, rfl⟩
  rw [← hR]
  have HR := Lib.hid (hR.trans (show madeO p o = wholeO p o by unfold madeO; rw [hk]; rfl))
  have HC := Lib.hid (fun W => whole_any p o hp ho W)
  generalize wholeO p o = x at HC HR
  obtain ⟨qx, bx⟩ := x
  have HO := Lib.hid (show oldIs p o = (!decide ((Pg.slotAt (leafP p).recs o.slot).size = 0) && decide (o.old = Pg.slotAt (leafP p).recs o.slot)) from rfl)
  generalize oldIs p o = oi at HO HR
  generalize (!decide ((Pg.slotAt (leafP p).recs o.slot).size = 0)) = th at HO HG
  generalize Pg.slotAt (leafP p).recs o.slot = r at HO HG
  obtain ⟨kind, slot, old, new⟩ := o
  dsimp only [copV] at HX HG HO HR hk HC ⊢
  subst hk
  clear hR
  go_enter Tryz.func158, Tryz.ntmps158
  go_upto_region 2 with (go_at_call 57; refine (HG.out _).mono ?_; rintro e w1 ⟨rfl, hb1⟩)
  have H1 := Lib.hid (HX.out.step hb1)
  clear HX hb1
  obtain ⟨c0, c1, c2, c3, -⟩ := H1.out.v
  dsimp only at c0 c1 c2 c3
  go_cut [8] (fun s we => s = .bool oi ∧ w1 = we)
  case first =>
    cases th with
    | false =>
      have HO2 := Lib.hid (HO.out.trans (Bool.false_and _))
      go_wp2_with fail
      go_meet
      case rel => exact ⟨by rw [HO2.out], rfl⟩
    | true =>
      by_cases he : old = r
      · subst he
        have hq : (old.toList == old.toList) = true := beq_self_eq_true _
        have HO2 := Lib.hid (HO.out.trans (show _ = true by simp))
        go_wp2_with fail
        go_meet
        case rel => exact ⟨by rw [HO2.out], rfl⟩
      · have hq := cstr_ne he
        have HO2 := Lib.hid (HO.out.trans (show _ = false by simp [he]))
        clear he
        go_wp2_with fail
        go_meet
        case rel => exact ⟨by rw [HO2.out], rfl⟩
  case rest =>
    obtain ⟨rfl, rfl⟩ := hcut
    clear HO HG
    go_wp2_with ((go_at_call 197; refine (HC.out _).mono ?_; rintro e w2 ⟨rfl, hb2⟩))
    go_ret2
    exact ⟨by rw [HR.out]; rfl, joinB H1.out.below hb2⟩
theorem made_cop (p : ByteArray) (o : Cop) (hk : o.kind = 3 ∨ o.kind = 7) (hp : p.size ≤ 140737488355328) (ho : o.new.size ≤ 140737488355328) (w : World) :
    Calls Tryz.prog 158 #[.string p, copV o] w fun e w' => e = .returned (.tuple #[.string (madeO p o).1, .bool (madeO p o).2]) ∧ Below w.heap.size w w' := by
  rcases hk with hk | hk
  · exact made_3 p o hk hp ho w
  · exact made_7 p o hk hp ho w
set_option maxHeartbeats 1000000 in
theorem cright_any (p : ByteArray) (o : Cop) (hk : o.kind = 3 ∨ o.kind = 7) (hp : p.size ≤ 140737488355328) (ho : o.new.size ≤ 140737488355328) (w : World) :
    Calls Tryz.prog 157 #[.string p, copV o] w fun e w' => e = .returned (.bool (rightO p o)) ∧ Below w.heap.size w w' := by
  have HM := Lib.hid (fun W => made_cop p o hk hp ho W)
  have HR := Lib.hid (fun W => right_any p hp W)
  unfold rightO
  generalize isPg p = b at HR ⊢
  generalize madeO p o = x at HM ⊢
  obtain ⟨qx, bx⟩ := x
  obtain ⟨kind, slot, old, new⟩ := o
  dsimp only [copV] at HM ⊢
  clear ho
  cases b with
  | true =>
    go_enter Tryz.func157, Tryz.ntmps157
    go_wp2_with (first | (go_at_call 158; refine (HM.out _).mono ?_; rintro e w1 ⟨rfl, hb1⟩) | (go_at_call 136; refine (HR.out _).mono ?_; rintro e w2 ⟨rfl, hb2⟩))
    go_ret
    exact ⟨by simp, joinB (joinB (allocB _ _) hb1) hb2⟩
  | false =>
    go_enter Tryz.func157, Tryz.ntmps157
    go_wp2_with (first | (go_at_call 158; refine (HM.out _).mono ?_; rintro e w1 ⟨rfl, hb1⟩) | (go_at_call 136; refine (HR.out _).mono ?_; rintro e w2 ⟨rfl, hb2⟩))
    go_ret
    exact ⟨by simp, joinB (joinB (allocB _ _) hb1) hb2⟩
theorem do_yes {p : ByteArray} {o : Cop} (h : rightO p o = true) : doO p o = ((madeO p o).1, 0) := by unfold doO; rw [if_pos h]
theorem do_no {p : ByteArray} {o : Cop} (h : rightO p o = false) : doO p o = (⟨#[]⟩, 1) := by unfold doO; rw [if_neg (by rw [h]; simp)]
set_option maxHeartbeats 1000000 in
theorem do_any (p : ByteArray) (o : Cop) (hk : o.kind = 3 ∨ o.kind = 7) (hp : p.size ≤ 140737488355328) (ho : o.new.size ≤ 140737488355328) (w : World) :
    Calls Tryz.prog 132 #[.string p, copV o] w fun e w' => e = .returned (outV (doO p o)) ∧ Below w.heap.size w w' := by
  have HM := Lib.hid (fun W => made_cop p o hk hp ho W)
  have HR := Lib.hid (fun W => cright_any p o hk hp ho W)
  have HX := Lib.hid (heldC_new w o 89)
  have HY := Lib.hid (fun h => do_yes (p := p) (o := o) h)
  have HN := Lib.hid (fun h => do_no (p := p) (o := o) h)
  generalize doO p o = R at HY HN ⊢
  generalize rightO p o = b at HR HY HN
  generalize madeO p o = x at HM HY
  obtain ⟨qx, bx⟩ := x
  obtain ⟨kind, slot, old, new⟩ := o
  dsimp only [copV] at HM HR HX ⊢
  clear ho
  cases b with
  | true =>
    have HF := Lib.hid (HY.out rfl)
    clear HY HN
    go_enter Tryz.func132, Tryz.ntmps132
    go_wp2_with (first | (go_at_call 157; refine (HR.out _).mono ?_; rintro e w1 ⟨rfl, hb1⟩; obtain ⟨c0, c1, c2, c3, -⟩ := (HX.out.step hb1).v; dsimp only at c0 c1 c2 c3) | (go_at_call 158; refine (HM.out _ ).mono ?_; rintro e w2 ⟨rfl, hb2⟩))
    go_ret2
    exact ⟨by rw [HF.out]; rfl, joinB (joinB (allocB _ _) hb1) hb2⟩
  | false =>
    have HF := Lib.hid (HN.out rfl)
    clear HY HN
    go_enter Tryz.func132, Tryz.ntmps132
    go_wp2_with ((go_at_call 157; refine (HR.out _).mono ?_; rintro e w1 ⟨rfl, hb1⟩))
    go_ret2
    exact ⟨by rw [HF.out]; rfl, joinB (allocB _ _) hb1⟩
theorem do_set {p b r : ByteArray} (hp : Nrm p) (h1 : (leafP p).recs = [b]) (hb : b.size ≠ 0) (hr : r.size ≠ 0) (hs : r.size ≤ 400) :
    doO p ⟨3, 0, b, r⟩ = (pageB { leafP p with recs := [r] }, 0) ∧ Nrm (pageB { leafP p with recs := [r] }) ∧ leafP (pageB { leafP p with recs := [r] }) = { leafP p with recs := [r] } := by
  obtain ⟨h2, h3⟩ := set_nrm hp h1 hb hr hs
  refine ⟨?_, h3⟩
  have hsl : Pg.slotAt (leafP p).recs 0 = b := by rw [h1]; rfl
  have ho : oldIs p ⟨3, 0, b, r⟩ = true := by
    unfold oldIs
    simp only
    rw [hsl, decide_eq_false hb, decide_eq_true rfl]; rfl
  have hm : madeO p ⟨3, 0, b, r⟩ = (pageB { leafP p with recs := [r] }, true) := by
    unfold madeO
    rw [if_pos rfl, ho, if_pos rfl]
    simp only
    rw [h2]; rfl
  have hr2 : rightO p ⟨3, 0, b, r⟩ = true := by unfold rightO; rw [hm, hp.is]; rfl
  rw [do_yes hr2, hm]
theorem do_all {p q : ByteArray} (hp : Nrm p) (hq : Nrm q) (h0 : (leafP q).lsn = 0) :
    doO p ⟨7, 0, lsnB p 0, q⟩ = (lsnB q ((leafP p).lsn : Nat), 0) ∧ Nrm (lsnB q ((leafP p).lsn : Nat)) ∧ leafP (lsnB q ((leafP p).lsn : Nat)) = ⟨(leafP p).lsn, (leafP q).kind, (leafP q).link, (leafP q).recs⟩ := by
  have hw := whole_nrm hp.is hq.is
  refine ⟨?_, hw⟩
  have hz : lsnB q 0 = q := by have := hq.pl; unfold plB at this; rw [h0] at this; exact this
  have hm : madeO p ⟨7, 0, lsnB p 0, q⟩ = (lsnB q ((leafP p).lsn : Nat), true) := by
    unfold madeO
    rw [if_neg (show ¬ (7 : Int) = 3 by decide), if_pos rfl]
    unfold wholeO
    rw [if_pos ⟨rfl, rfl, by simp only; rw [hq.size]; decide, hz⟩]
    simp only
    rw [decide_eq_false (by rw [hw.1.size]; decide)]; rfl
  have hr2 : rightO p ⟨7, 0, lsnB p 0, q⟩ = true := by unfold rightO; rw [hm, hp.is]; rfl
  rw [do_yes hr2, hm]
theorem lsn_again {p : ByteArray} (hp : Nrm p) {l : Int} (hl : Rc.num l) : Nrm (lsnB p l) ∧ leafP (lsnB p l) = ⟨l.toNat, (leafP p).kind, (leafP p).link, (leafP p).recs⟩ := by
  have h := nrm_lsn hp.is (l := l.toNat) (by have := hl.2; omega)
  rw [show ((l.toNat : Nat) : Int) = l from by have := hl.1; omega] at h
  exact h
end Go.Proofs.YtmebkghdkeeobaaGreatDoor
