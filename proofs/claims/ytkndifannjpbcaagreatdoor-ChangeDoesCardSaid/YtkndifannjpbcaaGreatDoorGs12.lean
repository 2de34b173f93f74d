/- The walks over the statements of chapter 40: their parts. -/
import Derived.Test.YtkndifannjpbcaaGreatDoorGs10
import Derived.Test.YtkndifannjpbcaaGreatDoorGs11
namespace Go.Proofs.YtkndifannjpbcaaGreatDoor
open Go.RowKit
theorem cop_equal (a b : Cop) (w : World) : (Op.equalIn 10000 23 (copV a) (copV b)).run Tryz.prog w = .ok (decide (a.kind = b.kind ∧ a.slot = b.slot ∧ a.old = b.old ∧ a.new = b.new)) w := by
  obtain ⟨k1, p1, s1, t1⟩ := a
  obtain ⟨k2, p2, s2, t2⟩ := b
  have hS : Tryz.prog.underlying 23 = some (.struct (Tryz.prog.fieldsOf 23)) := by kernel_rfl
  have hp : Tryz.prog.stoodInHeld 23 = false := by kernel_rfl
  rw [show (10000 : Nat) = 9999 + 1 from rfl, run_equalIn_agg w 9999 23 _ _ hS hp]
  simp only [Program.fieldsOf, Tryz.underlying23]
  go_simp
  have hl : ∀ a b : ByteArray, a.toList = b.toList ↔ a = b := fun a b => by
    rw [ByteArray.toList_eq, ByteArray.toList_eq]
    exact ⟨fun h => ByteArray.ext (Array.toList_inj.1 h), fun h => by rw [h]⟩
  have hs := hl s1 s2
  have ht := hl t1 t2
  by_cases h0 : k1 = k2 <;> by_cases h1 : p1 = p2 <;> by_cases h2 : s1 = s2 <;> by_cases h3 : t1 = t2 <;> simp [h0, h1, h2, h3, hs, ht]
theorem cop_same (o : Cop) (w : World) : (Op.equalIn 10000 23 (copV o) (copV o)).run Tryz.prog w = .ok true w := by
  rw [cop_equal, decide_eq_true ⟨rfl, rfl, rfl, rfl⟩]
set_option maxRecDepth 100000 in
theorem over_no (p : ByteArray) (o : Cop) (h1 : p.size ≤ 600) (h2 : o.old.size ≤ 600) (h3 : o.new.size ≤ 600) (w : World) :
    Calls Tryz.prog 4 #[.string p, copV o] w fun e w' => e = .returned (.bool false) ∧ Below w.heap.size w w' := by
  obtain ⟨kind, slot, old, new⟩ := o
  dsimp only [copV] at *
  have g1 : (p.size : Int) ≤ 600 := by omega
  have g2 : (old.size : Int) ≤ 600 := by omega
  have g3 : (new.size : Int) ≤ 600 := by omega
  clear h1 h2 h3
  go_enter Tryz.func4, Tryz.ntmps4
  go_wp2_with fail
  go_ret
  exact ⟨by simp [*], allocB _ _⟩
set_option maxRecDepth 100000 in
theorem over_1 (p : ByteArray) (o : Cop) (h1 : 600 < p.size) (w : World) :
    Calls Tryz.prog 4 #[.string p, copV o] w fun e w' => e = .returned (.bool true) ∧ Below w.heap.size w w' := by
  obtain ⟨kind, slot, old, new⟩ := o
  dsimp only [copV] at *
  have g1 : 600 < (p.size : Int) := by omega
  clear h1
  go_enter Tryz.func4, Tryz.ntmps4
  go_wp2_with fail
  go_ret
  exact ⟨by simp [*], allocB _ _⟩
set_option maxRecDepth 100000 in
theorem over_2 (p : ByteArray) (o : Cop) (h1 : p.size ≤ 600) (h2 : 600 < o.old.size) (w : World) :
    Calls Tryz.prog 4 #[.string p, copV o] w fun e w' => e = .returned (.bool true) ∧ Below w.heap.size w w' := by
  obtain ⟨kind, slot, old, new⟩ := o
  dsimp only [copV] at *
  have g1 : (p.size : Int) ≤ 600 := by omega
  have g2 : 600 < (old.size : Int) := by omega
  clear h1 h2
  go_enter Tryz.func4, Tryz.ntmps4
  go_wp2_with fail
  go_ret
  exact ⟨by simp [*], allocB _ _⟩
set_option maxRecDepth 100000 in
theorem over_3 (p : ByteArray) (o : Cop) (h1 : p.size ≤ 600) (h2 : o.old.size ≤ 600) (h3 : 600 < o.new.size) (w : World) :
    Calls Tryz.prog 4 #[.string p, copV o] w fun e w' => e = .returned (.bool true) ∧ Below w.heap.size w w' := by
  obtain ⟨kind, slot, old, new⟩ := o
  dsimp only [copV] at *
  have g1 : (p.size : Int) ≤ 600 := by omega
  have g2 : (old.size : Int) ≤ 600 := by omega
  have g3 : 600 < (new.size : Int) := by omega
  clear h1 h2 h3
  go_enter Tryz.func4, Tryz.ntmps4
  go_wp2_with fail
  go_ret
  exact ⟨by simp [*], allocB _ _⟩
theorem over_yes (p : ByteArray) (o : Cop) (h : ¬ (p.size ≤ 600 ∧ o.old.size ≤ 600 ∧ o.new.size ≤ 600)) (w : World) :
    Calls Tryz.prog 4 #[.string p, copV o] w fun e w' => e = .returned (.bool true) ∧ Below w.heap.size w w' := by
  by_cases h1 : 600 < p.size
  · exact over_1 p o h1 w
  · by_cases h2 : 600 < o.old.size
    · exact over_2 p o (by omega) h2 w
    · exact over_3 p o (by omega) (by omega) (by omega) w

/-! ### The page's example -/
def P0 : ByteArray := newB 2
def ab : ByteArray := ⟨#[97, 98]⟩
def o1 : Cop := ⟨1, 0, ⟨#[]⟩, ab⟩
def o6 : Cop := ⟨6, 0, ⟨#[48]⟩, ⟨#[55]⟩⟩
theorem P0_is : isPg P0 = true ∧ leafP P0 = ⟨0, 2, 0, []⟩ ∧ P0.size = 512 := by
  have e : P0 = pageB ⟨0, 2, 0, []⟩ := by
    unfold P0 newB
    rw [if_neg (by omega)]; rfl
  obtain ⟨h1, h2⟩ := pageB_is (x := ⟨0, 2, 0, []⟩) ⟨by decide, by decide, by decide⟩ (show Pg.sizeN (Pg.trim []) ≤ 512 by decide) (by intro r hr; cases hr)
  rw [e]
  exact ⟨h1, h2, pageB_size (show Pg.sizeN (Pg.trim []) ≤ 512 by decide)⟩
theorem P0_norm : plB P0 = P0 := by
  rw [plB_eq P0_is.1, P0_is.2.1]
  unfold P0 newB
  rw [if_neg (by omega)]; rfl
theorem put_P0 : (putO P0 0 ab).2 = 0 := by
  have h := putO_do (p := P0) (r := ab) (k := 0) P0_is.1 (by rw [P0_is.2.1]; rfl) (by decide) (by omega)
  have h' : putO P0 0 ab = _ := h
  rw [h', P0_is.2.1, fullO_pageB]
  show Pg.sizeN (Pg.trim (Pg.putAt [] 0 ab)) ≤ 512
  have h1 := Pg.sizeN_trim (Pg.putAt [] 0 ab)
  have h2 := Pg.putAt_size [] 0 ab
  have h3 : ab.size = 2 := by decide
  have h4 : Pg.sumSizes [] = 0 := rfl
  simp only [List.length_nil] at h2
  omega
theorem used_gen (p : ByteArray) (h0 : (putO p 0 ab).2 = 0) : rightO (madeO p o1).1 o1 = false := by
  have hput : putO p 0 ab = ((putO p 0 ab).1, 0) := by
    generalize putO p 0 ab = x at h0 ⊢
    obtain ⟨a, e⟩ := x
    simp only at h0
    rw [h0]
  obtain ⟨k, hk, _, hz, hmay, _, M⟩ := putO_ok hput
  have hs : (Pg.slotAt (leafP (putO p 0 ab).1).recs 0).size ≠ 0 := by
    have h0 : k = 0 := by omega
    subst h0
    have := Pg.slotAt_rec (leafP (putO p 0 ab).1).recs 0
    rw [show ((0 : Nat) : Int) = 0 from rfl] at this
    rw [this, M.rec_, Pg.putAt_rec, if_pos rfl]
    decide
  show (isPg (putO p 0 ab).1 && (okB (putO (putO p 0 ab).1 0 ab)).2) = false
  have : putO (putO p 0 ab).1 0 ab = (⟨#[]⟩, 1) := by
    generalize (putO p 0 ab).1 = q at hs M ⊢
    unfold putO
    rw [if_neg (by rw [M.isPg]; simp), if_neg (by omega), if_pos hs]
  rw [this]
  simp [okB]
theorem used_o1 : rightO (madeO P0 o1).1 o1 = false := used_gen P0 put_P0
theorem right_gen (p : ByteArray) (hp : isPg p = true) (h0 : (putO p 0 ab).2 = 0) : rightO p o1 = true := by
  unfold rightO
  rw [hp]
  show (okB (putO p 0 ab)).2 = true
  unfold okB
  rw [h0]; rfl
theorem right_o1 : rightO P0 o1 = true := right_gen P0 P0_is.1 put_P0
theorem itoa_0 : itoaB 0 = ⟨#[48]⟩ := by
  unfold itoaB
  rw [show (0 : Int) = ((0 : Nat) : Int) from rfl, NumPlain.itoa_one (by omega)]; rfl
theorem itoa_7 : itoaB 7 = ⟨#[55]⟩ := by
  unfold itoaB
  rw [show (7 : Int) = ((7 : Nat) : Int) from rfl, NumPlain.itoa_one (by omega)]; rfl
theorem right_gen6 (p : ByteArray) (hp : isPg p = true) (h0 : (leafP p).link = 0) : rightO p o6 = true ∧ (madeO p o6).1 = linkB p 7 := by
  have hr : Lib.atoiAll (⟨#[55]⟩ : ByteArray).data.toList = .ok 7 := by rw [← itoa_7]; exact itoa_read 7 (by omega)
  have h7 := link_page hp (k := 7) (by omega)
  have hs : (linkB p 7).size = 512 := h7.2.2
  have e : madeO p o6 = (linkB p 7, true) := by
    show linkedO p o6 = _
    rw [linked_good (o := o6) hr]
    rw [if_pos ⟨itoa_7, by rw [h0]; exact itoa_0.symm, rfl⟩, hs]
    rfl
  unfold rightO
  rw [e, hp]
  exact ⟨rfl, rfl⟩
theorem right_o6 : rightO P0 o6 = true ∧ (madeO P0 o6).1 = linkB P0 7 := right_gen6 P0 P0_is.1 (by rw [P0_is.2.1])
theorem link_o6 : (leafP (linkB P0 7)).link = 7 := by
  have h7 := link_page P0_is.1 (k := 7) (by omega)
  have := h7.2.1
  rw [show ((7 : Nat) : Int) = 7 from rfl] at this
  rw [this]
set_option maxRecDepth 100000 in
set_option maxHeartbeats 2000000 in
theorem cawake_any (w : World) (hv : Vars w) :
    Calls Tryz.prog 5 #[] w fun e w' => e = .returned (.bool true) ∧ Below w.heap.size w w' := by
  have HV := Lib.hid hv
  have HN := Lib.hid (fun W => new_any 2 W)
  change Hid (∀ W, Calls _ _ _ _ fun e w' => e = .returned (.string P0) ∧ _) at HN
  obtain ⟨d1, d2, d3⟩ := do_back right_o1
  have U := undone right_o1
  have z0 := P0_is.2.2
  have zs := U.size
  have HD1 := Lib.hid (fun W hW => do_any P0 o1 (by omega) (by decide) W hW)
  rw [d1] at HD1
  have HD2 := Lib.hid (fun W hW => do_any (madeO P0 o1).1 (backO o1) (by omega) (by decide) W hW)
  rw [d3, P0_norm] at HD2
  have HD3 := Lib.hid (fun W hW => do_any (madeO P0 o1).1 o1 (by omega) (by decide) W hW)
  rw [do_no used_o1] at HD3
  have HD4 := Lib.hid (fun W hW => do_any P0 o6 (by omega) (by decide) W hW)
  rw [do_yes right_o6.1, right_o6.2] at HD4
  have HR1 := Lib.hid (fun W hW => cright_any P0 o1 (by omega) (by decide) W hW)
  rw [right_o1] at HR1
  have HR2 := Lib.hid (fun W hW => cright_any (madeO P0 o1).1 o1 (by omega) (by decide) W hW)
  rw [used_o1] at HR2
  have HB := Lib.hid (fun W => cback_any o1 W)
  have hs7 : (linkB P0 7).size = 512 := (link_page P0_is.1 (k := 7) (by omega)).2.2
  have HL := Lib.hid (fun W => link_any (linkB P0 7) (by omega) W)
  rw [link_o6] at HL
  have heq := fun W => cop_same ⟨2, 0, ab, ⟨#[]⟩⟩ W
  generalize (madeO P0 o1).1 = q at HD1 HD2 HD3 HR2
  generalize linkB P0 7 = s7 at HD4 HL
  generalize P0 = p at HN HD1 HD2 HD4 HR1
  have hself : (p.toList == p.toList) = true := beq_self_eq_true _
  change Hid (∀ W, Calls _ _ #[copV ⟨1, 0, ⟨#[]⟩, ab⟩] _ fun e w' => e = .returned (copV ⟨2, 0, ab, ⟨#[]⟩⟩) ∧ _) at HB
  change Hid (∀ W, Vars W → Calls _ _ #[.string p, copV ⟨1, 0, ⟨#[]⟩, ab⟩] _ _) at HD1
  change Hid (∀ W, Vars W → Calls _ _ #[.string q, copV ⟨2, 0, ab, ⟨#[]⟩⟩] _ _) at HD2
  change Hid (∀ W, Vars W → Calls _ _ #[.string q, copV ⟨1, 0, ⟨#[]⟩, ab⟩] _ _) at HD3
  change Hid (∀ W, Vars W → Calls _ _ #[.string p, copV ⟨6, 0, ⟨#[48]⟩, ⟨#[55]⟩⟩] _ _) at HD4
  change Hid (∀ W, Vars W → Calls _ _ #[.string p, copV ⟨1, 0, ⟨#[]⟩, ab⟩] _ _) at HR1
  change Hid (∀ W, Vars W → Calls _ _ #[.string q, copV ⟨1, 0, ⟨#[]⟩, ab⟩] _ _) at HR2
  dsimp only [copV, outV] at *
  unfold ab at *
  clear hv d1 d2 d3 U z0 zs hs7
  go_enter Tryz.func5, Tryz.ntmps5
  go_wp2_with fail
  refine (HN.out _).mono ?_
  rintro e w1 ⟨rfl, hb1⟩
  have V1 := Lib.hid ((HV.out.below hb1).below (allocB w1 (.cells #[.int .i64 1, .int .i64 0, .string ⟨#[]⟩, .string ⟨#[97, 98]⟩] 23)))
  go_wp2_with fail
  refine (HD1.out _ V1.out).mono ?_
  rintro e w2 ⟨rfl, hb2⟩
  have V2 := Lib.hid (V1.out.below hb2)
  have B2 := Lib.hid (joinB (pastAlloc (o := (.cells #[.int .i64 1, .int .i64 0, .string ⟨#[]⟩, .string ⟨#[97, 98]⟩] 23)) hb1) hb2)
  have X2 := Lib.hid (blkNew hb2)
  have x2 := blkCell X2.out
  clear hb1 hb2 V1
  go_wp2_with fail
  refine (HB.out _).mono ?_
  rintro e w3 ⟨rfl, hb3⟩
  have V3 := Lib.hid (V2.out.below hb3)
  have B3 := Lib.hid (joinB B2.out hb3)
  have X3 := Lib.hid (blkOld X2.out hb3)
  have x3 := blkCell X3.out
  clear hb3 x2 V2 X2 B2
  go_wp2_with fail
  refine (HD2.out _ V3.out).mono ?_
  rintro e w4 ⟨rfl, hb4⟩
  have V4 := Lib.hid (V3.out.below hb4)
  have B4 := Lib.hid (joinB B3.out hb4)
  have X4 := Lib.hid (blkOld X3.out hb4)
  have x4 := blkCell X4.out
  clear hb4 x3 V3 X3 B3
  go_wp2_with fail
  refine (HD3.out _ V4.out).mono ?_
  rintro e w5 ⟨rfl, hb5⟩
  have V5 := Lib.hid (V4.out.below hb5)
  have B5 := Lib.hid (joinB B4.out hb5)
  have X5 := Lib.hid (blkOld X4.out hb5)
  have x5 := blkCell X5.out
  clear hb5 x4 V4 X4 B4
  go_wp2_with fail
  refine (HD4.out _ V5.out).mono ?_
  rintro e w6 ⟨rfl, hb6⟩
  have V6 := Lib.hid (V5.out.below hb6)
  have B6 := Lib.hid (joinB B5.out hb6)
  have X6 := Lib.hid (blkOld X5.out hb6)
  have x6 := blkCell X6.out
  clear hb6 x5 V5 X5 B5
  go_wp2_with fail
  refine (HR1.out _ V6.out).mono ?_
  rintro e w7 ⟨rfl, hb7⟩
  have V7 := Lib.hid (V6.out.below hb7)
  have B7 := Lib.hid (joinB B6.out hb7)
  have X7 := Lib.hid (blkOld X6.out hb7)
  have x7 := blkCell X7.out
  clear hb7 x6 V6 X6 B6
  go_wp2_with fail
  refine (HR2.out _ V7.out).mono ?_
  rintro e w8 ⟨rfl, hb8⟩
  have V8 := Lib.hid (V7.out.below hb8)
  have B8 := Lib.hid (joinB B7.out hb8)
  have X8 := Lib.hid (blkOld X7.out hb8)
  have x8 := blkCell X8.out
  clear hb8 x7 V7 X7 B7
  go_wp2_with fail
  refine (HB.out _).mono ?_
  rintro e w9 ⟨rfl, hb9⟩
  have V9 := Lib.hid (V8.out.below hb9)
  have B9 := Lib.hid (joinB B8.out hb9)
  have X9 := Lib.hid (blkOld X8.out hb9)
  have x9 := blkCell X9.out
  clear hb9 x8 V8 X8 B8
  go_wp2_with fail
  refine (HL.out _).mono ?_
  rintro e w10 ⟨rfl, hb10⟩
  have V10 := Lib.hid (V9.out.below hb10)
  have B10 := Lib.hid (joinB B9.out hb10)
  have X10 := Lib.hid (blkOld X9.out hb10)
  have x10 := blkCell X10.out
  clear hb10 x9 V9 X9 B9
  go_wp2_with fail
  go_ret
  exact ⟨by simp, B10.out⟩
end Go.Proofs.YtkndifannjpbcaaGreatDoor
/- The walks over the reference's chapter 40: Right, Do, Back. -/
namespace Go.Proofs.YtkndifannjpbcaaGreatDoor
open Go.RowKit
set_option maxRecDepth 100000 in
set_option maxHeartbeats 1000000 in
theorem rcright_any (p : ByteArray) (o : Cop) (hp : p.size ≤ 140737488355328) (ho : o.new.size ≤ 140737488355328) (w : World) :
    Calls Tryz.prog 9 #[.string p, copV o] w fun e w' => e = .returned (.bool (rightO p o)) ∧ Below w.heap.size w w' := by
  have HM := Lib.hid (fun W => rdone_any p o hp ho W)
  have HR := Lib.hid (fun W => rright_any p hp W)
  have HE := Lib.hid (done_right p o)
  generalize rightO p o = R at HE ⊢
  generalize isPg p = b at HR HE
  generalize doneO p o = x at HM HE
  obtain ⟨qx, bx⟩ := x
  obtain ⟨kind, slot, old, new⟩ := o
  dsimp only [copV] at HM HE ⊢
  clear ho
  cases bx with
  | true =>
    have HF := Lib.hid (HE.out.symm.trans (Bool.true_and _))
    go_enter Tryz.func9, Tryz.ntmps9
    go_wp2_with (first | (go_at_call 15; refine (HM.out _).mono ?_; rintro e w1 ⟨rfl, hb1⟩) | (go_at_call 17; refine (HR.out _).mono ?_; rintro e w2 ⟨rfl, hb2⟩))
    go_ret
    exact ⟨by rw [HF.out]; rfl, joinB (joinB (allocB _ _) hb1) hb2⟩
  | false =>
    have HF := Lib.hid (HE.out.symm.trans (Bool.false_and _))
    go_enter Tryz.func9, Tryz.ntmps9
    go_wp2_with ((go_at_call 15; refine (HM.out _).mono ?_; rintro e w1 ⟨rfl, hb1⟩))
    go_ret
    exact ⟨by rw [HF.out]; rfl, joinB (allocB _ _) hb1⟩
set_option maxHeartbeats 1000000 in
theorem rdo_any (p : ByteArray) (o : Cop) (hp : p.size ≤ 140737488355328) (ho : o.new.size ≤ 140737488355328) (w : World) :
    Calls Tryz.prog 7 #[.string p, copV o] w fun e w' => e = .returned (outV (doO p o)) ∧ Below w.heap.size w w' := by
  have HM := Lib.hid (fun W => rdone_any p o hp ho W)
  have HR := Lib.hid (fun W => rcright_any p o hp ho W)
  have HX := Lib.hid (heldC_new w o 23)
  have HY := Lib.hid (fun h => (do_yes (p := p) (o := o) h).trans (by rw [← done_do h]))
  have HN := Lib.hid (fun h => do_no (p := p) (o := o) h)
  generalize doO p o = R at HY HN ⊢
  generalize rightO p o = b at HR HY HN
  generalize doneO p o = x at HM HY
  obtain ⟨qx, bx⟩ := x
  obtain ⟨kind, slot, old, new⟩ := o
  dsimp only [copV] at HM HR HX ⊢
  clear ho
  cases b with
  | true =>
    have HF := Lib.hid (HY.out rfl)
    clear HY HN
    go_enter Tryz.func7, Tryz.ntmps7
    go_wp2_with (first | (go_at_call 9; refine (HR.out _).mono ?_; rintro e w1 ⟨rfl, hb1⟩; obtain ⟨c0, c1, c2, c3, -⟩ := (HX.out.step hb1).v; dsimp only at c0 c1 c2 c3) | (go_at_call 15; refine (HM.out _).mono ?_; rintro e w2 ⟨rfl, hb2⟩))
    go_ret2
    exact ⟨by rw [HF.out]; rfl, joinB (joinB (allocB _ _) hb1) hb2⟩
  | false =>
    have HF := Lib.hid (HN.out rfl)
    clear HY HN
    go_enter Tryz.func7, Tryz.ntmps7
    go_wp2_with ((go_at_call 9; refine (HR.out _).mono ?_; rintro e w1 ⟨rfl, hb1⟩))
    go_ret2
    exact ⟨by rw [HF.out]; rfl, joinB (allocB _ _) hb1⟩
set_option maxRecDepth 100000 in
theorem rback_1 (kind slot : Int) (old new : ByteArray) (hk : kind = 1) (w : World) :
    Calls Tryz.prog 11 #[.agg #[.int .i64 kind, .int .i64 slot, .string old, .string new]] w fun e w' => e = .returned (.agg #[.int .i64 2, .int .i64 slot, .string new, .string old]) ∧ Below w.heap.size w w' := by
  subst hk
  go_enter Tryz.func11, Tryz.ntmps11
  go_wp2_with fail
  refine bodyPost_ret (v := .agg #[.int .i64 2, .int .i64 slot, .string new, .string old]) (by simp [results, Tryz.results11, go_sem]) rfl ⟨rfl, pastAlloc (allocB _ _)⟩
set_option maxRecDepth 100000 in
theorem rback_2 (kind slot : Int) (old new : ByteArray) (hk : kind = 2) (w : World) :
    Calls Tryz.prog 11 #[.agg #[.int .i64 kind, .int .i64 slot, .string old, .string new]] w fun e w' => e = .returned (.agg #[.int .i64 1, .int .i64 slot, .string new, .string old]) ∧ Below w.heap.size w w' := by
  subst hk
  go_enter Tryz.func11, Tryz.ntmps11
  go_wp2_with fail
  refine bodyPost_ret (v := .agg #[.int .i64 1, .int .i64 slot, .string new, .string old]) (by simp [results, Tryz.results11, go_sem]) rfl ⟨rfl, pastAlloc (allocB _ _)⟩
set_option maxRecDepth 100000 in
theorem rback_4 (kind slot : Int) (old new : ByteArray) (hk : kind = 4) (w : World) :
    Calls Tryz.prog 11 #[.agg #[.int .i64 kind, .int .i64 slot, .string old, .string new]] w fun e w' => e = .returned (.agg #[.int .i64 5, .int .i64 slot, .string new, .string old]) ∧ Below w.heap.size w w' := by
  subst hk
  go_enter Tryz.func11, Tryz.ntmps11
  go_wp2_with fail
  refine bodyPost_ret (v := .agg #[.int .i64 5, .int .i64 slot, .string new, .string old]) (by simp [results, Tryz.results11, go_sem]) rfl ⟨rfl, pastAlloc (allocB _ _)⟩
set_option maxRecDepth 100000 in
theorem rback_5 (kind slot : Int) (old new : ByteArray) (hk : kind = 5) (w : World) :
    Calls Tryz.prog 11 #[.agg #[.int .i64 kind, .int .i64 slot, .string old, .string new]] w fun e w' => e = .returned (.agg #[.int .i64 4, .int .i64 slot, .string new, .string old]) ∧ Below w.heap.size w w' := by
  subst hk
  go_enter Tryz.func11, Tryz.ntmps11
  go_wp2_with fail
  refine bodyPost_ret (v := .agg #[.int .i64 4, .int .i64 slot, .string new, .string old]) (by simp [results, Tryz.results11, go_sem]) rfl ⟨rfl, pastAlloc (allocB _ _)⟩
set_option maxRecDepth 100000 in
theorem rback_none (kind slot : Int) (old new : ByteArray) (hk : ¬ (kind = 1 ∨ kind = 2 ∨ kind = 4 ∨ kind = 5)) (w : World) :
    Calls Tryz.prog 11 #[.agg #[.int .i64 kind, .int .i64 slot, .string old, .string new]] w fun e w' => e = .returned (.agg #[.int .i64 kind, .int .i64 slot, .string new, .string old]) ∧ Below w.heap.size w w' := by
  have k1 : (kind == 1) = false := by simp; omega
  have k2 : (kind == 2) = false := by simp; omega
  have k4 : (kind == 4) = false := by simp; omega
  have k5 : (kind == 5) = false := by simp; omega
  clear hk
  go_enter Tryz.func11, Tryz.ntmps11
  go_wp2_with fail
  refine bodyPost_ret (v := .agg #[.int .i64 kind, .int .i64 slot, .string new, .string old]) (by simp [results, Tryz.results11, go_sem]) rfl ⟨rfl, pastAlloc (allocB _ _)⟩
theorem rcback_any (o : Cop) (w : World) :
    Calls Tryz.prog 11 #[copV o] w fun e w' => e = .returned (copV (backO o)) ∧ Below w.heap.size w w' := by
  obtain ⟨kind, slot, old, new⟩ := o
  by_cases h : kind = 1 ∨ kind = 2 ∨ kind = 4 ∨ kind = 5
  · rcases h with rfl | rfl | rfl | rfl
    · exact rback_1 1 slot old new rfl w
    · exact rback_2 2 slot old new rfl w
    · exact rback_4 4 slot old new rfl w
    · exact rback_5 5 slot old new rfl w
  · have := rback_none kind slot old new h w
    have e : backO ⟨kind, slot, old, new⟩ = ⟨kind, slot, new, old⟩ := by
      unfold backO backK
      simp only
      rw [if_neg (by omega), if_neg (by omega), if_neg (by omega), if_neg (by omega)]
    rw [e]
    exact this
end Go.Proofs.YtkndifannjpbcaaGreatDoor
/- The walk of ChangeDoes. -/
namespace Go.Proofs.YtkndifannjpbcaaGreatDoor
open Go.RowKit
set_option maxRecDepth 100000 in
set_option maxHeartbeats 4000000 in
theorem changedoes_any (p : ByteArray) (o : Cop) (w : World) (hv : Vars w) :
    Calls Tryz.prog 3 #[.string p, copV o] w fun e w' => e = .returned (.bool true) ∧ Below w.heap.size w w' := by
  have HW := Lib.hid (fun W hW => cawake_any W hW)
  have HX0 := Lib.hid (heldC_new w o 23)
  have HV0 := Lib.hid (hv.below (allocB w (.cells #[.int .i64 o.kind, .int .i64 o.slot, .string o.old, .string o.new] 23)))
  clear hv
  by_cases hlong : ¬ (p.size ≤ 600 ∧ o.old.size ≤ 600 ∧ o.new.size ≤ 600)
  · have HO := Lib.hid (fun W => over_yes p o hlong W)
    clear hlong
    obtain ⟨kind, slot, old, new⟩ := o
    dsimp only [copV] at *
    go_enter Tryz.func3, Tryz.ntmps3
    go_wp2_with (first | (go_at_call 4; refine (HO.out _).mono ?_; rintro e w1 ⟨rfl, hb1⟩) | (go_at_call 5; refine (HW.out _ (HV0.out.below hb1)).mono ?_; rintro e w2 ⟨rfl, hb2⟩))
    go_ret
    exact ⟨rfl, joinB (joinB (allocB _ _) hb1) hb2⟩
  have hlong2 : p.size ≤ 600 ∧ o.old.size ≤ 600 ∧ o.new.size ≤ 600 := by
    refine Classical.byContradiction fun h => hlong h
  obtain ⟨z1, z2, z3⟩ := hlong2
  have HO := Lib.hid (fun W => over_no p o z1 z2 z3 W)
  have HD := Lib.hid (fun W hW => do_any p o (by omega) (by omega) W hW)
  have HD2 := Lib.hid (fun W => rdo_any p o (by omega) (by omega) W)
  have HR := Lib.hid (fun W hW => cright_any p o (by omega) (by omega) W hW)
  have HR2 := Lib.hid (fun W => rcright_any p o (by omega) (by omega) W)
  have HB := Lib.hid (fun W => cback_any o W)
  have HB2 := Lib.hid (fun W => rcback_any o W)
  have heq := fun W => cop_same (backO o) W
  clear hlong z1 z2 z3
  generalize doO p o = d at HD HD2
  generalize rightO p o = rb at HR HR2
  generalize backO o = bo at HB HB2 heq
  obtain ⟨dq, de⟩ := d
  obtain ⟨kind, slot, old, new⟩ := o
  obtain ⟨bk, bs, bold, bnew⟩ := bo
  dsimp only [copV, outV] at *
  have hself : (dq.toList == dq.toList) = true := beq_self_eq_true _
  go_enter Tryz.func3, Tryz.ntmps3
  go_upto_region 5 with (first | (go_at_call 4; refine (HO.out _).mono ?_; rintro e w1 ⟨rfl, hb1⟩; obtain ⟨c0, c1, c2, c3, -⟩ := (HX0.out.step hb1).v; dsimp only at c0 c1 c2 c3) | (go_at_call 6; refine (HD.out _ (HV0.out.below hb1)).mono ?_; rintro e w3 ⟨rfl, hb3⟩; obtain ⟨d0, d1, d2, d3, -⟩ := ((HX0.out.step hb1).step hb3).v; dsimp only at d0 d1 d2 d3) | (go_at_call 7; refine (HD2.out _).mono ?_; rintro e w4 ⟨rfl, hb4⟩))
  have HX := Lib.hid (((HX0.out.step hb1).step hb3).step hb4)
  have HV := Lib.hid (((HV0.out.below hb1).below hb3).below hb4)
  clear c0 c1 c2 c3 d0 d1 d2 d3 hb1 hb3 hb4 HX0 HV0 HO HD HD2
  refine wp_region_held_drew (S := (fun u => HeldCV w.heap.size ⟨kind, slot, old, new⟩ w u ∧ Vars u)) (by kernel_rfl) ?_ (fun hHeld => ?_)
  · first | exact ⟨HX.out.v, HV.out⟩ | exact hSn | exact ⟨(HX.out.step (Below.refl _ _).drew).v, HV.out.below (Below.refl _ _).drew⟩
  refine wpAnyH_ready (rs := [0]) (by kernel_rfl) (by simp) ?_
  refine AllReadyH.cons (o := { dst := some 25, op := _, type := _, pos := _, after := _, guard := _ }) rfl (fun K hK => ?_) ?_
  rotate_left
  · exact AllReadyH.nil
  go_simp
  refine (HW.out _ hHeld.2).mono ?_; rintro e w2 ⟨rfl, hb2⟩; have hSn := And.intro (hHeld.1.2.2.2.2.step hb2).v (hHeld.2.below hb2); clear hHeld hb2; try go_simp
  refine hK.out _ _ ?_ (fun hHeld => ?_)
  · first | exact ⟨HX.out.v, HV.out⟩ | exact hSn | exact ⟨(HX.out.step (Below.refl _ _).drew).v, HV.out.below (Below.refl _ _).drew⟩
  clear hK K
  try simp only [Act.put, List.setIfInBounds_toArray, List.set_cons_zero, List.set_cons_succ]
  refine wpAnyH_take (i := 1) (oi := { dst := some 26, op := _, type := _, pos := _, after := _, guard := _ }) (v := ?_) rfl (by kernel_rfl) (by kernel_rfl) (by kernel_rfl) (fun _ _ _ h => h) (Or.inl ⟨by rfl, ?_⟩) (by assumption) ?_
  rotate_left
  · intro w hSw; (try dsimp only at hSw); go_simp; (try with_reducible rfl)
  try simp only [Act.put, List.setIfInBounds_toArray, List.set_cons_zero, List.set_cons_succ]
  refine wpAnyH_take (i := 2) (oi := { dst := some 27, op := _, type := _, pos := _, after := _, guard := _ }) (v := ?_) rfl (by kernel_rfl) (by kernel_rfl) (by kernel_rfl) (fun _ _ _ h => h) (Or.inl ⟨by rfl, ?_⟩) (by assumption) ?_
  rotate_left
  · intro w hSw; (try dsimp only at hSw); go_simp; (try with_reducible rfl)
  try simp only [Act.put, List.setIfInBounds_toArray, List.set_cons_zero, List.set_cons_succ]
  refine wpAnyH_take (i := 3) (oi := { dst := some 28, op := _, type := _, pos := _, after := _, guard := _ }) (v := ?_) rfl (by kernel_rfl) (by kernel_rfl) (by kernel_rfl) (fun _ _ _ h => h) (Or.inl ⟨by rfl, ?_⟩) (by assumption) ?_
  rotate_left
  · intro w hSw; (try dsimp only at hSw); go_simp; (try with_reducible rfl)
  try simp only [Act.put, List.setIfInBounds_toArray, List.set_cons_zero, List.set_cons_succ]
  refine wpAnyH_take (i := 4) (oi := { dst := some 29, op := _, type := _, pos := _, after := _, guard := _ }) (v := ?_) rfl (by kernel_rfl) (by kernel_rfl) (by kernel_rfl) (fun _ _ _ h => h) (Or.inl ⟨by rfl, ?_⟩) (by assumption) ?_
  rotate_left
  · intro w hSw; (try dsimp only at hSw); go_simp; (try with_reducible rfl)
  try simp only [Act.put, List.setIfInBounds_toArray, List.set_cons_zero, List.set_cons_succ]
  refine wpAnyH_take (i := 5) (oi := { dst := some 30, op := _, type := _, pos := _, after := _, guard := _ }) (v := ?_) rfl (by kernel_rfl) (by kernel_rfl) (by kernel_rfl) (fun _ _ _ h => h) (Or.inl ⟨by rfl, ?_⟩) (by assumption) ?_
  rotate_left
  · intro w hSw; (try dsimp only at hSw); go_simp; (try with_reducible rfl)
  try simp only [Act.put, List.setIfInBounds_toArray, List.set_cons_zero, List.set_cons_succ]
  refine wpAnyH_take (i := 6) (oi := { dst := some 31, op := _, type := _, pos := _, after := _, guard := _ }) (v := ?_) rfl (by kernel_rfl) (by kernel_rfl) (by kernel_rfl) (fun _ _ _ h => h) (Or.inl ⟨by rfl, ?_⟩) (by assumption) ?_
  rotate_left
  · intro w hSw; (try dsimp only at hSw); go_simp; (try with_reducible rfl)
  try simp only [Act.put, List.setIfInBounds_toArray, List.set_cons_zero, List.set_cons_succ]
  refine wpAnyH_take (i := 7) (oi := { dst := some 32, op := _, type := _, pos := _, after := _, guard := _ }) (v := ?_) rfl (by kernel_rfl) (by kernel_rfl) (by kernel_rfl) (fun _ _ _ h => h) (Or.inl ⟨by rfl, ?_⟩) (by assumption) ?_
  rotate_left
  · intro w hSw; (try dsimp only at hSw); go_simp; (try with_reducible rfl)
  try simp only [Act.put, List.setIfInBounds_toArray, List.set_cons_zero, List.set_cons_succ]
  refine wpAnyH_take (i := 8) (oi := { dst := some 33, op := _, type := _, pos := _, after := _, guard := _ }) (v := ?_) rfl (by kernel_rfl) (by kernel_rfl) (by kernel_rfl) (fun _ _ _ h => h) (Or.inl ⟨by rfl, ?_⟩) (by assumption) ?_
  rotate_left
  · intro w hSw; (try dsimp only at hSw); go_simp; (try with_reducible rfl)
  try simp only [Act.put, List.setIfInBounds_toArray, List.set_cons_zero, List.set_cons_succ]
  refine wpAnyH_take (i := 9) (oi := { dst := some 34, op := _, type := _, pos := _, after := _, guard := _ }) (v := ?_) rfl (by kernel_rfl) (by kernel_rfl) (by kernel_rfl) (fun _ _ _ h => h) (Or.inl ⟨by rfl, ?_⟩) (by assumption) ?_
  rotate_left
  · intro w hSw; (try dsimp only at hSw); go_simp; (try with_reducible rfl)
  try simp only [Act.put, List.setIfInBounds_toArray, List.set_cons_zero, List.set_cons_succ]
  refine wpAnyH_take (i := 10) (oi := { dst := some 35, op := _, type := _, pos := _, after := _, guard := _ }) (v := ?_) rfl (by kernel_rfl) (by kernel_rfl) (by kernel_rfl) (fun _ _ _ h => h) (Or.inl ⟨by rfl, ?_⟩) (by assumption) ?_
  rotate_left
  · intro w hSw; (try dsimp only at hSw); go_simp; (try with_reducible rfl)
  try simp only [Act.put, List.setIfInBounds_toArray, List.set_cons_zero, List.set_cons_succ]
  refine wpAnyH_take (i := 11) (oi := { dst := some 36, op := _, type := _, pos := _, after := _, guard := _ }) (v := ?_) rfl (by kernel_rfl) (by kernel_rfl) (by kernel_rfl) (fun _ _ _ h => h) (Or.inl ⟨by rfl, ?_⟩) (by assumption) ?_
  rotate_left
  · intro w hSw; (try dsimp only at hSw); go_simp; (try with_reducible rfl)
  try simp only [Act.put, List.setIfInBounds_toArray, List.set_cons_zero, List.set_cons_succ]
  refine wpAnyH_take (i := 12) (oi := { dst := some 37, op := _, type := _, pos := _, after := _, guard := _ }) (v := ?_) rfl (by kernel_rfl) (by kernel_rfl) (by kernel_rfl) (fun _ _ _ h => h) (Or.inl ⟨by rfl, ?_⟩) (by assumption) ?_
  rotate_left
  · intro w hSw; (try dsimp only at hSw); go_simp; (try with_reducible rfl)
  try simp only [Act.put, List.setIfInBounds_toArray, List.set_cons_zero, List.set_cons_succ]
  refine wpAnyH_take (i := 13) (oi := { dst := some 38, op := _, type := _, pos := _, after := _, guard := _ }) (v := ?_) rfl (by kernel_rfl) (by kernel_rfl) (by kernel_rfl) (fun _ _ _ h => h) (Or.inl ⟨by rfl, ?_⟩) (by assumption) ?_
  rotate_left
  · intro w hSw; (try dsimp only at hSw); go_simp; (try with_reducible rfl)
  try simp only [Act.put, List.setIfInBounds_toArray, List.set_cons_zero, List.set_cons_succ]
  refine wpAnyH_take (i := 15) (oi := { dst := some 40, op := _, type := _, pos := _, after := _, guard := _ }) (v := ?_) rfl (by kernel_rfl) (by kernel_rfl) (by kernel_rfl) (fun _ _ _ h => h) (Or.inl ⟨by rfl, ?_⟩) (by assumption) ?_
  rotate_left
  · intro w hSw; (try dsimp only at hSw); go_simp; (try with_reducible rfl)
  try simp only [Act.put, List.setIfInBounds_toArray, List.set_cons_zero, List.set_cons_succ]
  refine wpAnyH_take (i := 16) (oi := { dst := some 41, op := _, type := _, pos := _, after := _, guard := _ }) (v := ?_) rfl (by kernel_rfl) (by kernel_rfl) (by kernel_rfl) (fun _ _ _ h => h) (Or.inl ⟨by rfl, ?_⟩) (by assumption) ?_
  rotate_left
  · intro w hSw; (try dsimp only at hSw); go_simp; (try with_reducible rfl)
  try simp only [Act.put, List.setIfInBounds_toArray, List.set_cons_zero, List.set_cons_succ]
  refine wpAnyH_ready (rs := [14]) (by kernel_rfl) (by simp) ?_
  refine AllReadyH.cons (o := { dst := some 39, op := _, type := _, pos := _, after := _, guard := _ }) rfl (fun K hK => ?_) ?_
  rotate_left
  · exact AllReadyH.nil
  go_simp
  refine (HR.out _ hHeld.2).mono ?_; rintro e w2 ⟨rfl, hb2⟩; have hSn := And.intro (hHeld.1.2.2.2.2.step hb2).v (hHeld.2.below hb2); clear hHeld hb2; try go_simp
  refine hK.out _ _ ?_ (fun hHeld => ?_)
  · first | exact ⟨HX.out.v, HV.out⟩ | exact hSn | exact ⟨(HX.out.step (Below.refl _ _).drew).v, HV.out.below (Below.refl _ _).drew⟩
  clear hK K
  try simp only [Act.put, List.setIfInBounds_toArray, List.set_cons_zero, List.set_cons_succ]
  refine wpAnyH_ready (rs := [17]) (by kernel_rfl) (by simp) ?_
  refine AllReadyH.cons (o := { dst := some 42, op := _, type := _, pos := _, after := _, guard := _ }) rfl (fun K hK => ?_) ?_
  rotate_left
  · exact AllReadyH.nil
  go_simp
  refine (HR2.out _).mono ?_; rintro e w2 ⟨rfl, hb2⟩; have hSn := And.intro (hHeld.1.2.2.2.2.step hb2).v (hHeld.2.below hb2); clear hHeld hb2; try go_simp
  refine hK.out _ _ ?_ (fun hHeld => ?_)
  · first | exact ⟨HX.out.v, HV.out⟩ | exact hSn | exact ⟨(HX.out.step (Below.refl _ _).drew).v, HV.out.below (Below.refl _ _).drew⟩
  clear hK K
  try simp only [Act.put, List.setIfInBounds_toArray, List.set_cons_zero, List.set_cons_succ]
  refine wpAnyH_take (i := 18) (oi := { dst := some 43, op := _, type := _, pos := _, after := _, guard := _ }) (v := ?_) rfl (by kernel_rfl) (by kernel_rfl) (by kernel_rfl) (fun _ _ _ h => h) (Or.inl ⟨by rfl, ?_⟩) (by assumption) ?_
  rotate_left
  · intro w hSw; (try dsimp only at hSw); go_simp; (try with_reducible rfl)
  try simp only [Act.put, List.setIfInBounds_toArray, List.set_cons_zero, List.set_cons_succ]
  refine wpAnyH_take (i := 19) (oi := { dst := some 44, op := _, type := _, pos := _, after := _, guard := _ }) (v := ?_) rfl (by kernel_rfl) (by kernel_rfl) (by kernel_rfl) (fun _ _ _ h => h) (Or.inl ⟨by rfl, ?_⟩) (by assumption) ?_
  rotate_left
  · intro w hSw; (try dsimp only at hSw); go_simp; (try with_reducible rfl)
  try simp only [Act.put, List.setIfInBounds_toArray, List.set_cons_zero, List.set_cons_succ]
  refine wpAnyH_take (i := 20) (oi := { dst := some 45, op := _, type := _, pos := _, after := _, guard := _ }) (v := ?_) rfl (by kernel_rfl) (by kernel_rfl) (by kernel_rfl) (fun _ _ _ h => h) (Or.inl ⟨by rfl, ?_⟩) (by assumption) ?_
  rotate_left
  · intro w hSw; (try dsimp only at hSw); go_simp; (try with_reducible rfl)
  try simp only [Act.put, List.setIfInBounds_toArray, List.set_cons_zero, List.set_cons_succ]
  refine wpAnyH_take (i := 21) (oi := { dst := some 46, op := _, type := _, pos := _, after := _, guard := _ }) (v := ?_) rfl (by kernel_rfl) (by kernel_rfl) (by kernel_rfl) (fun _ _ _ h => h) (Or.inl ⟨by rfl, ?_⟩) (by assumption) ?_
  rotate_left
  · intro w hSw; (try dsimp only at hSw); go_simp; (try with_reducible rfl)
  try simp only [Act.put, List.setIfInBounds_toArray, List.set_cons_zero, List.set_cons_succ]
  refine wpAnyH_take (i := 23) (oi := { dst := some 48, op := _, type := _, pos := _, after := _, guard := _ }) (v := ?_) rfl (by kernel_rfl) (by kernel_rfl) (by kernel_rfl) (fun _ _ _ h => h) (Or.inl ⟨by rfl, ?_⟩) (by assumption) ?_
  rotate_left
  · intro w hSw; (try dsimp only at hSw); go_simp; (try with_reducible rfl)
  try simp only [Act.put, List.setIfInBounds_toArray, List.set_cons_zero, List.set_cons_succ]
  refine wpAnyH_ready (rs := [22]) (by kernel_rfl) (by simp) ?_
  refine AllReadyH.cons (o := { dst := some 47, op := _, type := _, pos := _, after := _, guard := _ }) rfl (fun K hK => ?_) ?_
  rotate_left
  · exact AllReadyH.nil
  go_simp
  refine (HB.out _).mono ?_; rintro e w2 ⟨rfl, hb2⟩; have hSn := And.intro (hHeld.1.2.2.2.2.step hb2).v (hHeld.2.below hb2); clear hHeld hb2; try go_simp
  refine hK.out _ _ ?_ (fun hHeld => ?_)
  · first | exact ⟨HX.out.v, HV.out⟩ | exact hSn | exact ⟨(HX.out.step (Below.refl _ _).drew).v, HV.out.below (Below.refl _ _).drew⟩
  clear hK K
  try simp only [Act.put, List.setIfInBounds_toArray, List.set_cons_zero, List.set_cons_succ]
  refine wpAnyH_ready (rs := [24]) (by kernel_rfl) (by simp) ?_
  refine AllReadyH.cons (o := { dst := some 49, op := _, type := _, pos := _, after := _, guard := _ }) rfl (fun K hK => ?_) ?_
  rotate_left
  · exact AllReadyH.nil
  go_simp
  refine (HB2.out _).mono ?_; rintro e w2 ⟨rfl, hb2⟩; have hSn := And.intro (hHeld.1.2.2.2.2.step hb2).v (hHeld.2.below hb2); clear hHeld hb2; try go_simp
  refine hK.out _ _ ?_ (fun hHeld => ?_)
  · first | exact ⟨HX.out.v, HV.out⟩ | exact hSn | exact ⟨(HX.out.step (Below.refl _ _).drew).v, HV.out.below (Below.refl _ _).drew⟩
  clear hK K
  try simp only [Act.put, List.setIfInBounds_toArray, List.set_cons_zero, List.set_cons_succ]
  refine wpAnyH_take (i := 25) (oi := { dst := some 50, op := _, type := _, pos := _, after := _, guard := _ }) (v := ?_) rfl (by kernel_rfl) (by kernel_rfl) (by kernel_rfl) (fun _ _ _ h => h) (Or.inl ⟨by rfl, ?_⟩) (by assumption) ?_
  rotate_left
  · intro w hSw; (try dsimp only at hSw); go_simp; (try with_reducible rfl)
  try simp only [Act.put, List.setIfInBounds_toArray, List.set_cons_zero, List.set_cons_succ]
  refine wpAnyH_take (i := 26) (oi := { dst := some 51, op := _, type := _, pos := _, after := _, guard := _ }) (v := ?_) rfl (by kernel_rfl) (by kernel_rfl) (by kernel_rfl) (fun _ _ _ h => h) (Or.inl ⟨by rfl, ?_⟩) (by assumption) ?_
  rotate_left
  · intro w hSw; (try dsimp only at hSw); go_simp; (try with_reducible rfl)
  try simp only [Act.put, List.setIfInBounds_toArray, List.set_cons_zero, List.set_cons_succ]
  refine wpAnyH_take (i := 27) (oi := { dst := some 4, op := _, type := _, pos := _, after := _, guard := _ }) (v := ?_) rfl (by kernel_rfl) (by kernel_rfl) (by kernel_rfl) (fun _ _ _ h => h) (Or.inl ⟨by rfl, ?_⟩) (by assumption) ?_
  rotate_left
  · intro w hSw; (try dsimp only at hSw); go_simp; (try with_reducible rfl)
  try simp only [Act.put, List.setIfInBounds_toArray, List.set_cons_zero, List.set_cons_succ]
  refine wpAnyH_done (by kernel_rfl) ?_ _
  go_wp2_with fail
  go_ret
  exact ⟨by simp, hHeld.1.2.2.2.2.below⟩
end Go.Proofs.YtkndifannjpbcaaGreatDoor
