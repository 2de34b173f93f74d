/- The walks over package change: what a change makes of a page. -/
import Derived.Test.YtkndifannjpbcaaGreatDoorGs09
import Derived.Deep.DeepCutAuto
import Derived.Deep.QuietTactic
import Derived.BigQuiet
namespace Go.Proofs.YtkndifannjpbcaaGreatDoor
open Go.RowKit
set_option maxRecDepth 100000 in
set_option maxHeartbeats 1000000 in
theorem made_1 (p : ByteArray) (o : Cop) (hk : o.kind = 1) (hp : p.size ≤ 140737488355328) (ho : o.new.size ≤ 140737488355328) (w : World) (hv : Vars w) :
    Calls Tryz.prog 14 #[.string p, copV o] w fun e w' => e = .returned (.tuple #[.string (madeO p o).1, .bool (madeO p o).2]) ∧ Below w.heap.size w w' := by
  have HX := Lib.hid (heldC_new w o 23)
  have HV := Lib.hid hv
  have HG := Lib.hid (fun W => get_any_rec p o.slot hp W)
  obtain ⟨R, hR⟩ : ∃ R, R = madeO p o := ⟨_, rfl⟩
  rw [← hR]
  have HR := Lib.hid (hR.trans (show madeO p o = if o.old.size = 0 then okB (putO p o.slot o.new) else noPage by unfold madeO; rw [hk]; rfl))
  have HC := Lib.hid (fun W => pput_any p o.slot o.new hp W)
  generalize putO p o.slot o.new = x at HC HR
  obtain ⟨qx, ex⟩ := x
  unfold outV at HC
  have HO := Lib.hid (show oldIs p o = (!decide ((Pg.slotAt (leafP p).recs o.slot).size = 0) && decide (o.old = Pg.slotAt (leafP p).recs o.slot)) from rfl)
  generalize oldIs p o = oi at HO HR
  generalize (!decide ((Pg.slotAt (leafP p).recs o.slot).size = 0)) = th at HO HG
  generalize Pg.slotAt (leafP p).recs o.slot = r at HO HG
  obtain ⟨kind, slot, old, new⟩ := o
  dsimp only [copV] at HX HG HO HR hk HC ⊢
  subst hk
  clear hR hv
  go_enter Tryz.func14, Tryz.ntmps14
  go_upto_region 2 with (go_at_call 20; refine (HG.out _).mono ?_; rintro e w1 ⟨rfl, hb1⟩)
  have H1 := Lib.hid (HX.out.step hb1)
  clear HX hb1
  obtain ⟨c0, c1, c2, c3, -⟩ := H1.out.v
  dsimp only at c0 c1 c2 c3
  go_cut [8] (fun s we => s = .bool oi ∧ w1 = we)
  case first =>
    cases th with
    | false =>
      have HO2 := Lib.hid (HO.out.trans (Bool.false_and _))
      go_wp2_with fail
      go_meet
      case rel => exact ⟨by rw [HO2.out], rfl⟩
    | true =>
      by_cases he : old = r
      · subst he
        have hq : (old.toList == old.toList) = true := beq_self_eq_true _
        have HO2 := Lib.hid (HO.out.trans (show _ = true by simp))
        go_wp2_with fail
        go_meet
        case rel => exact ⟨by rw [HO2.out], rfl⟩
      · have hq := str_ne he
        have HO2 := Lib.hid (HO.out.trans (show _ = false by simp [he]))
        clear he
        go_wp2_with fail
        go_meet
        case rel => exact ⟨by rw [HO2.out], rfl⟩
  case rest =>
    obtain ⟨rfl, rfl⟩ := hcut
    clear HO HG
    by_cases h0 : old.size = 0
    · have HF := Lib.hid (HR.out.trans (if_pos h0))
      obtain ⟨z1, z2, z3⟩ := str_nil h0
      clear h0 HR
      go_wp2_with ((go_at_call 21; refine (HC.out _).mono ?_; rintro e w2 ⟨rfl, hb2⟩))
      go_ret2
      exact ⟨by rw [HF.out]; rfl, joinB H1.out.below hb2⟩
    · have HF := Lib.hid (HR.out.trans (if_neg h0))
      obtain ⟨z1, z2, z3⟩ := str_some h0
      clear h0 HR
      go_wp2_with fail
      go_ret2
      exact ⟨by rw [HF.out]; rfl, H1.out.below⟩
set_option maxRecDepth 100000 in
set_option maxHeartbeats 1000000 in
theorem made_2 (p : ByteArray) (o : Cop) (hk : o.kind = 2) (hp : p.size ≤ 140737488355328) (ho : o.new.size ≤ 140737488355328) (w : World) (hv : Vars w) :
    Calls Tryz.prog 14 #[.string p, copV o] w fun e w' => e = .returned (.tuple #[.string (madeO p o).1, .bool (madeO p o).2]) ∧ Below w.heap.size w w' := by
  have HX := Lib.hid (heldC_new w o 23)
  have HV := Lib.hid hv
  have HG := Lib.hid (fun W => get_any_rec p o.slot hp W)
  obtain ⟨R, hR⟩ : ∃ R, R = madeO p o := ⟨_, rfl⟩
  rw [← hR]
  have HR := Lib.hid (hR.trans (show madeO p o = if oldIs p o && decide (o.new.size = 0) then okB (cutO p o.slot) else noPage by unfold madeO; rw [hk]; rfl))
  have HC := Lib.hid (fun W => pcut_any p o.slot hp W)
  generalize cutO p o.slot = x at HC HR
  obtain ⟨qx, ex⟩ := x
  unfold outV at HC
  have HO := Lib.hid (show oldIs p o = (!decide ((Pg.slotAt (leafP p).recs o.slot).size = 0) && decide (o.old = Pg.slotAt (leafP p).recs o.slot)) from rfl)
  generalize oldIs p o = oi at HO HR
  generalize (!decide ((Pg.slotAt (leafP p).recs o.slot).size = 0)) = th at HO HG
  generalize Pg.slotAt (leafP p).recs o.slot = r at HO HG
  obtain ⟨kind, slot, old, new⟩ := o
  dsimp only [copV] at HX HG HO HR hk HC ⊢
  subst hk
  clear hR hv
  go_enter Tryz.func14, Tryz.ntmps14
  go_upto_region 2 with (go_at_call 20; refine (HG.out _).mono ?_; rintro e w1 ⟨rfl, hb1⟩)
  have H1 := Lib.hid (HX.out.step hb1)
  clear HX hb1
  obtain ⟨c0, c1, c2, c3, -⟩ := H1.out.v
  dsimp only at c0 c1 c2 c3
  go_cut [8] (fun s we => s = .bool oi ∧ w1 = we)
  case first =>
    cases th with
    | false =>
      have HO2 := Lib.hid (HO.out.trans (Bool.false_and _))
      go_wp2_with fail
      go_meet
      case rel => exact ⟨by rw [HO2.out], rfl⟩
    | true =>
      by_cases he : old = r
      · subst he
        have hq : (old.toList == old.toList) = true := beq_self_eq_true _
        have HO2 := Lib.hid (HO.out.trans (show _ = true by simp))
        go_wp2_with fail
        go_meet
        case rel => exact ⟨by rw [HO2.out], rfl⟩
      · have hq := str_ne he
        have HO2 := Lib.hid (HO.out.trans (show _ = false by simp [he]))
        clear he
        go_wp2_with fail
        go_meet
        case rel => exact ⟨by rw [HO2.out], rfl⟩
  case rest =>
    obtain ⟨rfl, rfl⟩ := hcut
    clear HO HG
    cases oi with
    | true =>
      by_cases h0 : new.size = 0
      · have HF := Lib.hid (HR.out.trans (if_pos (by simp [h0])))
        obtain ⟨z1, z2, z3⟩ := str_nil h0
        clear h0 HR
        go_wp2_with ((go_at_call 22; refine (HC.out _).mono ?_; rintro e w2 ⟨rfl, hb2⟩))
        go_ret2
        exact ⟨by rw [HF.out]; rfl, joinB H1.out.below hb2⟩
      · have HF := Lib.hid (HR.out.trans (if_neg (by simp [h0])))
        obtain ⟨z1, z2, z3⟩ := str_some h0
        clear h0 HR
        go_wp2_with fail
        go_ret2
        exact ⟨by rw [HF.out]; rfl, H1.out.below⟩
    | false =>
      have HF := Lib.hid (HR.out.trans (if_neg (by simp)))
      clear HR
      go_wp2_with fail
      go_ret2
      exact ⟨by rw [HF.out]; rfl, H1.out.below⟩
set_option maxRecDepth 100000 in
set_option maxHeartbeats 1000000 in
theorem made_3 (p : ByteArray) (o : Cop) (hk : o.kind = 3) (hp : p.size ≤ 140737488355328) (ho : o.new.size ≤ 140737488355328) (w : World) (hv : Vars w) :
    Calls Tryz.prog 14 #[.string p, copV o] w fun e w' => e = .returned (.tuple #[.string (madeO p o).1, .bool (madeO p o).2]) ∧ Below w.heap.size w w' := by
  have HX := Lib.hid (heldC_new w o 23)
  have HV := Lib.hid hv
  have HG := Lib.hid (fun W => get_any_rec p o.slot hp W)
  obtain ⟨R, hR⟩ : ∃ R, R = madeO p o := ⟨_, rfl⟩
  rw [← hR]
  have HR := Lib.hid (hR.trans (show madeO p o = if oldIs p o then okB (setO p o.slot o.new) else noPage by unfold madeO; rw [hk]; rfl))
  have HC := Lib.hid (fun W => pset_any p o.slot o.new hp W)
  generalize setO p o.slot o.new = x at HC HR
  obtain ⟨qx, ex⟩ := x
  unfold outV at HC
  have HO := Lib.hid (show oldIs p o = (!decide ((Pg.slotAt (leafP p).recs o.slot).size = 0) && decide (o.old = Pg.slotAt (leafP p).recs o.slot)) from rfl)
  generalize oldIs p o = oi at HO HR
  generalize (!decide ((Pg.slotAt (leafP p).recs o.slot).size = 0)) = th at HO HG
  generalize Pg.slotAt (leafP p).recs o.slot = r at HO HG
  obtain ⟨kind, slot, old, new⟩ := o
  dsimp only [copV] at HX HG HO HR hk HC ⊢
  subst hk
  clear hR hv
  go_enter Tryz.func14, Tryz.ntmps14
  go_upto_region 2 with (go_at_call 20; refine (HG.out _).mono ?_; rintro e w1 ⟨rfl, hb1⟩)
  have H1 := Lib.hid (HX.out.step hb1)
  clear HX hb1
  obtain ⟨c0, c1, c2, c3, -⟩ := H1.out.v
  dsimp only at c0 c1 c2 c3
  go_cut [8] (fun s we => s = .bool oi ∧ w1 = we)
  case first =>
    cases th with
    | false =>
      have HO2 := Lib.hid (HO.out.trans (Bool.false_and _))
      go_wp2_with fail
      go_meet
      case rel => exact ⟨by rw [HO2.out], rfl⟩
    | true =>
      by_cases he : old = r
      · subst he
        have hq : (old.toList == old.toList) = true := beq_self_eq_true _
        have HO2 := Lib.hid (HO.out.trans (show _ = true by simp))
        go_wp2_with fail
        go_meet
        case rel => exact ⟨by rw [HO2.out], rfl⟩
      · have hq := str_ne he
        have HO2 := Lib.hid (HO.out.trans (show _ = false by simp [he]))
        clear he
        go_wp2_with fail
        go_meet
        case rel => exact ⟨by rw [HO2.out], rfl⟩
  case rest =>
    obtain ⟨rfl, rfl⟩ := hcut
    clear HO HG
    cases oi with
    | true =>
      have HF := Lib.hid (HR.out.trans (if_pos rfl))
      clear HR
      go_wp2_with ((go_at_call 23; refine (HC.out _).mono ?_; rintro e w2 ⟨rfl, hb2⟩))
      go_ret2
      exact ⟨by rw [HF.out]; rfl, joinB H1.out.below hb2⟩
    | false =>
      have HF := Lib.hid (HR.out.trans (if_neg (by simp)))
      clear HR
      go_wp2_with fail
      go_ret2
      exact ⟨by rw [HF.out]; rfl, H1.out.below⟩
set_option maxRecDepth 100000 in
set_option maxHeartbeats 1000000 in
theorem made_4 (p : ByteArray) (o : Cop) (hk : o.kind = 4) (hp : p.size ≤ 140737488355328) (ho : o.new.size ≤ 140737488355328) (w : World) (hv : Vars w) :
    Calls Tryz.prog 14 #[.string p, copV o] w fun e w' => e = .returned (.tuple #[.string (madeO p o).1, .bool (madeO p o).2]) ∧ Below w.heap.size w w' := by
  have HX := Lib.hid (heldC_new w o 23)
  have HV := Lib.hid hv
  have HG := Lib.hid (fun W => get_any_rec p o.slot hp W)
  obtain ⟨R, hR⟩ : ∃ R, R = madeO p o := ⟨_, rfl⟩
  rw [← hR]
  have HR := Lib.hid (hR.trans (show madeO p o = if o.old.size = 0 then okB (addO p o.slot o.new) else noPage by unfold madeO; rw [hk]; rfl))
  have HC := Lib.hid (fun W => padd_any p o.slot o.new hp W)
  generalize addO p o.slot o.new = x at HC HR
  obtain ⟨qx, ex⟩ := x
  unfold outV at HC
  have HO := Lib.hid (show oldIs p o = (!decide ((Pg.slotAt (leafP p).recs o.slot).size = 0) && decide (o.old = Pg.slotAt (leafP p).recs o.slot)) from rfl)
  generalize oldIs p o = oi at HO HR
  generalize (!decide ((Pg.slotAt (leafP p).recs o.slot).size = 0)) = th at HO HG
  generalize Pg.slotAt (leafP p).recs o.slot = r at HO HG
  obtain ⟨kind, slot, old, new⟩ := o
  dsimp only [copV] at HX HG HO HR hk HC ⊢
  subst hk
  clear hR hv
  go_enter Tryz.func14, Tryz.ntmps14
  go_upto_region 2 with (go_at_call 20; refine (HG.out _).mono ?_; rintro e w1 ⟨rfl, hb1⟩)
  have H1 := Lib.hid (HX.out.step hb1)
  clear HX hb1
  obtain ⟨c0, c1, c2, c3, -⟩ := H1.out.v
  dsimp only at c0 c1 c2 c3
  go_cut [8] (fun s we => s = .bool oi ∧ w1 = we)
  case first =>
    cases th with
    | false =>
      have HO2 := Lib.hid (HO.out.trans (Bool.false_and _))
      go_wp2_with fail
      go_meet
      case rel => exact ⟨by rw [HO2.out], rfl⟩
    | true =>
      by_cases he : old = r
      · subst he
        have hq : (old.toList == old.toList) = true := beq_self_eq_true _
        have HO2 := Lib.hid (HO.out.trans (show _ = true by simp))
        go_wp2_with fail
        go_meet
        case rel => exact ⟨by rw [HO2.out], rfl⟩
      · have hq := str_ne he
        have HO2 := Lib.hid (HO.out.trans (show _ = false by simp [he]))
        clear he
        go_wp2_with fail
        go_meet
        case rel => exact ⟨by rw [HO2.out], rfl⟩
  case rest =>
    obtain ⟨rfl, rfl⟩ := hcut
    clear HO HG
    by_cases h0 : old.size = 0
    · have HF := Lib.hid (HR.out.trans (if_pos h0))
      obtain ⟨z1, z2, z3⟩ := str_nil h0
      clear h0 HR
      go_wp2_with ((go_at_call 24; refine (HC.out _).mono ?_; rintro e w2 ⟨rfl, hb2⟩))
      go_ret2
      exact ⟨by rw [HF.out]; rfl, joinB H1.out.below hb2⟩
    · have HF := Lib.hid (HR.out.trans (if_neg h0))
      obtain ⟨z1, z2, z3⟩ := str_some h0
      clear h0 HR
      go_wp2_with fail
      go_ret2
      exact ⟨by rw [HF.out]; rfl, H1.out.below⟩
set_option maxRecDepth 100000 in
set_option maxHeartbeats 1000000 in
theorem made_5 (p : ByteArray) (o : Cop) (hk : o.kind = 5) (hp : p.size ≤ 140737488355328) (ho : o.new.size ≤ 140737488355328) (w : World) (hv : Vars w) :
    Calls Tryz.prog 14 #[.string p, copV o] w fun e w' => e = .returned (.tuple #[.string (madeO p o).1, .bool (madeO p o).2]) ∧ Below w.heap.size w w' := by
  have HX := Lib.hid (heldC_new w o 23)
  have HV := Lib.hid hv
  have HG := Lib.hid (fun W => get_any_rec p o.slot hp W)
  obtain ⟨R, hR⟩ : ∃ R, R = madeO p o := ⟨_, rfl⟩
  rw [← hR]
  have HR := Lib.hid (hR.trans (show madeO p o = if oldIs p o && decide (o.new.size = 0) then okB (delO p o.slot) else noPage by unfold madeO; rw [hk]; rfl))
  have HC := Lib.hid (fun W => pdel_any p o.slot hp W)
  generalize delO p o.slot = x at HC HR
  obtain ⟨qx, ex⟩ := x
  unfold outV at HC
  have HO := Lib.hid (show oldIs p o = (!decide ((Pg.slotAt (leafP p).recs o.slot).size = 0) && decide (o.old = Pg.slotAt (leafP p).recs o.slot)) from rfl)
  generalize oldIs p o = oi at HO HR
  generalize (!decide ((Pg.slotAt (leafP p).recs o.slot).size = 0)) = th at HO HG
  generalize Pg.slotAt (leafP p).recs o.slot = r at HO HG
  obtain ⟨kind, slot, old, new⟩ := o
  dsimp only [copV] at HX HG HO HR hk HC ⊢
  subst hk
  clear hR hv
  go_enter Tryz.func14, Tryz.ntmps14
  go_upto_region 2 with (go_at_call 20; refine (HG.out _).mono ?_; rintro e w1 ⟨rfl, hb1⟩)
  have H1 := Lib.hid (HX.out.step hb1)
  clear HX hb1
  obtain ⟨c0, c1, c2, c3, -⟩ := H1.out.v
  dsimp only at c0 c1 c2 c3
  go_cut [8] (fun s we => s = .bool oi ∧ w1 = we)
  case first =>
    cases th with
    | false =>
      have HO2 := Lib.hid (HO.out.trans (Bool.false_and _))
      go_wp2_with fail
      go_meet
      case rel => exact ⟨by rw [HO2.out], rfl⟩
    | true =>
      by_cases he : old = r
      · subst he
        have hq : (old.toList == old.toList) = true := beq_self_eq_true _
        have HO2 := Lib.hid (HO.out.trans (show _ = true by simp))
        go_wp2_with fail
        go_meet
        case rel => exact ⟨by rw [HO2.out], rfl⟩
      · have hq := str_ne he
        have HO2 := Lib.hid (HO.out.trans (show _ = false by simp [he]))
        clear he
        go_wp2_with fail
        go_meet
        case rel => exact ⟨by rw [HO2.out], rfl⟩
  case rest =>
    obtain ⟨rfl, rfl⟩ := hcut
    clear HO HG
    cases oi with
    | true =>
      by_cases h0 : new.size = 0
      · have HF := Lib.hid (HR.out.trans (if_pos (by simp [h0])))
        obtain ⟨z1, z2, z3⟩ := str_nil h0
        clear h0 HR
        go_wp2_with ((go_at_call 25; refine (HC.out _).mono ?_; rintro e w2 ⟨rfl, hb2⟩))
        go_ret2
        exact ⟨by rw [HF.out]; rfl, joinB H1.out.below hb2⟩
      · have HF := Lib.hid (HR.out.trans (if_neg (by simp [h0])))
        obtain ⟨z1, z2, z3⟩ := str_some h0
        clear h0 HR
        go_wp2_with fail
        go_ret2
        exact ⟨by rw [HF.out]; rfl, H1.out.below⟩
    | false =>
      have HF := Lib.hid (HR.out.trans (if_neg (by simp)))
      clear HR
      go_wp2_with fail
      go_ret2
      exact ⟨by rw [HF.out]; rfl, H1.out.below⟩
set_option maxRecDepth 100000 in
set_option maxHeartbeats 1000000 in
theorem made_6 (p : ByteArray) (o : Cop) (hk : o.kind = 6) (hp : p.size ≤ 140737488355328) (ho : o.new.size ≤ 140737488355328) (w : World) (hv : Vars w) :
    Calls Tryz.prog 14 #[.string p, copV o] w fun e w' => e = .returned (.tuple #[.string (madeO p o).1, .bool (madeO p o).2]) ∧ Below w.heap.size w w' := by
  have HX := Lib.hid (heldC_new w o 23)
  have HV := Lib.hid hv
  have HG := Lib.hid (fun W => get_any_rec p o.slot hp W)
  obtain ⟨R, hR⟩ : ∃ R, R = madeO p o := ⟨_, rfl⟩
  rw [← hR]
  have HR := Lib.hid (hR.trans (show madeO p o = linkedO p o by unfold madeO; rw [hk]; rfl))
  have HC := Lib.hid (fun W hW => linked_any p o hp ho W hW)
  generalize linkedO p o = x at HC HR
  obtain ⟨qx, bx⟩ := x
  have HO := Lib.hid (show oldIs p o = (!decide ((Pg.slotAt (leafP p).recs o.slot).size = 0) && decide (o.old = Pg.slotAt (leafP p).recs o.slot)) from rfl)
  generalize oldIs p o = oi at HO HR
  generalize (!decide ((Pg.slotAt (leafP p).recs o.slot).size = 0)) = th at HO HG
  generalize Pg.slotAt (leafP p).recs o.slot = r at HO HG
  obtain ⟨kind, slot, old, new⟩ := o
  dsimp only [copV] at HX HG HO HR hk HC ⊢
  subst hk
  clear hR hv
  go_enter Tryz.func14, Tryz.ntmps14
  go_upto_region 2 with (go_at_call 20; refine (HG.out _).mono ?_; rintro e w1 ⟨rfl, hb1⟩)
  have H1 := Lib.hid (HX.out.step hb1)
  clear HX hb1
  obtain ⟨c0, c1, c2, c3, -⟩ := H1.out.v
  dsimp only at c0 c1 c2 c3
  go_cut [8] (fun s we => s = .bool oi ∧ w1 = we)
  case first =>
    cases th with
    | false =>
      have HO2 := Lib.hid (HO.out.trans (Bool.false_and _))
      go_wp2_with fail
      go_meet
      case rel => exact ⟨by rw [HO2.out], rfl⟩
    | true =>
      by_cases he : old = r
      · subst he
        have hq : (old.toList == old.toList) = true := beq_self_eq_true _
        have HO2 := Lib.hid (HO.out.trans (show _ = true by simp))
        go_wp2_with fail
        go_meet
        case rel => exact ⟨by rw [HO2.out], rfl⟩
      · have hq := str_ne he
        have HO2 := Lib.hid (HO.out.trans (show _ = false by simp [he]))
        clear he
        go_wp2_with fail
        go_meet
        case rel => exact ⟨by rw [HO2.out], rfl⟩
  case rest =>
    obtain ⟨rfl, rfl⟩ := hcut
    clear HO HG
    go_wp2_with ((go_at_call 26; refine (HC.out _ (HV.out.below H1.out.below)).mono ?_; rintro e w2 ⟨rfl, hb2⟩))
    go_ret2
    exact ⟨by rw [HR.out]; rfl, joinB H1.out.below hb2⟩
set_option maxRecDepth 100000 in
set_option maxHeartbeats 1000000 in
theorem made_7 (p : ByteArray) (o : Cop) (hk : o.kind = 7) (hp : p.size ≤ 140737488355328) (ho : o.new.size ≤ 140737488355328) (w : World) (hv : Vars w) :
    Calls Tryz.prog 14 #[.string p, copV o] w fun e w' => e = .returned (.tuple #[.string (madeO p o).1, .bool (madeO p o).2]) ∧ Below w.heap.size w w' := by
  have HX := Lib.hid (heldC_new w o 23)
  have HV := Lib.hid hv
  have HG := Lib.hid (fun W => get_any_rec p o.slot hp W)
  obtain ⟨R, hR⟩ : ∃ R, R = madeO p o := ⟨_, rfl⟩
  rw [← hR]
  have HR := Lib.hid (hR.trans (show madeO p o = wholeO p o by unfold madeO; rw [hk]; rfl))
  have HC := Lib.hid (fun W => whole_any p o hp ho W)
  generalize wholeO p o = x at HC HR
  obtain ⟨qx, bx⟩ := x
  have HO := Lib.hid (show oldIs p o = (!decide ((Pg.slotAt (leafP p).recs o.slot).size = 0) && decide (o.old = Pg.slotAt (leafP p).recs o.slot)) from rfl)
  generalize oldIs p o = oi at HO HR
  generalize (!decide ((Pg.slotAt (leafP p).recs o.slot).size = 0)) = th at HO HG
  generalize Pg.slotAt (leafP p).recs o.slot = r at HO HG
  obtain ⟨kind, slot, old, new⟩ := o
  dsimp only [copV] at HX HG HO HR hk HC ⊢
  subst hk
  clear hR hv
  go_enter Tryz.func14, Tryz.ntmps14
  go_upto_region 2 with (go_at_call 20; refine (HG.out _).mono ?_; rintro e w1 ⟨rfl, hb1⟩)
  have H1 := Lib.hid (HX.out.step hb1)
  clear HX hb1
  obtain ⟨c0, c1, c2, c3, -⟩ := H1.out.v
  dsimp only at c0 c1 c2 c3
  go_cut [8] (fun s we => s = .bool oi ∧ w1 = we)
  case first =>
    cases th with
    | false =>
      have HO2 := Lib.hid (HO.out.trans (Bool.false_and _))
      go_wp2_with fail
      go_meet
      case rel => exact ⟨by rw [HO2.out], rfl⟩
    | true =>
      by_cases he : old = r
      · subst he
        have hq : (old.toList == old.toList) = true := beq_self_eq_true _
        have HO2 := Lib.hid (HO.out.trans (show _ = true by simp))
        go_wp2_with fail
        go_meet
        case rel => exact ⟨by rw [HO2.out], rfl⟩
      · have hq := str_ne he
        have HO2 := Lib.hid (HO.out.trans (show _ = false by simp [he]))
        clear he
        go_wp2_with fail
        go_meet
        case rel => exact ⟨by rw [HO2.out], rfl⟩
  case rest =>
    obtain ⟨rfl, rfl⟩ := hcut
    clear HO HG
    go_wp2_with ((go_at_call 27; refine (HC.out _).mono ?_; rintro e w2 ⟨rfl, hb2⟩))
    go_ret2
    exact ⟨by rw [HR.out]; rfl, joinB H1.out.below hb2⟩
set_option maxRecDepth 100000 in
set_option maxHeartbeats 1000000 in
theorem made_none (p : ByteArray) (o : Cop) (hk : ¬ (1 ≤ o.kind ∧ o.kind ≤ 7)) (hp : p.size ≤ 140737488355328) (ho : o.new.size ≤ 140737488355328) (w : World) (hv : Vars w) :
    Calls Tryz.prog 14 #[.string p, copV o] w fun e w' => e = .returned (.tuple #[.string (madeO p o).1, .bool (madeO p o).2]) ∧ Below w.heap.size w w' := by
  have HX := Lib.hid (heldC_new w o 23)
  have HV := Lib.hid hv
  have HG := Lib.hid (fun W => get_any_rec p o.slot hp W)
  obtain ⟨R, hR⟩ : ∃ R, R = madeO p o := ⟨_, rfl⟩
  rw [← hR]
  have HR := Lib.hid (hR.trans (show madeO p o = noPage by unfold madeO; rw [if_neg (by omega), if_neg (by omega), if_neg (by omega), if_neg (by omega), if_neg (by omega), if_neg (by omega), if_neg (by omega)]))
  have HO := Lib.hid (show oldIs p o = (!decide ((Pg.slotAt (leafP p).recs o.slot).size = 0) && decide (o.old = Pg.slotAt (leafP p).recs o.slot)) from rfl)
  generalize oldIs p o = oi at HO HR
  generalize (!decide ((Pg.slotAt (leafP p).recs o.slot).size = 0)) = th at HO HG
  generalize Pg.slotAt (leafP p).recs o.slot = r at HO HG
  obtain ⟨kind, slot, old, new⟩ := o
  dsimp only [copV] at HX HG HO HR hk ⊢
  have k1 : (kind == 1) = false := by simp; omega
  have k2 : (kind == 2) = false := by simp; omega
  have k3 : (kind == 3) = false := by simp; omega
  have k4 : (kind == 4) = false := by simp; omega
  have k5 : (kind == 5) = false := by simp; omega
  have k6 : (kind == 6) = false := by simp; omega
  have k7 : (kind == 7) = false := by simp; omega
  clear hR hv hk
  go_enter Tryz.func14, Tryz.ntmps14
  go_upto_region 2 with (go_at_call 20; refine (HG.out _).mono ?_; rintro e w1 ⟨rfl, hb1⟩)
  have H1 := Lib.hid (HX.out.step hb1)
  clear HX hb1
  obtain ⟨c0, c1, c2, c3, -⟩ := H1.out.v
  dsimp only at c0 c1 c2 c3
  go_cut [8] (fun s we => s = .bool oi ∧ w1 = we)
  case first =>
    cases th with
    | false =>
      have HO2 := Lib.hid (HO.out.trans (Bool.false_and _))
      go_wp2_with fail
      go_meet
      case rel => exact ⟨by rw [HO2.out], rfl⟩
    | true =>
      by_cases he : old = r
      · subst he
        have hq : (old.toList == old.toList) = true := beq_self_eq_true _
        have HO2 := Lib.hid (HO.out.trans (show _ = true by simp))
        go_wp2_with fail
        go_meet
        case rel => exact ⟨by rw [HO2.out], rfl⟩
      · have hq := str_ne he
        have HO2 := Lib.hid (HO.out.trans (show _ = false by simp [he]))
        clear he
        go_wp2_with fail
        go_meet
        case rel => exact ⟨by rw [HO2.out], rfl⟩
  case rest =>
    obtain ⟨rfl, rfl⟩ := hcut
    clear HO HG
    have HF := Lib.hid HR.out
    clear HR
    go_wp2_with fail
    go_ret2
    exact ⟨by rw [HF.out]; rfl, H1.out.below⟩
theorem made_cop (p : ByteArray) (o : Cop) (hp : p.size ≤ 140737488355328) (ho : o.new.size ≤ 140737488355328) (w : World) (hv : Vars w) :
    Calls Tryz.prog 14 #[.string p, copV o] w fun e w' => e = .returned (.tuple #[.string (madeO p o).1, .bool (madeO p o).2]) ∧ Below w.heap.size w w' := by
  by_cases h : 1 ≤ o.kind ∧ o.kind ≤ 7
  · obtain h | h | h | h | h | h | h : o.kind = 1 ∨ o.kind = 2 ∨ o.kind = 3 ∨ o.kind = 4 ∨ o.kind = 5 ∨ o.kind = 6 ∨ o.kind = 7 := by omega
    · exact made_1 p o h hp ho w hv
    · exact made_2 p o h hp ho w hv
    · exact made_3 p o h hp ho w hv
    · exact made_4 p o h hp ho w hv
    · exact made_5 p o h hp ho w hv
    · exact made_6 p o h hp ho w hv
    · exact made_7 p o h hp ho w hv
  · exact made_none p o h hp ho w hv
end Go.Proofs.YtkndifannjpbcaaGreatDoor
/- The walks over package change: Right, Do, Back. -/
namespace Go.Proofs.YtkndifannjpbcaaGreatDoor
open Go.RowKit
set_option maxHeartbeats 1000000 in
theorem cright_any (p : ByteArray) (o : Cop) (hp : p.size ≤ 140737488355328) (ho : o.new.size ≤ 140737488355328) (w : World) (hv : Vars w) :
    Calls Tryz.prog 8 #[.string p, copV o] w fun e w' => e = .returned (.bool (rightO p o)) ∧ Below w.heap.size w w' := by
  have HM := Lib.hid (fun W hW => made_cop p o hp ho W hW)
  have HR := Lib.hid (fun W => right_any p hp W)
  have HV := Lib.hid (hv.below (allocB w (.cells #[.int .i64 o.kind, .int .i64 o.slot, .string o.old, .string o.new] 23)))
  unfold rightO
  generalize isPg p = b at HR ⊢
  generalize madeO p o = x at HM ⊢
  obtain ⟨qx, bx⟩ := x
  obtain ⟨kind, slot, old, new⟩ := o
  dsimp only [copV] at HM HV ⊢
  clear hv ho
  cases b with
  | true =>
    go_enter Tryz.func8, Tryz.ntmps8
    go_wp2_with (first | (go_at_call 14; refine (HM.out _ HV.out).mono ?_; rintro e w1 ⟨rfl, hb1⟩) | (go_at_call 16; refine (HR.out _).mono ?_; rintro e w2 ⟨rfl, hb2⟩))
    go_ret
    exact ⟨by simp, joinB (joinB (allocB _ _) hb1) hb2⟩
  | false =>
    go_enter Tryz.func8, Tryz.ntmps8
    go_wp2_with (first | (go_at_call 14; refine (HM.out _ HV.out).mono ?_; rintro e w1 ⟨rfl, hb1⟩) | (go_at_call 16; refine (HR.out _).mono ?_; rintro e w2 ⟨rfl, hb2⟩))
    go_ret
    exact ⟨by simp, joinB (joinB (allocB _ _) hb1) hb2⟩
theorem do_yes {p : ByteArray} {o : Cop} (h : rightO p o = true) : doO p o = ((madeO p o).1, 0) := by unfold doO; rw [if_pos h]
theorem do_no {p : ByteArray} {o : Cop} (h : rightO p o = false) : doO p o = (⟨#[]⟩, 1) := by unfold doO; rw [if_neg (by rw [h]; simp)]
set_option maxHeartbeats 1000000 in
theorem do_any (p : ByteArray) (o : Cop) (hp : p.size ≤ 140737488355328) (ho : o.new.size ≤ 140737488355328) (w : World) (hv : Vars w) :
    Calls Tryz.prog 6 #[.string p, copV o] w fun e w' => e = .returned (outV (doO p o)) ∧ Below w.heap.size w w' := by
  have HM := Lib.hid (fun W hW => made_cop p o hp ho W hW)
  have HR := Lib.hid (fun W hW => cright_any p o hp ho W hW)
  have HX := Lib.hid (heldC_new w o 23)
  have HV := Lib.hid (hv.below (allocB w (.cells #[.int .i64 o.kind, .int .i64 o.slot, .string o.old, .string o.new] 23)))
  have HY := Lib.hid (fun h => do_yes (p := p) (o := o) h)
  have HN := Lib.hid (fun h => do_no (p := p) (o := o) h)
  generalize doO p o = R at HY HN ⊢
  generalize rightO p o = b at HR HY HN
  generalize madeO p o = x at HM HY
  obtain ⟨qx, bx⟩ := x
  obtain ⟨kind, slot, old, new⟩ := o
  dsimp only [copV] at HM HR HV HX ⊢
  clear hv ho
  cases b with
  | true =>
    have HF := Lib.hid (HY.out rfl)
    clear HY HN
    go_enter Tryz.func6, Tryz.ntmps6
    go_wp2_with (first | (go_at_call 8; refine (HR.out _ HV.out).mono ?_; rintro e w1 ⟨rfl, hb1⟩; obtain ⟨c0, c1, c2, c3, -⟩ := (HX.out.step hb1).v; dsimp only at c0 c1 c2 c3) | (go_at_call 14; refine (HM.out _ (HV.out.below hb1)).mono ?_; rintro e w2 ⟨rfl, hb2⟩))
    go_ret2
    exact ⟨by rw [HF.out]; rfl, joinB (joinB (allocB _ _) hb1) hb2⟩
  | false =>
    have HF := Lib.hid (HN.out rfl)
    clear HY HN
    go_enter Tryz.func6, Tryz.ntmps6
    go_wp2_with ((go_at_call 8; refine (HR.out _ HV.out).mono ?_; rintro e w1 ⟨rfl, hb1⟩))
    go_ret2
    exact ⟨by rw [HF.out]; rfl, joinB (allocB _ _) hb1⟩
set_option maxRecDepth 100000 in
theorem back_1 (kind slot : Int) (old new : ByteArray) (hk : kind = 1) (w : World) :
    Calls Tryz.prog 10 #[.agg #[.int .i64 kind, .int .i64 slot, .string old, .string new]] w fun e w' => e = .returned (.agg #[.int .i64 2, .int .i64 slot, .string new, .string old]) ∧ Below w.heap.size w w' := by
  subst hk
  go_enter Tryz.func10, Tryz.ntmps10
  go_wp2_with fail
  refine bodyPost_ret (v := .agg #[.int .i64 2, .int .i64 slot, .string new, .string old]) (by simp [results, Tryz.results10, go_sem]) rfl ⟨rfl, pastAlloc (allocB _ _)⟩
set_option maxRecDepth 100000 in
theorem back_2 (kind slot : Int) (old new : ByteArray) (hk : kind = 2) (w : World) :
    Calls Tryz.prog 10 #[.agg #[.int .i64 kind, .int .i64 slot, .string old, .string new]] w fun e w' => e = .returned (.agg #[.int .i64 1, .int .i64 slot, .string new, .string old]) ∧ Below w.heap.size w w' := by
  subst hk
  go_enter Tryz.func10, Tryz.ntmps10
  go_wp2_with fail
  refine bodyPost_ret (v := .agg #[.int .i64 1, .int .i64 slot, .string new, .string old]) (by simp [results, Tryz.results10, go_sem]) rfl ⟨rfl, pastAlloc (allocB _ _)⟩
set_option maxRecDepth 100000 in
theorem back_4 (kind slot : Int) (old new : ByteArray) (hk : kind = 4) (w : World) :
    Calls Tryz.prog 10 #[.agg #[.int .i64 kind, .int .i64 slot, .string old, .string new]] w fun e w' => e = .returned (.agg #[.int .i64 5, .int .i64 slot, .string new, .string old]) ∧ Below w.heap.size w w' := by
  subst hk
  go_enter Tryz.func10, Tryz.ntmps10
  go_wp2_with fail
  refine bodyPost_ret (v := .agg #[.int .i64 5, .int .i64 slot, .string new, .string old]) (by simp [results, Tryz.results10, go_sem]) rfl ⟨rfl, pastAlloc (allocB _ _)⟩
set_option maxRecDepth 100000 in
theorem back_5 (kind slot : Int) (old new : ByteArray) (hk : kind = 5) (w : World) :
    Calls Tryz.prog 10 #[.agg #[.int .i64 kind, .int .i64 slot, .string old, .string new]] w fun e w' => e = .returned (.agg #[.int .i64 4, .int .i64 slot, .string new, .string old]) ∧ Below w.heap.size w w' := by
  subst hk
  go_enter Tryz.func10, Tryz.ntmps10
  go_wp2_with fail
  refine bodyPost_ret (v := .agg #[.int .i64 4, .int .i64 slot, .string new, .string old]) (by simp [results, Tryz.results10, go_sem]) rfl ⟨rfl, pastAlloc (allocB _ _)⟩
set_option maxRecDepth 100000 in
theorem back_none (kind slot : Int) (old new : ByteArray) (hk : ¬ (kind = 1 ∨ kind = 2 ∨ kind = 4 ∨ kind = 5)) (w : World) :
    Calls Tryz.prog 10 #[.agg #[.int .i64 kind, .int .i64 slot, .string old, .string new]] w fun e w' => e = .returned (.agg #[.int .i64 kind, .int .i64 slot, .string new, .string old]) ∧ Below w.heap.size w w' := by
  have k1 : (kind == 1) = false := by simp; omega
  have k2 : (kind == 2) = false := by simp; omega
  have k4 : (kind == 4) = false := by simp; omega
  have k5 : (kind == 5) = false := by simp; omega
  clear hk
  go_enter Tryz.func10, Tryz.ntmps10
  go_wp2_with fail
  refine bodyPost_ret (v := .agg #[.int .i64 kind, .int .i64 slot, .string new, .string old]) (by simp [results, Tryz.results10, go_sem]) rfl ⟨rfl, pastAlloc (allocB _ _)⟩
theorem cback_any (o : Cop) (w : World) :
    Calls Tryz.prog 10 #[copV o] w fun e w' => e = .returned (copV (backO o)) ∧ Below w.heap.size w w' := by
  obtain ⟨kind, slot, old, new⟩ := o
  by_cases h : kind = 1 ∨ kind = 2 ∨ kind = 4 ∨ kind = 5
  · rcases h with rfl | rfl | rfl | rfl
    · exact back_1 1 slot old new rfl w
    · exact back_2 2 slot old new rfl w
    · exact back_4 4 slot old new rfl w
    · exact back_5 5 slot old new rfl w
  · have := back_none kind slot old new h w
    have e : backO ⟨kind, slot, old, new⟩ = ⟨kind, slot, new, old⟩ := by
      unfold backO backK
      simp only
      rw [if_neg (by omega), if_neg (by omega), if_neg (by omega), if_neg (by omega)]
    rw [e]
    exact this
end Go.Proofs.YtkndifannjpbcaaGreatDoor
/- The walks over the reference's numbers: In, Text, Parse. -/
namespace Go.Proofs.YtkndifannjpbcaaGreatDoor
open Go.RowKit NumPlain


theorem rin_any (a : Int) (w : World) :
    Calls Tryz.prog 62 #[.int .i64 a] w fun e w' => e = .returned (.bool (inN a)) ∧ w = w' := by
  go_enter Tryz.func62, Tryz.ntmps62
  go_wp2
  · go_ret
    rename_i h
    exact ⟨by simp [inN, h], rfl⟩
  · go_ret
    rename_i h
    exact ⟨by simp [inN]; omega, rfl⟩

abbrev twoN (r : Int × Bool) : Ending := .returned (.tuple #[.int .i64 r.1, .bool r.2])

/-- A string of bytes, by its list. -/
theorem bytesEqN {s : ByteArray} {l : List UInt8} (h : l = s.data.toList) : (⟨l.toArray⟩ : ByteArray) = s := by
  subst h; cases s; simp
theorem bytesNeN {s : ByteArray} {l : List UInt8} (h : l ≠ s.data.toList) : (⟨l.toArray⟩ : ByteArray) ≠ s := by
  rintro rfl; simp at h

theorem bytes_list (l : List UInt8) : (⟨l.toArray⟩ : ByteArray).data.toList = l := by simp
theorem bytes_cat (l r : List UInt8) : (⟨l.toArray⟩ : ByteArray) ++ ⟨r.toArray⟩ = ⟨(l ++ r).toArray⟩ := by
  apply ByteArray.ext
  simp

theorem rtext_small (n : Int) (w : World) (hs : n.natAbs < 10) :
    Calls Tryz.prog 36 #[.int .i64 n] w fun e w' => e = .returned (.string ⟨(Lib.itoa n).toArray⟩) ∧ ∃ m, w' = w.drewN m := by
  by_cases hn : n < 0
  · obtain ⟨d, rfl⟩ : ∃ d : Nat, n = -(d : Int) := ⟨n.natAbs, by omega⟩
    go_enter Tryz.func36, Tryz.ntmps36
    go_wp2_with fail
    go_ret
    exact ⟨congrArg (fun s => Ending.returned (Value.string s)) (by
      rw [itoa_minus (by omega) (by omega)]
      rw [Nat.add_comm 1 d]
      show (⟨#[45]⟩ : ByteArray) ++ digits.extract d (d + 1) = _
      rw [digits_piece d (by omega)]; rfl), 0, rfl⟩
  · obtain ⟨d, rfl⟩ : ∃ d : Nat, n = (d : Int) := ⟨n.natAbs, by omega⟩
    go_enter Tryz.func36, Tryz.ntmps36
    go_wp2_with fail
    go_ret
    exact ⟨congrArg (fun s => Ending.returned (Value.string s)) (by
      rw [itoa_one (by omega)]
      exact digits_piece d (by omega)), 0, rfl⟩

/-- The last region of the reference's Text, at a number that is not below 0. -/
theorem rtext_pos (n q : Int) (r : Nat) (w : World) (h1 : 10 ≤ n) (h2 : n ≤ 9223372036854775807) (hr10 : r < 10) (hm : n % 10 = (r : Int)) (hq : n / 10 = q)
    (hc : ∀ W, Calls Tryz.prog 36 #[.int .i64 q] W fun e w' => e = .returned (.string ⟨(Lib.itoa q).toArray⟩) ∧ ∃ m, w' = W.drewN m)
    (hf : (⟨(Lib.itoa q).toArray⟩ : ByteArray) ++ digits.extract r (r + 1) = ⟨(Lib.itoa n).toArray⟩) :
    Calls Tryz.prog 36 #[.int .i64 n] w fun e w' => e = .returned (.string ⟨(Lib.itoa n).toArray⟩) ∧ ∃ m, w' = w.drewN m := by
  have hw : IntKind.i64.wrap (n.tdiv 10) = q := by
    rw [Int.tdiv_eq_ediv_of_nonneg (by omega), hq]
    exact IntWalk.i64_in _ (by omega)
  have hw2 : IntKind.i64.wrap ((r : Int) + 1) = (r : Int) + 1 := IntWalk.i64_in _ (by omega)
  have hw3 : 0 ≤ (r : Int) + 1 := by omega
  have hw4 : ((r : Int) + 1).toNat = r + 1 := by omega
  have hw5 : (r : Int) ≤ (r : Int) + 1 := by omega
  have hw6 : (r : Int) + 1 ≤ 10 := by omega
  have hql : (Lib.itoa q).length ≤ 21 := Lib.itoa_length_le q (by omega) (by omega)
  obtain ⟨t, ht⟩ : ∃ t : ByteArray, t = ⟨(Lib.itoa q).toArray⟩ := ⟨_, rfl⟩
  have hts : t.size = (Lib.itoa q).length := by rw [ht]; rfl
  have hadd : ∀ W : World, (Op.stringOp .add t ((⟨#[48, 49, 50, 51, 52, 53, 54, 55, 56, 57]⟩ : ByteArray).extract r (r + 1))).run Tryz.prog W = .ok (.string (t ++ (⟨#[48, 49, 50, 51, 52, 53, 54, 55, 56, 57]⟩ : ByteArray).extract r (r + 1))) W := by
    intro W
    refine run_string_add_sum W _ _ ?_
    rw [hts, ByteArray.size_extract]
    omega
  rw [← ht] at hc hf
  have HC := Lib.hid hc
  have HF := Lib.hid hf
  clear hc hf ht hts hql
  go_enter Tryz.func36, Tryz.ntmps36
  go_wp2_with fail
  go_quiet ((go_at_call 36; exact Calls.quiet_of (HC.out _)))
  clear hw hw2 hw3 hw4 hw5 hw6 hadd
  go_wp2_with fail
  go_ret
  exact ⟨congrArg (fun s => Ending.returned (Value.string s)) HF.out, _, rfl⟩
/-- The last region of the reference's Text, at a number below 0. -/
theorem rtext_neg (n q : Int) (r : Nat) (w : World) (h1 : n ≤ -10) (h2 : -9223372036854775808 ≤ n) (hr10 : r < 10) (hr0 : 0 < r) (hm : n.tmod 10 = -(r : Int)) (hq : n.tdiv 10 = q) (hqb : -922337203685477580 ≤ q ∧ q < 0)
    (hc : ∀ W, Calls Tryz.prog 36 #[.int .i64 q] W fun e w' => e = .returned (.string ⟨(Lib.itoa q).toArray⟩) ∧ ∃ m, w' = W.drewN m)
    (hf : (⟨(Lib.itoa q).toArray⟩ : ByteArray) ++ digits.extract r (r + 1) = ⟨(Lib.itoa n).toArray⟩) :
    Calls Tryz.prog 36 #[.int .i64 n] w fun e w' => e = .returned (.string ⟨(Lib.itoa n).toArray⟩) ∧ ∃ m, w' = w.drewN m := by
  have hw : IntKind.i64.wrap (n.tdiv 10) = q := by
    rw [hq]
    exact IntWalk.i64_in _ (by omega)
  have hw2 : IntKind.i64.wrap ((r : Int) + 1) = (r : Int) + 1 := IntWalk.i64_in _ (by omega)
  have hw3 : 0 ≤ (r : Int) + 1 := by omega
  have hw4 : ((r : Int) + 1).toNat = r + 1 := by omega
  have hw5 : (r : Int) ≤ (r : Int) + 1 := by omega
  have hw6 : (r : Int) + 1 ≤ 10 := by omega
  have hql : (Lib.itoa q).length ≤ 21 := Lib.itoa_length_le q (by omega) (by omega)
  obtain ⟨t, ht⟩ : ∃ t : ByteArray, t = ⟨(Lib.itoa q).toArray⟩ := ⟨_, rfl⟩
  have hts : t.size = (Lib.itoa q).length := by rw [ht]; rfl
  have hadd : ∀ W : World, (Op.stringOp .add t ((⟨#[48, 49, 50, 51, 52, 53, 54, 55, 56, 57]⟩ : ByteArray).extract r (r + 1))).run Tryz.prog W = .ok (.string (t ++ (⟨#[48, 49, 50, 51, 52, 53, 54, 55, 56, 57]⟩ : ByteArray).extract r (r + 1))) W := by
    intro W
    refine run_string_add_sum W _ _ ?_
    rw [hts, ByteArray.size_extract]
    omega
  rw [← ht] at hc hf
  have HC := Lib.hid hc
  have HF := Lib.hid hf
  clear hc hf ht hts hql
  go_enter Tryz.func36, Tryz.ntmps36
  go_wp2_with fail
  go_quiet ((go_at_call 36; exact Calls.quiet_of (HC.out _)))
  clear hw hw2 hw3 hw4 hw5 hw6 hadd
  go_wp2_with fail
  go_ret
  exact ⟨congrArg (fun s => Ending.returned (Value.string s)) HF.out, _, rfl⟩

/-- The last region of the reference's Text, at a number below 0. -/
theorem rtext_zero (n q : Int) (w : World) (h1 : n ≤ -10) (h2 : -9223372036854775808 ≤ n) (hm : n.tmod 10 = 0) (hq : n.tdiv 10 = q) (hqb : -922337203685477580 ≤ q ∧ q < 0)
    (hc : ∀ W, Calls Tryz.prog 36 #[.int .i64 q] W fun e w' => e = .returned (.string ⟨(Lib.itoa q).toArray⟩) ∧ ∃ m, w' = W.drewN m)
    (hf : (⟨(Lib.itoa q).toArray⟩ : ByteArray) ++ digits.extract 0 1 = ⟨(Lib.itoa n).toArray⟩) :
    Calls Tryz.prog 36 #[.int .i64 n] w fun e w' => e = .returned (.string ⟨(Lib.itoa n).toArray⟩) ∧ ∃ m, w' = w.drewN m := by
  have hw : IntKind.i64.wrap (n.tdiv 10) = q := by
    rw [hq]
    exact IntWalk.i64_in _ (by omega)
  have hql : (Lib.itoa q).length ≤ 21 := Lib.itoa_length_le q (by omega) (by omega)
  obtain ⟨t, ht⟩ : ∃ t : ByteArray, t = ⟨(Lib.itoa q).toArray⟩ := ⟨_, rfl⟩
  have hts : t.size = (Lib.itoa q).length := by rw [ht]; rfl
  have hadd : ∀ W : World, (Op.stringOp .add t ((⟨#[48, 49, 50, 51, 52, 53, 54, 55, 56, 57]⟩ : ByteArray).extract 0 1)).run Tryz.prog W = .ok (.string (t ++ (⟨#[48, 49, 50, 51, 52, 53, 54, 55, 56, 57]⟩ : ByteArray).extract 0 1)) W := by
    intro W
    refine run_string_add_sum W _ _ ?_
    rw [hts, ByteArray.size_extract]
    omega
  rw [← ht] at hc hf
  have HC := Lib.hid hc
  have HF := Lib.hid hf
  clear hc hf ht hts hql
  go_enter Tryz.func36, Tryz.ntmps36
  go_wp2_with fail
  go_quiet ((go_at_call 36; exact Calls.quiet_of (HC.out _)))
  clear hw hadd
  go_wp2_with fail
  go_ret
  exact ⟨congrArg (fun s => Ending.returned (Value.string s)) HF.out, _, rfl⟩

theorem rtext_any (k : Nat) : ∀ (n : Int) (w : World), n.natAbs ≤ k → -9223372036854775808 ≤ n → n ≤ 9223372036854775807 →
    Calls Tryz.prog 36 #[.int .i64 n] w fun e w' => e = .returned (.string ⟨(Lib.itoa n).toArray⟩) ∧ ∃ m, w' = w.drewN m := by
  induction k with
  | zero => exact fun n w hk _ _ => rtext_small n w (by omega)
  | succ k ih =>
    intro n w hk h0 h1
    by_cases hs : n.natAbs < 10
    · exact rtext_small n w hs
    · have HS := itoa_step (n := n) (by omega)
      have hf : (⟨(Lib.itoa (n.tdiv 10)).toArray⟩ : ByteArray) ++ digits.extract (n.natAbs % 10) (n.natAbs % 10 + 1) = ⟨(Lib.itoa n).toArray⟩ := by
        rw [HS, digits_piece _ (by omega)]
        exact bytes_cat _ _
      by_cases hn : n < 0
      · obtain ⟨e1, e2⟩ := tdiv10_neg hn
        by_cases hz : n.natAbs % 10 = 0
        · have e3 : n.tmod 10 = 0 := by omega
          rw [hz] at hf
          exact rtext_zero n (n.tdiv 10) w (by omega) h0 e3 rfl (by omega) (fun W => ih _ W (by omega) (by omega) (by omega)) hf
        · exact rtext_neg n (n.tdiv 10) (n.natAbs % 10) w (by omega) h0 (by omega) (by omega) e2 rfl (by omega) (fun W => ih _ W (by omega) (by omega) (by omega)) hf
      · have e1 : n / 10 = n.tdiv 10 := by rw [Int.tdiv_eq_ediv_of_nonneg (by omega)]
        exact rtext_pos n (n.tdiv 10) (n.natAbs % 10) w (by omega) h1 (by omega) (by omega) e1 (fun W => ih _ W (by omega) (by omega) (by omega)) hf
theorem ret_two {a b : Int} {x y : Bool} (h : a = b) (k : x = y) : Ending.returned (.tuple #[.int .i64 a, .bool x]) = .returned (.tuple #[.int .i64 b, .bool y]) := by rw [h, k]

theorem gather_snoc (s : ByteArray) (k : Nat) (h : k < s.size) : gather 0 (s.data.toList.take (k + 1)) = if 48 ≤ (s[k].toNat : Int) ∧ (s[k].toNat : Int) ≤ 57 then 10 * gather 0 (s.data.toList.take k) + s[k].toNat - 48 else gather 0 (s.data.toList.take k) := by
  have e : s.data.toList.take (k + 1) = s.data.toList.take k ++ [s[k]] := by
    rw [List.take_succ_eq_append_getElem (by simpa using h)]; rfl
  rw [e, gather_append]
  simp only [gather]
  by_cases hc : 48 ≤ s[k].toNat ∧ s[k].toNat ≤ 57
  · rw [if_pos hc, if_pos (by omega)]
  · rw [if_neg hc, if_neg (by omega)]

theorem gather_lt (s : ByteArray) (h17 : s.size ≤ 17) (k : Nat) : 0 ≤ gather 0 (s.data.toList.take k) ∧ gather 0 (s.data.toList.take k) < 100000000000000000 := by
  obtain ⟨h1, h2⟩ := gather_bound (s.data.toList.take k) 0 (by omega)
  refine ⟨h1, Int.lt_of_lt_of_le h2 ?_⟩
  have hl : (s.data.toList.take k).length ≤ 17 := by
    have : s.data.toList.length = s.size := by simp
    rw [List.length_take]; omega
  have : (10 : Int) ^ (s.data.toList.take k).length ≤ 10 ^ 17 := by exact_mod_cast Nat.pow_le_pow_right (n := 10) (by omega) hl
  omega

/-- The end of the reference's Parse: what becomes of the number that was gathered. -/
def closeR (s : ByteArray) (n : Int) : Int × Bool := if inN n && decide (Lib.itoa n = s.data.toList) then (n, true) else (0, false)

/-- The last test of the reference's Parse, as a contract of the twoN functions that it calls. -/
theorem take_all (s : ByteArray) : s.data.toList.take s.size = s.data.toList := List.take_of_length_le (by simp)
theorem signed_first (s : ByteArray) (h : 0 < s.size) : signed s.data.toList = if ((s[0].toNat : Int) == 45) = true then - gather 0 s.data.toList else gather 0 s.data.toList := by
  have e : s.data.toList.head? = some s[0] := by
    rw [List.head?_eq_getElem?, List.getElem?_eq_getElem (by simpa using h)]; rfl
  unfold signed
  rw [e]
  by_cases hc : s[0] = 45
  · rw [if_pos (by rw [hc]), if_pos (by rw [hc]; rfl)]
  · rw [if_neg (by simpa using hc), if_neg]
    intro h1
    apply hc
    have h2 : (s[0].toNat : Int) = 45 := by simpa using h1
    have h3 : s[0].toNat = 45 := by exact_mod_cast h2
    exact UInt8.toNat_inj.1 h3
theorem signed_none (s : ByteArray) (h : ¬ 0 < s.size) : signed s.data.toList = gather 0 s.data.toList := by
  have e : s.data.toList = [] := List.eq_nil_of_length_eq_zero (by have h9 : s.data.toList.length = s.size := (by simp); omega)
  rw [e]; rfl

set_option maxHeartbeats 400000 in
theorem rparse_short (s : ByteArray) (h17 : s.size ≤ 17) (w : World) :
    Calls Tryz.prog 34 #[.string s] w fun e w' => e = twoN (closeR s (signed s.data.toList)) ∧ ∃ m, w' = w.drewN m := by
  go_enter Tryz.func34, Tryz.ntmps34
  go_wp2_with fail
  go_loop [4, 5] (fun n i => ∃ k : Nat, k ≤ s.size ∧ i = .int .i64 k ∧ n = .int .i64 (gather 0 (s.data.toList.take k))) (fun _ i => s.size - (intOf i).toNat)
  case atStart => exact ⟨0, Nat.zero_le _, rfl, rfl⟩
  case round =>
    obtain ⟨k, hk, rfl, rfl⟩ := hrel
    obtain ⟨g0, g1⟩ := gather_lt s h17 k
    by_cases hlt : k < s.size
    · have HG := Lib.hid (gather_snoc s k hlt)
      go_wp2_with fail
      all_goals
        go_round
        case rel => exact ⟨k + 1, by omega, by go_num, by rw [HG.out]; first | (rw [if_pos (by omega)]; done) | (rw [if_pos (by omega)]; go_num) | (rw [if_neg (by omega)])⟩
        case measure => simp [intOf]; omega
    · obtain rfl : k = s.size := by omega
      have HT := Lib.hid (take_all s)
      generalize hg : gather 0 (s.data.toList.take s.size) = g at g0 g1 ⊢
      have hg' : gather 0 s.data.toList = g := by rw [← HT.out]; exact hg
      obtain ⟨v, hv, hcase⟩ : ∃ v : Int, signed s.data.toList = v ∧ ((0 < s.size ∧ ((s[0]?.getD 0).toNat : Int) = 45 ∧ v = -g) ∨ (0 < s.size ∧ ((s[0]?.getD 0).toNat : Int) ≠ 45 ∧ v = g) ∨ (s.size = 0 ∧ v = g)) := by
        refine ⟨_, rfl, ?_⟩
        by_cases hp : 0 < s.size
        · rw [signed_first s hp, hg', show s[0]?.getD 0 = s[0] by simp [hp]]
          by_cases hc : (s[0].toNat : Int) = 45
          · exact .inl ⟨hp, hc, by rw [if_pos (by simpa using hc)]⟩
          · exact .inr (.inl ⟨hp, hc, by rw [if_neg (by simpa using hc)]⟩)
        · exact .inr (.inr ⟨by omega, by rw [signed_none s hp, hg']⟩)
      have HV := Lib.hid hv
      have vb : -100000000000000000 < v ∧ v < 100000000000000000 := by omega
      obtain ⟨v0, v1⟩ := vb
      clear hv hg hg' HT
      cases hin : inN v
      · have HR := Lib.hid (show closeR s v = (0, false) by simp [closeR, hin])
        have HX := True.intro
        rcases hcase with ⟨hp, hc, rfl⟩ | ⟨hp, hc, rfl⟩ | ⟨hp, rfl⟩
        · have hc' : ((s[0].toNat : Int) == 45) = true := by simpa [hp] using hc
          clear hc
          go_wp2_with (go_at_call 62; refine (rin_any _ _).mono ?_; rintro e w' ⟨rfl, rfl⟩)
          go_ret2
          exact ⟨by rw [HV.out, HR.out]; rfl, 0, rfl⟩
        · have hc' : ((s[0].toNat : Int) == 45) = false := by simpa [hp] using hc
          clear hc
          go_wp2_with (go_at_call 62; refine (rin_any _ _).mono ?_; rintro e w' ⟨rfl, rfl⟩)
          go_ret2
          exact ⟨by rw [HV.out, HR.out]; rfl, 0, rfl⟩
        · go_wp2_with (go_at_call 62; refine (rin_any _ _).mono ?_; rintro e w' ⟨rfl, rfl⟩)
          go_ret2
          exact ⟨by rw [HV.out, HR.out]; rfl, 0, rfl⟩
      · by_cases heq : Lib.itoa v = s.data.toList
        · have HR := Lib.hid (show closeR s v = (v, true) by simp [closeR, hin, heq])
          have HX := Lib.hid (show ∀ W, Calls Tryz.prog 36 #[.int .i64 v] W fun e w' => e = .returned (.string s) ∧ ∃ m, w' = W.drewN m from fun W => by
            have := rtext_any v.natAbs v W (Nat.le_refl _) (by omega) (by omega)
            rwa [bytesEqN heq] at this)
          clear heq
          rcases hcase with ⟨hp, hc, rfl⟩ | ⟨hp, hc, rfl⟩ | ⟨hp, rfl⟩
          · have hc' : ((s[0].toNat : Int) == 45) = true := by simpa [hp] using hc
            clear hc
            go_wp2_with (first | (go_at_call 62; refine (rin_any _ _).mono ?_; rintro e w' ⟨rfl, rfl⟩) | (go_at_call 36; refine (HX.out _).mono ?_; rintro e w' ⟨rfl, m, rfl⟩))
            go_ret2
            exact ⟨by rw [HV.out, HR.out]; rfl, _, rfl⟩
          · have hc' : ((s[0].toNat : Int) == 45) = false := by simpa [hp] using hc
            clear hc
            go_wp2_with (first | (go_at_call 62; refine (rin_any _ _).mono ?_; rintro e w' ⟨rfl, rfl⟩) | (go_at_call 36; refine (HX.out _).mono ?_; rintro e w' ⟨rfl, m, rfl⟩))
            go_ret2
            exact ⟨by rw [HV.out, HR.out]; rfl, _, rfl⟩
          · go_wp2_with (first | (go_at_call 62; refine (rin_any _ _).mono ?_; rintro e w' ⟨rfl, rfl⟩) | (go_at_call 36; refine (HX.out _).mono ?_; rintro e w' ⟨rfl, m, rfl⟩))
            go_ret2
            exact ⟨by rw [HV.out, HR.out]; rfl, _, rfl⟩
        · have HR := Lib.hid (show closeR s v = (0, false) by simp [closeR, hin, heq])
          obtain ⟨t, ht⟩ : ∃ t : ByteArray, (⟨(Lib.itoa v).toArray⟩ : ByteArray) = t := ⟨_, rfl⟩
          have HX := Lib.hid (show ∀ W, Calls Tryz.prog 36 #[.int .i64 v] W fun e w' => e = .returned (.string t) ∧ ∃ m, w' = W.drewN m from fun W => by
            have := rtext_any v.natAbs v W (Nat.le_refl _) (by omega) (by omega)
            rwa [ht] at this)
          have hq : (t.toList == s.toList) = false := by
            rw [ByteArray.toList_eq, ByteArray.toList_eq, ← ht]
            simpa using heq
          clear heq ht
          rcases hcase with ⟨hp, hc, rfl⟩ | ⟨hp, hc, rfl⟩ | ⟨hp, rfl⟩
          · have hc' : ((s[0].toNat : Int) == 45) = true := by simpa [hp] using hc
            clear hc
            go_wp2_with (first | (go_at_call 62; refine (rin_any _ _).mono ?_; rintro e w' ⟨rfl, rfl⟩) | (go_at_call 36; refine (HX.out _).mono ?_; rintro e w' ⟨rfl, m, rfl⟩))
            go_ret2
            exact ⟨by rw [HV.out, HR.out]; rfl, _, rfl⟩
          · have hc' : ((s[0].toNat : Int) == 45) = false := by simpa [hp] using hc
            clear hc
            go_wp2_with (first | (go_at_call 62; refine (rin_any _ _).mono ?_; rintro e w' ⟨rfl, rfl⟩) | (go_at_call 36; refine (HX.out _).mono ?_; rintro e w' ⟨rfl, m, rfl⟩))
            go_ret2
            exact ⟨by rw [HV.out, HR.out]; rfl, _, rfl⟩
          · go_wp2_with (first | (go_at_call 62; refine (rin_any _ _).mono ?_; rintro e w' ⟨rfl, rfl⟩) | (go_at_call 36; refine (HX.out _).mono ?_; rintro e w' ⟨rfl, m, rfl⟩))
            go_ret2
            exact ⟨by rw [HV.out, HR.out]; rfl, _, rfl⟩

theorem closeR_eq (s : ByteArray) (h : s.size ≤ 17) : closeR s (signed s.data.toList) = parseN s.data.toList := by
  rw [← parseR_eq, parseR, if_neg (by have h9 : s.data.toList.length = s.size := (by simp); omega)]
  rfl
theorem rparse_any (s : ByteArray) (w : World) (hs : s.size ≤ 9223372036854775807) :
    Calls Tryz.prog 34 #[.string s] w fun e w' => e = twoN (parseN s.data.toList) ∧ ∃ m, w' = w.drewN m := by
  by_cases h : s.size ≤ 17
  · rw [← closeR_eq s h]; exact rparse_short s h w
  · have HR := Lib.hid (show parseN s.data.toList = (0, false) by
      rw [← parseR_eq, parseR, if_pos (by have h9 : s.data.toList.length = s.size := (by simp); omega)])
    go_enter Tryz.func34, Tryz.ntmps34
    go_wp2_with fail
    go_ret2
    exact ⟨by rw [HR.out]; rfl, 0, rfl⟩
end Go.Proofs.YtkndifannjpbcaaGreatDoor
