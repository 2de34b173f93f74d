/- The walks over package change: what a change makes of a page. -/
import Derived.Test.YtkndifannjpbcaaDoorGs08
import Derived.Deep.DeepCutAuto
namespace Go.Proofs.YtkndifannjpbcaaDoor
open Go.RowKit
set_option maxRecDepth 100000 in
set_option maxHeartbeats 1000000 in
theorem made_1 (p : ByteArray) (o : Cop) (hk : o.kind = 1) (hp : p.size ≤ 140737488355328) (ho : o.new.size ≤ 140737488355328) (w : World) (hv : Vars w) :
    Calls Tryd.prog 15 #[.string p, copV o] w fun e w' => e = .returned (.tuple #[.string (madeO p o).1, .bool (madeO p o).2]) ∧ Below w.heap.size w w' := by
  have HX := Lib.hid (heldC_new w o 23)
  have HV := Lib.hid hv
  have HG := Lib.hid (fun W => get_any_rec p o.slot hp W)
  obtain ⟨R, hR⟩ : ∃ R, R = madeO p o := ⟨_, rfl⟩
  rw [← hR]
  have HR := Lib.hid (hR.trans (show madeO p o = if o.old.size = 0 then okB (putO p o.slot o.new) else noPage by unfold madeO; rw [hk]; rfl))
  have HC := Lib.hid (fun W => pput_any p o.slot o.new hp W)
  generalize putO p o.slot o.new = x at HC HR
  obtain ⟨qx, ex⟩ := x
  unfold outV at HC
  have HO := Lib.hid (show oldIs p o = (!decide ((Pg.slotAt (leafP p).recs o.slot).size = 0) && decide (o.old = Pg.slotAt (leafP p).recs o.slot)) from rfl)
  generalize oldIs p o = oi at HO HR
  generalize (!decide ((Pg.slotAt (leafP p).recs o.slot).size = 0)) = th at HO HG
  generalize Pg.slotAt (leafP p).recs o.slot = r at HO HG
  obtain ⟨kind, slot, old, new⟩ := o
  dsimp only [copV] at HX HG HO HR hk HC ⊢
  subst hk
  clear hR hv
  go_enter Tryd.func15, Tryd.ntmps15
  go_upto_region 2 with (go_at_call 18; refine (HG.out _).mono ?_; rintro e w1 ⟨rfl, hb1⟩)
  have H1 := Lib.hid (HX.out.step hb1)
  clear HX hb1
  obtain ⟨c0, c1, c2, c3, -⟩ := H1.out.v
  dsimp only at c0 c1 c2 c3
  go_cut [8] (fun s we => s = .bool oi ∧ w1 = we)
  case first =>
    cases th with
    | false =>
      have HO2 := Lib.hid (HO.out.trans (Bool.false_and _))
      go_wp2_with fail
      go_meet
      case rel => exact ⟨by rw [HO2.out], rfl⟩
    | true =>
      by_cases he : old = r
      · subst he
        have hq : (old.toList == old.toList) = true := beq_self_eq_true _
        have HO2 := Lib.hid (HO.out.trans (show _ = true by simp))
        go_wp2_with fail
        go_meet
        case rel => exact ⟨by rw [HO2.out], rfl⟩
      · have hq := str_ne he
        have HO2 := Lib.hid (HO.out.trans (show _ = false by simp [he]))
        clear he
        go_wp2_with fail
        go_meet
        case rel => exact ⟨by rw [HO2.out], rfl⟩
  case rest =>
    obtain ⟨rfl, rfl⟩ := hcut
    clear HO HG
    by_cases h0 : old.size = 0
    · have HF := Lib.hid (HR.out.trans (if_pos h0))
      obtain ⟨z1, z2, z3⟩ := str_nil h0
      clear h0 HR
      go_wp2_with ((go_at_call 19; refine (HC.out _).mono ?_; rintro e w2 ⟨rfl, hb2⟩))
      go_ret2
      exact ⟨by rw [HF.out]; rfl, joinB H1.out.below hb2⟩
    · have HF := Lib.hid (HR.out.trans (if_neg h0))
      obtain ⟨z1, z2, z3⟩ := str_some h0
      clear h0 HR
      go_wp2_with fail
      go_ret2
      exact ⟨by rw [HF.out]; rfl, H1.out.below⟩
set_option maxRecDepth 100000 in
set_option maxHeartbeats 1000000 in
theorem made_2 (p : ByteArray) (o : Cop) (hk : o.kind = 2) (hp : p.size ≤ 140737488355328) (ho : o.new.size ≤ 140737488355328) (w : World) (hv : Vars w) :
    Calls Tryd.prog 15 #[.string p, copV o] w fun e w' => e = .returned (.tuple #[.string (madeO p o).1, .bool (madeO p o).2]) ∧ Below w.heap.size w w' := by
  have HX := Lib.hid (heldC_new w o 23)
  have HV := Lib.hid hv
  have HG := Lib.hid (fun W => get_any_rec p o.slot hp W)
  obtain ⟨R, hR⟩ : ∃ R, R = madeO p o := ⟨_, rfl⟩
  rw [← hR]
  have HR := Lib.hid (hR.trans (show madeO p o = if oldIs p o && decide (o.new.size = 0) then okB (cutO p o.slot) else noPage by unfold madeO; rw [hk]; rfl))
  have HC := Lib.hid (fun W => pcut_any p o.slot hp W)
  generalize cutO p o.slot = x at HC HR
  obtain ⟨qx, ex⟩ := x
  unfold outV at HC
  have HO := Lib.hid (show oldIs p o = (!decide ((Pg.slotAt (leafP p).recs o.slot).size = 0) && decide (o.old = Pg.slotAt (leafP p).recs o.slot)) from rfl)
  generalize oldIs p o = oi at HO HR
  generalize (!decide ((Pg.slotAt (leafP p).recs o.slot).size = 0)) = th at HO HG
  generalize Pg.slotAt (leafP p).recs o.slot = r at HO HG
  obtain ⟨kind, slot, old, new⟩ := o
  dsimp only [copV] at HX HG HO HR hk HC ⊢
  subst hk
  clear hR hv
  go_enter Tryd.func15, Tryd.ntmps15
  go_upto_region 2 with (go_at_call 18; refine (HG.out _).mono ?_; rintro e w1 ⟨rfl, hb1⟩)
  have H1 := Lib.hid (HX.out.step hb1)
  clear HX hb1
  obtain ⟨c0, c1, c2, c3, -⟩ := H1.out.v
  dsimp only at c0 c1 c2 c3
  go_cut [8] (fun s we => s = .bool oi ∧ w1 = we)
  case first =>
    cases th with
    | false =>
      have HO2 := Lib.hid (HO.out.trans (Bool.false_and _))
      go_wp2_with fail
      go_meet
      case rel => exact ⟨by rw [HO2.out], rfl⟩
    | true =>
      by_cases he : old = r
      · subst he
        have hq : (old.toList == old.toList) = true := beq_self_eq_true _
        have HO2 := Lib.hid (HO.out.trans (show _ = true by simp))
        go_wp2_with fail
        go_meet
        case rel => exact ⟨by rw [HO2.out], rfl⟩
      · have hq := str_ne he
        have HO2 := Lib.hid (HO.out.trans (show _ = false by simp [he]))
        clear he
        go_wp2_with fail
        go_meet
        case rel => exact ⟨by rw [HO2.out], rfl⟩
  case rest =>
    obtain ⟨rfl, rfl⟩ := hcut
    clear HO HG
    cases oi with
    | true =>
      by_cases h0 : new.size = 0
      · have HF := Lib.hid (HR.out.trans (if_pos (by simp [h0])))
        obtain ⟨z1, z2, z3⟩ := str_nil h0
        clear h0 HR
        go_wp2_with ((go_at_call 20; refine (HC.out _).mono ?_; rintro e w2 ⟨rfl, hb2⟩))
        go_ret2
        exact ⟨by rw [HF.out]; rfl, joinB H1.out.below hb2⟩
      · have HF := Lib.hid (HR.out.trans (if_neg (by simp [h0])))
        obtain ⟨z1, z2, z3⟩ := str_some h0
        clear h0 HR
        go_wp2_with fail
        go_ret2
        exact ⟨by rw [HF.out]; rfl, H1.out.below⟩
    | false =>
      have HF := Lib.hid (HR.out.trans (if_neg (by simp)))
      clear HR
      go_wp2_with fail
      go_ret2
      exact ⟨by rw [HF.out]; rfl, H1.out.below⟩
set_option maxRecDepth 100000 in
set_option maxHeartbeats 1000000 in
theorem made_3 (p : ByteArray) (o : Cop) (hk : o.kind = 3) (hp : p.size ≤ 140737488355328) (ho : o.new.size ≤ 140737488355328) (w : World) (hv : Vars w) :
    Calls Tryd.prog 15 #[.string p, copV o] w fun e w' => e = .returned (.tuple #[.string (madeO p o).1, .bool (madeO p o).2]) ∧ Below w.heap.size w w' := by
  have HX := Lib.hid (heldC_new w o 23)
  have HV := Lib.hid hv
  have HG := Lib.hid (fun W => get_any_rec p o.slot hp W)
  obtain ⟨R, hR⟩ : ∃ R, R = madeO p o := ⟨_, rfl⟩
  rw [← hR]
  have HR := Lib.hid (hR.trans (show madeO p o = if oldIs p o then okB (setO p o.slot o.new) else noPage by unfold madeO; rw [hk]; rfl))
  have HC := Lib.hid (fun W => pset_any p o.slot o.new hp W)
  generalize setO p o.slot o.new = x at HC HR
  obtain ⟨qx, ex⟩ := x
  unfold outV at HC
  have HO := Lib.hid (show oldIs p o = (!decide ((Pg.slotAt (leafP p).recs o.slot).size = 0) && decide (o.old = Pg.slotAt (leafP p).recs o.slot)) from rfl)
  generalize oldIs p o = oi at HO HR
  generalize (!decide ((Pg.slotAt (leafP p).recs o.slot).size = 0)) = th at HO HG
  generalize Pg.slotAt (leafP p).recs o.slot = r at HO HG
  obtain ⟨kind, slot, old, new⟩ := o
  dsimp only [copV] at HX HG HO HR hk HC ⊢
  subst hk
  clear hR hv
  go_enter Tryd.func15, Tryd.ntmps15
  go_upto_region 2 with (go_at_call 18; refine (HG.out _).mono ?_; rintro e w1 ⟨rfl, hb1⟩)
  have H1 := Lib.hid (HX.out.step hb1)
  clear HX hb1
  obtain ⟨c0, c1, c2, c3, -⟩ := H1.out.v
  dsimp only at c0 c1 c2 c3
  go_cut [8] (fun s we => s = .bool oi ∧ w1 = we)
  case first =>
    cases th with
    | false =>
      have HO2 := Lib.hid (HO.out.trans (Bool.false_and _))
      go_wp2_with fail
      go_meet
      case rel => exact ⟨by rw [HO2.out], rfl⟩
    | true =>
      by_cases he : old = r
      · subst he
        have hq : (old.toList == old.toList) = true := beq_self_eq_true _
        have HO2 := Lib.hid (HO.out.trans (show _ = true by simp))
        go_wp2_with fail
        go_meet
        case rel => exact ⟨by rw [HO2.out], rfl⟩
      · have hq := str_ne he
        have HO2 := Lib.hid (HO.out.trans (show _ = false by simp [he]))
        clear he
        go_wp2_with fail
        go_meet
        case rel => exact ⟨by rw [HO2.out], rfl⟩
  case rest =>
    obtain ⟨rfl, rfl⟩ := hcut
    clear HO HG
    cases oi with
    | true =>
      have HF := Lib.hid (HR.out.trans (if_pos rfl))
      clear HR
      go_wp2_with ((go_at_call 21; refine (HC.out _).mono ?_; rintro e w2 ⟨rfl, hb2⟩))
      go_ret2
      exact ⟨by rw [HF.out]; rfl, joinB H1.out.below hb2⟩
    | false =>
      have HF := Lib.hid (HR.out.trans (if_neg (by simp)))
      clear HR
      go_wp2_with fail
      go_ret2
      exact ⟨by rw [HF.out]; rfl, H1.out.below⟩
set_option maxRecDepth 100000 in
set_option maxHeartbeats 1000000 in
theorem made_4 (p : ByteArray) (o : Cop) (hk : o.kind = 4) (hp : p.size ≤ 140737488355328) (ho : o.new.size ≤ 140737488355328) (w : World) (hv : Vars w) :
    Calls Tryd.prog 15 #[.string p, copV o] w fun e w' => e = .returned (.tuple #[.string (madeO p o).1, .bool (madeO p o).2]) ∧ Below w.heap.size w w' := by
  have HX := Lib.hid (heldC_new w o 23)
  have HV := Lib.hid hv
  have HG := Lib.hid (fun W => get_any_rec p o.slot hp W)
  obtain ⟨R, hR⟩ : ∃ R, R = madeO p o := ⟨_, rfl⟩
  rw [← hR]
  have HR := Lib.hid (hR.trans (show madeO p o = if o.old.size = 0 then okB (addO p o.slot o.new) else noPage by unfold madeO; rw [hk]; rfl))
  have HC := Lib.hid (fun W => padd_any p o.slot o.new hp W)
  generalize addO p o.slot o.new = x at HC HR
  obtain ⟨qx, ex⟩ := x
  unfold outV at HC
  have HO := Lib.hid (show oldIs p o = (!decide ((Pg.slotAt (leafP p).recs o.slot).size = 0) && decide (o.old = Pg.slotAt (leafP p).recs o.slot)) from rfl)
  generalize oldIs p o = oi at HO HR
  generalize (!decide ((Pg.slotAt (leafP p).recs o.slot).size = 0)) = th at HO HG
  generalize Pg.slotAt (leafP p).recs o.slot = r at HO HG
  obtain ⟨kind, slot, old, new⟩ := o
  dsimp only [copV] at HX HG HO HR hk HC ⊢
  subst hk
  clear hR hv
  go_enter Tryd.func15, Tryd.ntmps15
  go_upto_region 2 with (go_at_call 18; refine (HG.out _).mono ?_; rintro e w1 ⟨rfl, hb1⟩)
  have H1 := Lib.hid (HX.out.step hb1)
  clear HX hb1
  obtain ⟨c0, c1, c2, c3, -⟩ := H1.out.v
  dsimp only at c0 c1 c2 c3
  go_cut [8] (fun s we => s = .bool oi ∧ w1 = we)
  case first =>
    cases th with
    | false =>
      have HO2 := Lib.hid (HO.out.trans (Bool.false_and _))
      go_wp2_with fail
      go_meet
      case rel => exact ⟨by rw [HO2.out], rfl⟩
    | true =>
      by_cases he : old = r
      · subst he
        have hq : (old.toList == old.toList) = true := beq_self_eq_true _
        have HO2 := Lib.hid (HO.out.trans (show _ = true by simp))
        go_wp2_with fail
        go_meet
        case rel => exact ⟨by rw [HO2.out], rfl⟩
      · have hq := str_ne he
        have HO2 := Lib.hid (HO.out.trans (show _ = false by simp [he]))
        clear he
        go_wp2_with fail
        go_meet
        case rel => exact ⟨by rw [HO2.out], rfl⟩
  case rest =>
    obtain ⟨rfl, rfl⟩ := hcut
    clear HO HG
    by_cases h0 : old.size = 0
    · have HF := Lib.hid (HR.out.trans (if_pos h0))
      obtain ⟨z1, z2, z3⟩ := str_nil h0
      clear h0 HR
      go_wp2_with ((go_at_call 22; refine (HC.out _).mono ?_; rintro e w2 ⟨rfl, hb2⟩))
      go_ret2
      exact ⟨by rw [HF.out]; rfl, joinB H1.out.below hb2⟩
    · have HF := Lib.hid (HR.out.trans (if_neg h0))
      obtain ⟨z1, z2, z3⟩ := str_some h0
      clear h0 HR
      go_wp2_with fail
      go_ret2
      exact ⟨by rw [HF.out]; rfl, H1.out.below⟩
set_option maxRecDepth 100000 in
set_option maxHeartbeats 1000000 in
theorem made_5 (p : ByteArray) (o : Cop) (hk : o.kind = 5) (hp : p.size ≤ 140737488355328) (ho : o.new.size ≤ 140737488355328) (w : World) (hv : Vars w) :
    Calls Tryd.prog 15 #[.string p, copV o] w fun e w' => e = .returned (.tuple #[.string (madeO p o).1, .bool (madeO p o).2]) ∧ Below w.heap.size w w' := by
  have HX := Lib.hid (heldC_new w o 23)
  have HV := Lib.hid hv
  have HG := Lib.hid (fun W => get_any_rec p o.slot hp W)
  obtain ⟨R, hR⟩ : ∃ R, R = madeO p o := ⟨_, rfl⟩
  rw [← hR]
  have HR := Lib.hid (hR.trans (show madeO p o = if oldIs p o && decide (o.new.size = 0) then okB (delO p o.slot) else noPage by unfold madeO; rw [hk]; rfl))
  have HC := Lib.hid (fun W => pdel_any p o.slot hp W)
  generalize delO p o.slot = x at HC HR
  obtain ⟨qx, ex⟩ := x
  unfold outV at HC
  have HO := Lib.hid (show oldIs p o = (!decide ((Pg.slotAt (leafP p).recs o.slot).size = 0) && decide (o.old = Pg.slotAt (leafP p).recs o.slot)) from rfl)
  generalize oldIs p o = oi at HO HR
  generalize (!decide ((Pg.slotAt (leafP p).recs o.slot).size = 0)) = th at HO HG
  generalize Pg.slotAt (leafP p).recs o.slot = r at HO HG
  obtain ⟨kind, slot, old, new⟩ := o
  dsimp only [copV] at HX HG HO HR hk HC ⊢
  subst hk
  clear hR hv
  go_enter Tryd.func15, Tryd.ntmps15
  go_upto_region 2 with (go_at_call 18; refine (HG.out _).mono ?_; rintro e w1 ⟨rfl, hb1⟩)
  have H1 := Lib.hid (HX.out.step hb1)
  clear HX hb1
  obtain ⟨c0, c1, c2, c3, -⟩ := H1.out.v
  dsimp only at c0 c1 c2 c3
  go_cut [8] (fun s we => s = .bool oi ∧ w1 = we)
  case first =>
    cases th with
    | false =>
      have HO2 := Lib.hid (HO.out.trans (Bool.false_and _))
      go_wp2_with fail
      go_meet
      case rel => exact ⟨by rw [HO2.out], rfl⟩
    | true =>
      by_cases he : old = r
      · subst he
        have hq : (old.toList == old.toList) = true := beq_self_eq_true _
        have HO2 := Lib.hid (HO.out.trans (show _ = true by simp))
        go_wp2_with fail
        go_meet
        case rel => exact ⟨by rw [HO2.out], rfl⟩
      · have hq := str_ne he
        have HO2 := Lib.hid (HO.out.trans (show _ = false by simp [he]))
        clear he
        go_wp2_with fail
        go_meet
        case rel => exact ⟨by rw [HO2.out], rfl⟩
  case rest =>
    obtain ⟨rfl, rfl⟩ := hcut
    clear HO HG
    cases oi with
    | true =>
      by_cases h0 : new.size = 0
      · have HF := Lib.hid (HR.out.trans (if_pos (by simp [h0])))
        obtain ⟨z1, z2, z3⟩ := str_nil h0
        clear h0 HR
        go_wp2_with ((go_at_call 23; refine (HC.out _).mono ?_; rintro e w2 ⟨rfl, hb2⟩))
        go_ret2
        exact ⟨by rw [HF.out]; rfl, joinB H1.out.below hb2⟩
      · have HF := Lib.hid (HR.out.trans (if_neg (by simp [h0])))
        obtain ⟨z1, z2, z3⟩ := str_some h0
        clear h0 HR
        go_wp2_with fail
        go_ret2
        exact ⟨by rw [HF.out]; rfl, H1.out.below⟩
    | false =>
      have HF := Lib.hid (HR.out.trans (if_neg (by simp)))
      clear HR
      go_wp2_with fail
      go_ret2
      exact ⟨by rw [HF.out]; rfl, H1.out.below⟩
set_option maxRecDepth 100000 in
set_option maxHeartbeats 1000000 in
theorem made_6 (p : ByteArray) (o : Cop) (hk : o.kind = 6) (hp : p.size ≤ 140737488355328) (ho : o.new.size ≤ 140737488355328) (w : World) (hv : Vars w) :
    Calls Tryd.prog 15 #[.string p, copV o] w fun e w' => e = .returned (.tuple #[.string (madeO p o).1, .bool (madeO p o).2]) ∧ Below w.heap.size w w' := by
  have HX := Lib.hid (heldC_new w o 23)
  have HV := Lib.hid hv
  have HG := Lib.hid (fun W => get_any_rec p o.slot hp W)
  obtain ⟨R, hR⟩ : ∃ R, R = madeO p o := ⟨_, rfl⟩
  rw [← hR]
  have HR := Lib.hid (hR.trans (show madeO p o = linkedO p o by unfold madeO; rw [hk]; rfl))
  have HC := Lib.hid (fun W hW => linked_any p o hp ho W hW)
  generalize linkedO p o = x at HC HR
  obtain ⟨qx, bx⟩ := x
  have HO := Lib.hid (show oldIs p o = (!decide ((Pg.slotAt (leafP p).recs o.slot).size = 0) && decide (o.old = Pg.slotAt (leafP p).recs o.slot)) from rfl)
  generalize oldIs p o = oi at HO HR
  generalize (!decide ((Pg.slotAt (leafP p).recs o.slot).size = 0)) = th at HO HG
  generalize Pg.slotAt (leafP p).recs o.slot = r at HO HG
  obtain ⟨kind, slot, old, new⟩ := o
  dsimp only [copV] at HX HG HO HR hk HC ⊢
  subst hk
  clear hR hv
  go_enter Tryd.func15, Tryd.ntmps15
  go_upto_region 2 with (go_at_call 18; refine (HG.out _).mono ?_; rintro e w1 ⟨rfl, hb1⟩)
  have H1 := Lib.hid (HX.out.step hb1)
  clear HX hb1
  obtain ⟨c0, c1, c2, c3, -⟩ := H1.out.v
  dsimp only at c0 c1 c2 c3
  go_cut [8] (fun s we => s = .bool oi ∧ w1 = we)
  case first =>
    cases th with
    | false =>
      have HO2 := Lib.hid (HO.out.trans (Bool.false_and _))
      go_wp2_with fail
      go_meet
      case rel => exact ⟨by rw [HO2.out], rfl⟩
    | true =>
      by_cases he : old = r
      · subst he
        have hq : (old.toList == old.toList) = true := beq_self_eq_true _
        have HO2 := Lib.hid (HO.out.trans (show _ = true by simp))
        go_wp2_with fail
        go_meet
        case rel => exact ⟨by rw [HO2.out], rfl⟩
      · have hq := str_ne he
        have HO2 := Lib.hid (HO.out.trans (show _ = false by simp [he]))
        clear he
        go_wp2_with fail
        go_meet
        case rel => exact ⟨by rw [HO2.out], rfl⟩
  case rest =>
    obtain ⟨rfl, rfl⟩ := hcut
    clear HO HG
    go_wp2_with ((go_at_call 24; refine (HC.out _ (HV.out.below H1.out.below)).mono ?_; rintro e w2 ⟨rfl, hb2⟩))
    go_ret2
    exact ⟨by rw [HR.out]; rfl, joinB H1.out.below hb2⟩
set_option maxRecDepth 100000 in
set_option maxHeartbeats 1000000 in
theorem made_7 (p : ByteArray) (o : Cop) (hk : o.kind = 7) (hp : p.size ≤ 140737488355328) (ho : o.new.size ≤ 140737488355328) (w : World) (hv : Vars w) :
    Calls Tryd.prog 15 #[.string p, copV o] w fun e w' => e = .returned (.tuple #[.string (madeO p o).1, .bool (madeO p o).2]) ∧ Below w.heap.size w w' := by
  have HX := Lib.hid (heldC_new w o 23)
  have HV := Lib.hid hv
  have HG := Lib.hid (fun W => get_any_rec p o.slot hp W)
  obtain ⟨R, hR⟩ : ∃ R, R = madeO p o := ⟨_, rfl⟩
  rw [← hR]
  have HR := Lib.hid (hR.trans (show madeO p o = wholeO p o by unfold madeO; rw [hk]; rfl))
  have HC := Lib.hid (fun W => whole_any p o hp ho W)
  generalize wholeO p o = x at HC HR
  obtain ⟨qx, bx⟩ := x
  have HO := Lib.hid (show oldIs p o = (!decide ((Pg.slotAt (leafP p).recs o.slot).size = 0) && decide (o.old = Pg.slotAt (leafP p).recs o.slot)) from rfl)
  generalize oldIs p o = oi at HO HR
  generalize (!decide ((Pg.slotAt (leafP p).recs o.slot).size = 0)) = th at HO HG
  generalize Pg.slotAt (leafP p).recs o.slot = r at HO HG
  obtain ⟨kind, slot, old, new⟩ := o
  dsimp only [copV] at HX HG HO HR hk HC ⊢
  subst hk
  clear hR hv
  go_enter Tryd.func15, Tryd.ntmps15
  go_upto_region 2 with (go_at_call 18; refine (HG.out _).mono ?_; rintro e w1 ⟨rfl, hb1⟩)
  have H1 := Lib.hid (HX.out.step hb1)
  clear HX hb1
  obtain ⟨c0, c1, c2, c3, -⟩ := H1.out.v
  dsimp only at c0 c1 c2 c3
  go_cut [8] (fun s we => s = .bool oi ∧ w1 = we)
  case first =>
    cases th with
    | false =>
      have HO2 := Lib.hid (HO.out.trans (Bool.false_and _))
      go_wp2_with fail
      go_meet
      case rel => exact ⟨by rw [HO2.out], rfl⟩
    | true =>
      by_cases he : old = r
      · subst he
        have hq : (old.toList == old.toList) = true := beq_self_eq_true _
        have HO2 := Lib.hid (HO.out.trans (show _ = true by simp))
        go_wp2_with fail
        go_meet
        case rel => exact ⟨by rw [HO2.out], rfl⟩
      · have hq := str_ne he
        have HO2 := Lib.hid (HO.out.trans (show _ = false by simp [he]))
        clear he
        go_wp2_with fail
        go_meet
        case rel => exact ⟨by rw [HO2.out], rfl⟩
  case rest =>
    obtain ⟨rfl, rfl⟩ := hcut
    clear HO HG
    go_wp2_with ((go_at_call 25; refine (HC.out _).mono ?_; rintro e w2 ⟨rfl, hb2⟩))
    go_ret2
    exact ⟨by rw [HR.out]; rfl, joinB H1.out.below hb2⟩
set_option maxRecDepth 100000 in
set_option maxHeartbeats 1000000 in
theorem made_none (p : ByteArray) (o : Cop) (hk : ¬ (1 ≤ o.kind ∧ o.kind ≤ 7)) (hp : p.size ≤ 140737488355328) (ho : o.new.size ≤ 140737488355328) (w : World) (hv : Vars w) :
    Calls Tryd.prog 15 #[.string p, copV o] w fun e w' => e = .returned (.tuple #[.string (madeO p o).1, .bool (madeO p o).2]) ∧ Below w.heap.size w w' := by
  have HX := Lib.hid (heldC_new w o 23)
  have HV := Lib.hid hv
  have HG := Lib.hid (fun W => get_any_rec p o.slot hp W)
  obtain ⟨R, hR⟩ : ∃ R, R = madeO p o := ⟨_, rfl⟩
  rw [← hR]
  have HR := Lib.hid (hR.trans (show madeO p o = noPage by unfold madeO; rw [if_neg (by omega), if_neg (by omega), if_neg (by omega), if_neg (by omega), if_neg (by omega), if_neg (by omega), if_neg (by omega)]))
  have HO := Lib.hid (show oldIs p o = (!decide ((Pg.slotAt (leafP p).recs o.slot).size = 0) && decide (o.old = Pg.slotAt (leafP p).recs o.slot)) from rfl)
  generalize oldIs p o = oi at HO HR
  generalize (!decide ((Pg.slotAt (leafP p).recs o.slot).size = 0)) = th at HO HG
  generalize Pg.slotAt (leafP p).recs o.slot = r at HO HG
  obtain ⟨kind, slot, old, new⟩ := o
  dsimp only [copV] at HX HG HO HR hk ⊢
  have k1 : (kind == 1) = false := by simp; omega
  have k2 : (kind == 2) = false := by simp; omega
  have k3 : (kind == 3) = false := by simp; omega
  have k4 : (kind == 4) = false := by simp; omega
  have k5 : (kind == 5) = false := by simp; omega
  have k6 : (kind == 6) = false := by simp; omega
  have k7 : (kind == 7) = false := by simp; omega
  clear hR hv hk
  go_enter Tryd.func15, Tryd.ntmps15
  go_upto_region 2 with (go_at_call 18; refine (HG.out _).mono ?_; rintro e w1 ⟨rfl, hb1⟩)
  have H1 := Lib.hid (HX.out.step hb1)
  clear HX hb1
  obtain ⟨c0, c1, c2, c3, -⟩ := H1.out.v
  dsimp only at c0 c1 c2 c3
  go_cut [8] (fun s we => s = .bool oi ∧ w1 = we)
  case first =>
    cases th with
    | false =>
      have HO2 := Lib.hid (HO.out.trans (Bool.false_and _))
      go_wp2_with fail
      go_meet
      case rel => exact ⟨by rw [HO2.out], rfl⟩
    | true =>
      by_cases he : old = r
      · subst he
        have hq : (old.toList == old.toList) = true := beq_self_eq_true _
        have HO2 := Lib.hid (HO.out.trans (show _ = true by simp))
        go_wp2_with fail
        go_meet
        case rel => exact ⟨by rw [HO2.out], rfl⟩
      · have hq := str_ne he
        have HO2 := Lib.hid (HO.out.trans (show _ = false by simp [he]))
        clear he
        go_wp2_with fail
        go_meet
        case rel => exact ⟨by rw [HO2.out], rfl⟩
  case rest =>
    obtain ⟨rfl, rfl⟩ := hcut
    clear HO HG
    have HF := Lib.hid HR.out
    clear HR
    go_wp2_with fail
    go_ret2
    exact ⟨by rw [HF.out]; rfl, H1.out.below⟩
theorem made_cop (p : ByteArray) (o : Cop) (hp : p.size ≤ 140737488355328) (ho : o.new.size ≤ 140737488355328) (w : World) (hv : Vars w) :
    Calls Tryd.prog 15 #[.string p, copV o] w fun e w' => e = .returned (.tuple #[.string (madeO p o).1, .bool (madeO p o).2]) ∧ Below w.heap.size w w' := by
  by_cases h : 1 ≤ o.kind ∧ o.kind ≤ 7
  · obtain h | h | h | h | h | h | h : o.kind = 1 ∨ o.kind = 2 ∨ o.kind = 3 ∨ o.kind = 4 ∨ o.kind = 5 ∨ o.kind = 6 ∨ o.kind = 7 := by omega
    · exact made_1 p o h hp ho w hv
    · exact made_2 p o h hp ho w hv
    · exact made_3 p o h hp ho w hv
    · exact made_4 p o h hp ho w hv
    · exact made_5 p o h hp ho w hv
    · exact made_6 p o h hp ho w hv
    · exact made_7 p o h hp ho w hv
  · exact made_none p o h hp ho w hv
end Go.Proofs.YtkndifannjpbcaaDoor
/- The walks over package change: Right, Do, Back. -/
namespace Go.Proofs.YtkndifannjpbcaaDoor
open Go.RowKit
set_option maxHeartbeats 1000000 in
theorem cright_any (p : ByteArray) (o : Cop) (hp : p.size ≤ 140737488355328) (ho : o.new.size ≤ 140737488355328) (w : World) (hv : Vars w) :
    Calls Tryd.prog 9 #[.string p, copV o] w fun e w' => e = .returned (.bool (rightO p o)) ∧ Below w.heap.size w w' := by
  have HM := Lib.hid (fun W hW => made_cop p o hp ho W hW)
  have HR := Lib.hid (fun W => right_any p hp W)
  have HV := Lib.hid (hv.below (allocB w (.cells #[.int .i64 o.kind, .int .i64 o.slot, .string o.old, .string o.new] 23)))
  unfold rightO
  generalize isPg p = b at HR ⊢
  generalize madeO p o = x at HM ⊢
  obtain ⟨qx, bx⟩ := x
  obtain ⟨kind, slot, old, new⟩ := o
  dsimp only [copV] at HM HV ⊢
  clear hv ho
  cases b with
  | true =>
    go_enter Tryd.func9, Tryd.ntmps9
    go_wp2_with (first | (go_at_call 15; refine (HM.out _ HV.out).mono ?_; rintro e w1 ⟨rfl, hb1⟩) | (go_at_call 10; refine (HR.out _).mono ?_; rintro e w2 ⟨rfl, hb2⟩))
    go_ret
    exact ⟨by simp, joinB (joinB (allocB _ _) hb1) hb2⟩
  | false =>
    go_enter Tryd.func9, Tryd.ntmps9
    go_wp2_with (first | (go_at_call 15; refine (HM.out _ HV.out).mono ?_; rintro e w1 ⟨rfl, hb1⟩) | (go_at_call 10; refine (HR.out _).mono ?_; rintro e w2 ⟨rfl, hb2⟩))
    go_ret
    exact ⟨by simp, joinB (joinB (allocB _ _) hb1) hb2⟩
theorem do_yes {p : ByteArray} {o : Cop} (h : rightO p o = true) : doO p o = ((madeO p o).1, 0) := by unfold doO; rw [if_pos h]
theorem do_no {p : ByteArray} {o : Cop} (h : rightO p o = false) : doO p o = (⟨#[]⟩, 1) := by unfold doO; rw [if_neg (by rw [h]; simp)]
set_option maxHeartbeats 1000000 in
theorem do_any (p : ByteArray) (o : Cop) (hp : p.size ≤ 140737488355328) (ho : o.new.size ≤ 140737488355328) (w : World) (hv : Vars w) :
    Calls Tryd.prog 7 #[.string p, copV o] w fun e w' => e = .returned (outV (doO p o)) ∧ Below w.heap.size w w' := by
  have HM := Lib.hid (fun W hW => made_cop p o hp ho W hW)
  have HR := Lib.hid (fun W hW => cright_any p o hp ho W hW)
  have HX := Lib.hid (heldC_new w o 23)
  have HV := Lib.hid (hv.below (allocB w (.cells #[.int .i64 o.kind, .int .i64 o.slot, .string o.old, .string o.new] 23)))
  have HY := Lib.hid (fun h => do_yes (p := p) (o := o) h)
  have HN := Lib.hid (fun h => do_no (p := p) (o := o) h)
  generalize doO p o = R at HY HN ⊢
  generalize rightO p o = b at HR HY HN
  generalize madeO p o = x at HM HY
  obtain ⟨qx, bx⟩ := x
  obtain ⟨kind, slot, old, new⟩ := o
  dsimp only [copV] at HM HR HV HX ⊢
  clear hv ho
  cases b with
  | true =>
    have HF := Lib.hid (HY.out rfl)
    clear HY HN
    go_enter Tryd.func7, Tryd.ntmps7
    go_wp2_with (first | (go_at_call 9; refine (HR.out _ HV.out).mono ?_; rintro e w1 ⟨rfl, hb1⟩; obtain ⟨c0, c1, c2, c3, -⟩ := (HX.out.step hb1).v; dsimp only at c0 c1 c2 c3) | (go_at_call 15; refine (HM.out _ (HV.out.below hb1)).mono ?_; rintro e w2 ⟨rfl, hb2⟩))
    go_ret2
    exact ⟨by rw [HF.out]; rfl, joinB (joinB (allocB _ _) hb1) hb2⟩
  | false =>
    have HF := Lib.hid (HN.out rfl)
    clear HY HN
    go_enter Tryd.func7, Tryd.ntmps7
    go_wp2_with ((go_at_call 9; refine (HR.out _ HV.out).mono ?_; rintro e w1 ⟨rfl, hb1⟩))
    go_ret2
    exact ⟨by rw [HF.out]; rfl, joinB (allocB _ _) hb1⟩
set_option maxRecDepth 100000 in
theorem back_1 (kind slot : Int) (old new : ByteArray) (hk : kind = 1) (w : World) :
    Calls Tryd.prog 8 #[.agg #[.int .i64 kind, .int .i64 slot, .string old, .string new]] w fun e w' => e = .returned (.agg #[.int .i64 2, .int .i64 slot, .string new, .string old]) ∧ Below w.heap.size w w' := by
  subst hk
  go_enter Tryd.func8, Tryd.ntmps8
  go_wp2_with fail
  refine bodyPost_ret (v := .agg #[.int .i64 2, .int .i64 slot, .string new, .string old]) (by simp [results, Tryd.results8, go_sem]) rfl ⟨rfl, pastAlloc (allocB _ _)⟩
set_option maxRecDepth 100000 in
theorem back_2 (kind slot : Int) (old new : ByteArray) (hk : kind = 2) (w : World) :
    Calls Tryd.prog 8 #[.agg #[.int .i64 kind, .int .i64 slot, .string old, .string new]] w fun e w' => e = .returned (.agg #[.int .i64 1, .int .i64 slot, .string new, .string old]) ∧ Below w.heap.size w w' := by
  subst hk
  go_enter Tryd.func8, Tryd.ntmps8
  go_wp2_with fail
  refine bodyPost_ret (v := .agg #[.int .i64 1, .int .i64 slot, .string new, .string old]) (by simp [results, Tryd.results8, go_sem]) rfl ⟨rfl, pastAlloc (allocB _ _)⟩
set_option maxRecDepth 100000 in
theorem back_4 (kind slot : Int) (old new : ByteArray) (hk : kind = 4) (w : World) :
    Calls Tryd.prog 8 #[.agg #[.int .i64 kind, .int .i64 slot, .string old, .string new]] w fun e w' => e = .returned (.agg #[.int .i64 5, .int .i64 slot, .string new, .string old]) ∧ Below w.heap.size w w' := by
  subst hk
  go_enter Tryd.func8, Tryd.ntmps8
  go_wp2_with fail
  refine bodyPost_ret (v := .agg #[.int .i64 5, .int .i64 slot, .string new, .string old]) (by simp [results, Tryd.results8, go_sem]) rfl ⟨rfl, pastAlloc (allocB _ _)⟩
set_option maxRecDepth 100000 in
theorem back_5 (kind slot : Int) (old new : ByteArray) (hk : kind = 5) (w : World) :
    Calls Tryd.prog 8 #[.agg #[.int .i64 kind, .int .i64 slot, .string old, .string new]] w fun e w' => e = .returned (.agg #[.int .i64 4, .int .i64 slot, .string new, .string old]) ∧ Below w.heap.size w w' := by
  subst hk
  go_enter Tryd.func8, Tryd.ntmps8
  go_wp2_with fail
  refine bodyPost_ret (v := .agg #[.int .i64 4, .int .i64 slot, .string new, .string old]) (by simp [results, Tryd.results8, go_sem]) rfl ⟨rfl, pastAlloc (allocB _ _)⟩
set_option maxRecDepth 100000 in
theorem back_none (kind slot : Int) (old new : ByteArray) (hk : ¬ (kind = 1 ∨ kind = 2 ∨ kind = 4 ∨ kind = 5)) (w : World) :
    Calls Tryd.prog 8 #[.agg #[.int .i64 kind, .int .i64 slot, .string old, .string new]] w fun e w' => e = .returned (.agg #[.int .i64 kind, .int .i64 slot, .string new, .string old]) ∧ Below w.heap.size w w' := by
  have k1 : (kind == 1) = false := by simp; omega
  have k2 : (kind == 2) = false := by simp; omega
  have k4 : (kind == 4) = false := by simp; omega
  have k5 : (kind == 5) = false := by simp; omega
  clear hk
  go_enter Tryd.func8, Tryd.ntmps8
  go_wp2_with fail
  refine bodyPost_ret (v := .agg #[.int .i64 kind, .int .i64 slot, .string new, .string old]) (by simp [results, Tryd.results8, go_sem]) rfl ⟨rfl, pastAlloc (allocB _ _)⟩
theorem cback_any (o : Cop) (w : World) :
    Calls Tryd.prog 8 #[copV o] w fun e w' => e = .returned (copV (backO o)) ∧ Below w.heap.size w w' := by
  obtain ⟨kind, slot, old, new⟩ := o
  by_cases h : kind = 1 ∨ kind = 2 ∨ kind = 4 ∨ kind = 5
  · rcases h with rfl | rfl | rfl | rfl
    · exact back_1 1 slot old new rfl w
    · exact back_2 2 slot old new rfl w
    · exact back_4 4 slot old new rfl w
    · exact back_5 5 slot old new rfl w
  · have := back_none kind slot old new h w
    have e : backO ⟨kind, slot, old, new⟩ = ⟨kind, slot, new, old⟩ := by
      unfold backO backK
      simp only
      rw [if_neg (by omega), if_neg (by omega), if_neg (by omega), if_neg (by omega)]
    rw [e]
    exact this
end Go.Proofs.YtkndifannjpbcaaDoor
/- The walks over the statements of chapter 40: their parts. -/
namespace Go.Proofs.YtkndifannjpbcaaDoor
open Go.RowKit
theorem cop_equal (a b : Cop) (w : World) : (Op.equalIn 10000 23 (copV a) (copV b)).run Tryd.prog w = .ok (decide (a.kind = b.kind ∧ a.slot = b.slot ∧ a.old = b.old ∧ a.new = b.new)) w := by
  obtain ⟨k1, p1, s1, t1⟩ := a
  obtain ⟨k2, p2, s2, t2⟩ := b
  have hS : Tryd.prog.underlying 23 = some (.struct (Tryd.prog.fieldsOf 23)) := by kernel_rfl
  have hp : Tryd.prog.stoodInHeld 23 = false := by kernel_rfl
  rw [show (10000 : Nat) = 9999 + 1 from rfl, run_equalIn_agg w 9999 23 _ _ hS hp]
  simp only [Program.fieldsOf, Tryd.underlying23]
  go_simp
  have hl : ∀ a b : ByteArray, a.toList = b.toList ↔ a = b := fun a b => by
    rw [ByteArray.toList_eq, ByteArray.toList_eq]
    exact ⟨fun h => ByteArray.ext (Array.toList_inj.1 h), fun h => by rw [h]⟩
  have hs := hl s1 s2
  have ht := hl t1 t2
  by_cases h0 : k1 = k2 <;> by_cases h1 : p1 = p2 <;> by_cases h2 : s1 = s2 <;> by_cases h3 : t1 = t2 <;> simp [h0, h1, h2, h3, hs, ht]
theorem cop_same (o : Cop) (w : World) : (Op.equalIn 10000 23 (copV o) (copV o)).run Tryd.prog w = .ok true w := by
  rw [cop_equal, decide_eq_true ⟨rfl, rfl, rfl, rfl⟩]
set_option maxRecDepth 100000 in
theorem over_no (p : ByteArray) (o : Cop) (h1 : p.size ≤ 600) (h2 : o.old.size ≤ 600) (h3 : o.new.size ≤ 600) (w : World) :
    Calls Tryd.prog 5 #[.string p, copV o] w fun e w' => e = .returned (.bool false) ∧ Below w.heap.size w w' := by
  obtain ⟨kind, slot, old, new⟩ := o
  dsimp only [copV] at *
  have g1 : (p.size : Int) ≤ 600 := by omega
  have g2 : (old.size : Int) ≤ 600 := by omega
  have g3 : (new.size : Int) ≤ 600 := by omega
  clear h1 h2 h3
  go_enter Tryd.func5, Tryd.ntmps5
  go_wp2_with fail
  go_ret
  exact ⟨by simp [*], allocB _ _⟩
set_option maxRecDepth 100000 in
theorem over_1 (p : ByteArray) (o : Cop) (h1 : 600 < p.size) (w : World) :
    Calls Tryd.prog 5 #[.string p, copV o] w fun e w' => e = .returned (.bool true) ∧ Below w.heap.size w w' := by
  obtain ⟨kind, slot, old, new⟩ := o
  dsimp only [copV] at *
  have g1 : 600 < (p.size : Int) := by omega
  clear h1
  go_enter Tryd.func5, Tryd.ntmps5
  go_wp2_with fail
  go_ret
  exact ⟨by simp [*], allocB _ _⟩
set_option maxRecDepth 100000 in
theorem over_2 (p : ByteArray) (o : Cop) (h1 : p.size ≤ 600) (h2 : 600 < o.old.size) (w : World) :
    Calls Tryd.prog 5 #[.string p, copV o] w fun e w' => e = .returned (.bool true) ∧ Below w.heap.size w w' := by
  obtain ⟨kind, slot, old, new⟩ := o
  dsimp only [copV] at *
  have g1 : (p.size : Int) ≤ 600 := by omega
  have g2 : 600 < (old.size : Int) := by omega
  clear h1 h2
  go_enter Tryd.func5, Tryd.ntmps5
  go_wp2_with fail
  go_ret
  exact ⟨by simp [*], allocB _ _⟩
set_option maxRecDepth 100000 in
theorem over_3 (p : ByteArray) (o : Cop) (h1 : p.size ≤ 600) (h2 : o.old.size ≤ 600) (h3 : 600 < o.new.size) (w : World) :
    Calls Tryd.prog 5 #[.string p, copV o] w fun e w' => e = .returned (.bool true) ∧ Below w.heap.size w w' := by
  obtain ⟨kind, slot, old, new⟩ := o
  dsimp only [copV] at *
  have g1 : (p.size : Int) ≤ 600 := by omega
  have g2 : (old.size : Int) ≤ 600 := by omega
  have g3 : 600 < (new.size : Int) := by omega
  clear h1 h2 h3
  go_enter Tryd.func5, Tryd.ntmps5
  go_wp2_with fail
  go_ret
  exact ⟨by simp [*], allocB _ _⟩
theorem over_yes (p : ByteArray) (o : Cop) (h : ¬ (p.size ≤ 600 ∧ o.old.size ≤ 600 ∧ o.new.size ≤ 600)) (w : World) :
    Calls Tryd.prog 5 #[.string p, copV o] w fun e w' => e = .returned (.bool true) ∧ Below w.heap.size w w' := by
  by_cases h1 : 600 < p.size
  · exact over_1 p o h1 w
  · by_cases h2 : 600 < o.old.size
    · exact over_2 p o (by omega) h2 w
    · exact over_3 p o (by omega) (by omega) (by omega) w

/-! ### The page's example -/
def P0 : ByteArray := newB 2
def ab : ByteArray := ⟨#[97, 98]⟩
def o1 : Cop := ⟨1, 0, ⟨#[]⟩, ab⟩
def o6 : Cop := ⟨6, 0, ⟨#[48]⟩, ⟨#[55]⟩⟩
theorem P0_is : isPg P0 = true ∧ leafP P0 = ⟨0, 2, 0, []⟩ ∧ P0.size = 512 := by
  have e : P0 = pageB ⟨0, 2, 0, []⟩ := by
    unfold P0 newB
    rw [if_neg (by omega)]; rfl
  obtain ⟨h1, h2⟩ := pageB_is (x := ⟨0, 2, 0, []⟩) ⟨by decide, by decide, by decide⟩ (show Pg.sizeN (Pg.trim []) ≤ 512 by decide) (by intro r hr; cases hr)
  rw [e]
  exact ⟨h1, h2, pageB_size (show Pg.sizeN (Pg.trim []) ≤ 512 by decide)⟩
theorem P0_norm : plB P0 = P0 := by
  rw [plB_eq P0_is.1, P0_is.2.1]
  unfold P0 newB
  rw [if_neg (by omega)]; rfl
theorem put_P0 : (putO P0 0 ab).2 = 0 := by
  have h := putO_do (p := P0) (r := ab) (k := 0) P0_is.1 (by rw [P0_is.2.1]; rfl) (by decide) (by omega)
  have h' : putO P0 0 ab = _ := h
  rw [h', P0_is.2.1, fullO_pageB]
  show Pg.sizeN (Pg.trim (Pg.putAt [] 0 ab)) ≤ 512
  have h1 := Pg.sizeN_trim (Pg.putAt [] 0 ab)
  have h2 := Pg.putAt_size [] 0 ab
  have h3 : ab.size = 2 := by decide
  have h4 : Pg.sumSizes [] = 0 := rfl
  simp only [List.length_nil] at h2
  omega
theorem used_gen (p : ByteArray) (h0 : (putO p 0 ab).2 = 0) : rightO (madeO p o1).1 o1 = false := by
  have hput : putO p 0 ab = ((putO p 0 ab).1, 0) := by
    generalize putO p 0 ab = x at h0 ⊢
    obtain ⟨a, e⟩ := x
    simp only at h0
    rw [h0]
  obtain ⟨k, hk, _, hz, hmay, _, M⟩ := putO_ok hput
  have hs : (Pg.slotAt (leafP (putO p 0 ab).1).recs 0).size ≠ 0 := by
    have h0 : k = 0 := by omega
    subst h0
    have := Pg.slotAt_rec (leafP (putO p 0 ab).1).recs 0
    rw [show ((0 : Nat) : Int) = 0 from rfl] at this
    rw [this, M.rec_, Pg.putAt_rec, if_pos rfl]
    decide
  show (isPg (putO p 0 ab).1 && (okB (putO (putO p 0 ab).1 0 ab)).2) = false
  have : putO (putO p 0 ab).1 0 ab = (⟨#[]⟩, 1) := by
    generalize (putO p 0 ab).1 = q at hs M ⊢
    unfold putO
    rw [if_neg (by rw [M.isPg]; simp), if_neg (by omega), if_pos hs]
  rw [this]
  simp [okB]
theorem used_o1 : rightO (madeO P0 o1).1 o1 = false := used_gen P0 put_P0
theorem right_gen (p : ByteArray) (hp : isPg p = true) (h0 : (putO p 0 ab).2 = 0) : rightO p o1 = true := by
  unfold rightO
  rw [hp]
  show (okB (putO p 0 ab)).2 = true
  unfold okB
  rw [h0]; rfl
theorem right_o1 : rightO P0 o1 = true := right_gen P0 P0_is.1 put_P0
theorem itoa_0 : itoaB 0 = ⟨#[48]⟩ := by
  unfold itoaB
  rw [show (0 : Int) = ((0 : Nat) : Int) from rfl, NumPlain.itoa_one (by omega)]; rfl
theorem itoa_7 : itoaB 7 = ⟨#[55]⟩ := by
  unfold itoaB
  rw [show (7 : Int) = ((7 : Nat) : Int) from rfl, NumPlain.itoa_one (by omega)]; rfl
theorem right_gen6 (p : ByteArray) (hp : isPg p = true) (h0 : (leafP p).link = 0) : rightO p o6 = true ∧ (madeO p o6).1 = linkB p 7 := by
  have hr : Lib.atoiAll (⟨#[55]⟩ : ByteArray).data.toList = .ok 7 := by rw [← itoa_7]; exact itoa_read 7 (by omega)
  have h7 := link_page hp (k := 7) (by omega)
  have hs : (linkB p 7).size = 512 := h7.2.2
  have e : madeO p o6 = (linkB p 7, true) := by
    show linkedO p o6 = _
    rw [linked_good (o := o6) hr]
    rw [if_pos ⟨itoa_7, by rw [h0]; exact itoa_0.symm, rfl⟩, hs]
    rfl
  unfold rightO
  rw [e, hp]
  exact ⟨rfl, rfl⟩
theorem right_o6 : rightO P0 o6 = true ∧ (madeO P0 o6).1 = linkB P0 7 := right_gen6 P0 P0_is.1 (by rw [P0_is.2.1])
theorem link_o6 : (leafP (linkB P0 7)).link = 7 := by
  have h7 := link_page P0_is.1 (k := 7) (by omega)
  have := h7.2.1
  rw [show ((7 : Nat) : Int) = 7 from rfl] at this
  rw [this]
set_option maxRecDepth 100000 in
set_option maxHeartbeats 2000000 in
theorem cawake_any (w : World) (hv : Vars w) :
    Calls Tryd.prog 6 #[] w fun e w' => e = .returned (.bool true) ∧ Below w.heap.size w w' := by
  have HV := Lib.hid hv
  have HN := Lib.hid (fun W => new_any 2 W)
  change Hid (∀ W, Calls _ _ _ _ fun e w' => e = .returned (.string P0) ∧ _) at HN
  obtain ⟨d1, d2, d3⟩ := do_back right_o1
  have U := undone right_o1
  have z0 := P0_is.2.2
  have zs := U.size
  have HD1 := Lib.hid (fun W hW => do_any P0 o1 (by omega) (by decide) W hW)
  rw [d1] at HD1
  have HD2 := Lib.hid (fun W hW => do_any (madeO P0 o1).1 (backO o1) (by omega) (by decide) W hW)
  rw [d3, P0_norm] at HD2
  have HD3 := Lib.hid (fun W hW => do_any (madeO P0 o1).1 o1 (by omega) (by decide) W hW)
  rw [do_no used_o1] at HD3
  have HD4 := Lib.hid (fun W hW => do_any P0 o6 (by omega) (by decide) W hW)
  rw [do_yes right_o6.1, right_o6.2] at HD4
  have HR1 := Lib.hid (fun W hW => cright_any P0 o1 (by omega) (by decide) W hW)
  rw [right_o1] at HR1
  have HR2 := Lib.hid (fun W hW => cright_any (madeO P0 o1).1 o1 (by omega) (by decide) W hW)
  rw [used_o1] at HR2
  have HB := Lib.hid (fun W => cback_any o1 W)
  have hs7 : (linkB P0 7).size = 512 := (link_page P0_is.1 (k := 7) (by omega)).2.2
  have HL := Lib.hid (fun W => link_any (linkB P0 7) (by omega) W)
  rw [link_o6] at HL
  have heq := fun W => cop_same ⟨2, 0, ab, ⟨#[]⟩⟩ W
  generalize (madeO P0 o1).1 = q at HD1 HD2 HD3 HR2
  generalize linkB P0 7 = s7 at HD4 HL
  generalize P0 = p at HN HD1 HD2 HD4 HR1
  have hself : (p.toList == p.toList) = true := beq_self_eq_true _
  change Hid (∀ W, Calls _ _ #[copV ⟨1, 0, ⟨#[]⟩, ab⟩] _ fun e w' => e = .returned (copV ⟨2, 0, ab, ⟨#[]⟩⟩) ∧ _) at HB
  change Hid (∀ W, Vars W → Calls _ _ #[.string p, copV ⟨1, 0, ⟨#[]⟩, ab⟩] _ _) at HD1
  change Hid (∀ W, Vars W → Calls _ _ #[.string q, copV ⟨2, 0, ab, ⟨#[]⟩⟩] _ _) at HD2
  change Hid (∀ W, Vars W → Calls _ _ #[.string q, copV ⟨1, 0, ⟨#[]⟩, ab⟩] _ _) at HD3
  change Hid (∀ W, Vars W → Calls _ _ #[.string p, copV ⟨6, 0, ⟨#[48]⟩, ⟨#[55]⟩⟩] _ _) at HD4
  change Hid (∀ W, Vars W → Calls _ _ #[.string p, copV ⟨1, 0, ⟨#[]⟩, ab⟩] _ _) at HR1
  change Hid (∀ W, Vars W → Calls _ _ #[.string q, copV ⟨1, 0, ⟨#[]⟩, ab⟩] _ _) at HR2
  dsimp only [copV, outV] at *
  unfold ab at *
  clear hv d1 d2 d3 U z0 zs hs7
  go_enter Tryd.func6, Tryd.ntmps6
  go_wp2_with fail
  refine (HN.out _).mono ?_
  rintro e w1 ⟨rfl, hb1⟩
  have V1 := Lib.hid ((HV.out.below hb1).below (allocB w1 (.cells #[.int .i64 1, .int .i64 0, .string ⟨#[]⟩, .string ⟨#[97, 98]⟩] 23)))
  go_wp2_with fail
  refine (HD1.out _ V1.out).mono ?_
  rintro e w2 ⟨rfl, hb2⟩
  have V2 := Lib.hid (V1.out.below hb2)
  have B2 := Lib.hid (joinB (pastAlloc (o := (.cells #[.int .i64 1, .int .i64 0, .string ⟨#[]⟩, .string ⟨#[97, 98]⟩] 23)) hb1) hb2)
  have X2 := Lib.hid (blkNew hb2)
  have x2 := blkCell X2.out
  clear hb1 hb2 V1
  go_wp2_with fail
  refine (HB.out _).mono ?_
  rintro e w3 ⟨rfl, hb3⟩
  have V3 := Lib.hid (V2.out.below hb3)
  have B3 := Lib.hid (joinB B2.out hb3)
  have X3 := Lib.hid (blkOld X2.out hb3)
  have x3 := blkCell X3.out
  clear hb3 x2 V2 X2 B2
  go_wp2_with fail
  refine (HD2.out _ V3.out).mono ?_
  rintro e w4 ⟨rfl, hb4⟩
  have V4 := Lib.hid (V3.out.below hb4)
  have B4 := Lib.hid (joinB B3.out hb4)
  have X4 := Lib.hid (blkOld X3.out hb4)
  have x4 := blkCell X4.out
  clear hb4 x3 V3 X3 B3
  go_wp2_with fail
  refine (HD3.out _ V4.out).mono ?_
  rintro e w5 ⟨rfl, hb5⟩
  have V5 := Lib.hid (V4.out.below hb5)
  have B5 := Lib.hid (joinB B4.out hb5)
  have X5 := Lib.hid (blkOld X4.out hb5)
  have x5 := blkCell X5.out
  clear hb5 x4 V4 X4 B4
  go_wp2_with fail
  refine (HD4.out _ V5.out).mono ?_
  rintro e w6 ⟨rfl, hb6⟩
  have V6 := Lib.hid (V5.out.below hb6)
  have B6 := Lib.hid (joinB B5.out hb6)
  have X6 := Lib.hid (blkOld X5.out hb6)
  have x6 := blkCell X6.out
  clear hb6 x5 V5 X5 B5
  go_wp2_with fail
  refine (HR1.out _ V6.out).mono ?_
  rintro e w7 ⟨rfl, hb7⟩
  have V7 := Lib.hid (V6.out.below hb7)
  have B7 := Lib.hid (joinB B6.out hb7)
  have X7 := Lib.hid (blkOld X6.out hb7)
  have x7 := blkCell X7.out
  clear hb7 x6 V6 X6 B6
  go_wp2_with fail
  refine (HR2.out _ V7.out).mono ?_
  rintro e w8 ⟨rfl, hb8⟩
  have V8 := Lib.hid (V7.out.below hb8)
  have B8 := Lib.hid (joinB B7.out hb8)
  have X8 := Lib.hid (blkOld X7.out hb8)
  have x8 := blkCell X8.out
  clear hb8 x7 V7 X7 B7
  go_wp2_with fail
  refine (HB.out _).mono ?_
  rintro e w9 ⟨rfl, hb9⟩
  have V9 := Lib.hid (V8.out.below hb9)
  have B9 := Lib.hid (joinB B8.out hb9)
  have X9 := Lib.hid (blkOld X8.out hb9)
  have x9 := blkCell X9.out
  clear hb9 x8 V8 X8 B8
  go_wp2_with fail
  refine (HL.out _).mono ?_
  rintro e w10 ⟨rfl, hb10⟩
  have V10 := Lib.hid (V9.out.below hb10)
  have B10 := Lib.hid (joinB B9.out hb10)
  have X10 := Lib.hid (blkOld X9.out hb10)
  have x10 := blkCell X10.out
  clear hb10 x9 V9 X9 B9
  go_wp2_with fail
  go_ret
  exact ⟨by simp, B10.out⟩
end Go.Proofs.YtkndifannjpbcaaDoor
/- The walk of ChangeBack. -/
namespace Go.Proofs.YtkndifannjpbcaaDoor
open Go.RowKit
set_option maxRecDepth 100000 in
set_option maxHeartbeats 4000000 in
theorem changeback_any (p : ByteArray) (o : Cop) (w : World) (hv : Vars w) :
    Calls Tryd.prog 3 #[.string p, copV o] w fun e w' => e = .returned (.bool true) ∧ Below w.heap.size w w' := by
  have HW := Lib.hid (fun W hW => cawake_any W hW)
  have HX0 := Lib.hid (heldC_new w o 23)
  have HV0 := Lib.hid (hv.below (allocB w (.cells #[.int .i64 o.kind, .int .i64 o.slot, .string o.old, .string o.new] 23)))
  clear hv
  by_cases hlong : ¬ (p.size ≤ 600 ∧ o.old.size ≤ 600 ∧ o.new.size ≤ 600)
  · have HO := Lib.hid (fun W => over_yes p o hlong W)
    clear hlong
    obtain ⟨kind, slot, old, new⟩ := o
    dsimp only [copV] at *
    go_enter Tryd.func3, Tryd.ntmps3
    go_wp2_with (first | (go_at_call 5; refine (HO.out _).mono ?_; rintro e w1 ⟨rfl, hb1⟩) | (go_at_call 6; refine (HW.out _ (HV0.out.below hb1)).mono ?_; rintro e w2 ⟨rfl, hb2⟩))
    go_ret
    exact ⟨rfl, joinB (joinB (allocB _ _) hb1) hb2⟩
  have hlong2 : p.size ≤ 600 ∧ o.old.size ≤ 600 ∧ o.new.size ≤ 600 := by
    refine Classical.byContradiction fun h => hlong h
  obtain ⟨z1, z2, z3⟩ := hlong2
  have HO := Lib.hid (fun W => over_no p o z1 z2 z3 W)
  have HD := Lib.hid (fun W hW => do_any p o (by omega) (by omega) W hW)
  have HR := Lib.hid (fun W hW => cright_any p o (by omega) (by omega) W hW)
  have HB := Lib.hid (fun W => cback_any o W)
  have HBB := Lib.hid (fun W => cback_any (backO o) W)
  rw [back_back] at HBB
  have heq := fun W => cop_same o W
  have HLp := Lib.hid (fun W => lsn_any p (by omega) W)
  have HSp := Lib.hid (fun W => setlsn_any p ((leafP p).lsn : Nat) (by omega) W)
  cases hb : rightO p o with
  | false =>
    rw [do_no hb] at HD
    rw [hb] at HR
    clear hb hlong z1 z2 z3 HLp HSp
    generalize backO o = bo at HB HBB
    obtain ⟨kind, slot, old, new⟩ := o
    obtain ⟨bk, bs, bold, bnew⟩ := bo
    dsimp only [copV, outV] at *
    go_enter Tryd.func3, Tryd.ntmps3
    go_upto_region 4 with (first | (go_at_call 5; refine (HO.out _).mono ?_; rintro e w1 ⟨rfl, hb1⟩; obtain ⟨c0, c1, c2, c3, -⟩ := (HX0.out.step hb1).v; dsimp only at c0 c1 c2 c3) | (go_at_call 7; refine (HD.out _ (HV0.out.below hb1)).mono ?_; rintro e w3 ⟨rfl, hb3⟩))
    have HX := Lib.hid ((HX0.out.step hb1).step hb3)
    have HV := Lib.hid ((HV0.out.below hb1).below hb3)
    clear c0 c1 c2 c3 hb1 hb3 HX0 HV0 HO HD
    refine wp_region_held_drew (S := (fun u => HeldCV w.heap.size ⟨kind, slot, old, new⟩ w u ∧ Vars u)) (by kernel_rfl) ?_ (fun hHeld => ?_)
    · first | exact ⟨HX.out.v, HV.out⟩ | exact hSn | exact ⟨(HX.out.step (Below.refl _ _).drew).v, HV.out.below (Below.refl _ _).drew⟩
    refine wpAnyH_take (i := 0) (oi := { dst := some 20, op := _, type := _, pos := _, after := _, guard := _ }) (v := ?_) rfl (by kernel_rfl) (by kernel_rfl) (by kernel_rfl) (fun _ _ _ h => h) (Or.inl ⟨by rfl, ?_⟩) (by assumption) ?_
    rotate_left
    · intro w hSw; (try dsimp only at hSw); go_simp; (try with_reducible rfl)
    try simp only [Act.put, List.setIfInBounds_toArray, List.set_cons_zero, List.set_cons_succ]
    refine wpAnyH_take (i := 3) (oi := { dst := some 23, op := _, type := _, pos := _, after := _, guard := _ }) (v := ?_) rfl (by kernel_rfl) (by kernel_rfl) (by kernel_rfl) (fun _ _ _ h => h) (Or.inl ⟨by rfl, ?_⟩) (by assumption) ?_
    rotate_left
    · intro w hSw; (try dsimp only at hSw); go_simp; (try with_reducible rfl)
    try simp only [Act.put, List.setIfInBounds_toArray, List.set_cons_zero, List.set_cons_succ]
    refine wpAnyH_ready (rs := [1]) (by kernel_rfl) (by simp) ?_
    refine AllReadyH.cons (o := { dst := some 21, op := _, type := _, pos := _, after := _, guard := _ }) rfl (fun K hK => ?_) ?_
    rotate_left
    · exact AllReadyH.nil
    go_simp
    refine (HB.out _).mono ?_; rintro e w2 ⟨rfl, hb2⟩; have hSn := And.intro (hHeld.1.2.2.2.2.step hb2).v (hHeld.2.below hb2); clear hHeld hb2; try go_simp
    refine hK.out _ _ ?_ (fun hHeld => ?_)
    · first | exact ⟨HX.out.v, HV.out⟩ | exact hSn | exact ⟨(HX.out.step (Below.refl _ _).drew).v, HV.out.below (Below.refl _ _).drew⟩
    clear hK K
    try simp only [Act.put, List.setIfInBounds_toArray, List.set_cons_zero, List.set_cons_succ]
    refine wpAnyH_ready (rs := [2]) (by kernel_rfl) (by simp) ?_
    refine AllReadyH.cons (o := { dst := some 22, op := _, type := _, pos := _, after := _, guard := _ }) rfl (fun K hK => ?_) ?_
    rotate_left
    · exact AllReadyH.nil
    go_simp
    refine (HBB.out _).mono ?_; rintro e w2 ⟨rfl, hb2⟩; have hSn := And.intro (hHeld.1.2.2.2.2.step hb2).v (hHeld.2.below hb2); clear hHeld hb2; try go_simp
    refine hK.out _ _ ?_ (fun hHeld => ?_)
    · first | exact ⟨HX.out.v, HV.out⟩ | exact hSn | exact ⟨(HX.out.step (Below.refl _ _).drew).v, HV.out.below (Below.refl _ _).drew⟩
    clear hK K
    try simp only [Act.put, List.setIfInBounds_toArray, List.set_cons_zero, List.set_cons_succ]
    refine wpAnyH_take (i := 4) (oi := { dst := some 24, op := _, type := _, pos := _, after := _, guard := _ }) (v := ?_) rfl (by kernel_rfl) (by kernel_rfl) (by kernel_rfl) (fun _ _ _ h => h) (Or.inl ⟨by rfl, ?_⟩) (by assumption) ?_
    rotate_left
    · intro w hSw; (try dsimp only at hSw); go_simp; (try with_reducible rfl)
    try simp only [Act.put, List.setIfInBounds_toArray, List.set_cons_zero, List.set_cons_succ]
    refine wpAnyH_take (i := 5) (oi := { dst := some 25, op := _, type := _, pos := _, after := _, guard := _ }) (v := ?_) rfl (by kernel_rfl) (by kernel_rfl) (by kernel_rfl) (fun _ _ _ h => h) (Or.inl ⟨by rfl, ?_⟩) (by assumption) ?_
    rotate_left
    · intro w hSw; (try dsimp only at hSw); go_simp; (try with_reducible rfl)
    try simp only [Act.put, List.setIfInBounds_toArray, List.set_cons_zero, List.set_cons_succ]
    refine wpAnyH_take (i := 6) (oi := { dst := some 26, op := _, type := _, pos := _, after := _, guard := _ }) (v := ?_) rfl (by kernel_rfl) (by kernel_rfl) (by kernel_rfl) (fun _ _ _ h => h) (Or.inl ⟨by rfl, ?_⟩) (by assumption) ?_
    rotate_left
    · intro w hSw; (try dsimp only at hSw); go_simp; (try with_reducible rfl)
    try simp only [Act.put, List.setIfInBounds_toArray, List.set_cons_zero, List.set_cons_succ]
    refine wpAnyH_take (i := 7) (oi := { dst := some 27, op := _, type := _, pos := _, after := _, guard := _ }) (v := ?_) rfl (by kernel_rfl) (by kernel_rfl) (by kernel_rfl) (fun _ _ _ h => h) (Or.inl ⟨by rfl, ?_⟩) (by assumption) ?_
    rotate_left
    · intro w hSw; (try dsimp only at hSw); go_simp; (try with_reducible rfl)
    try simp only [Act.put, List.setIfInBounds_toArray, List.set_cons_zero, List.set_cons_succ]
    refine wpAnyH_take (i := 8) (oi := { dst := some 28, op := _, type := _, pos := _, after := _, guard := _ }) (v := ?_) rfl (by kernel_rfl) (by kernel_rfl) (by kernel_rfl) (fun _ _ _ h => h) (Or.inl ⟨by rfl, ?_⟩) (by assumption) ?_
    rotate_left
    · intro w hSw; (try dsimp only at hSw); go_simp; (try with_reducible rfl)
    try simp only [Act.put, List.setIfInBounds_toArray, List.set_cons_zero, List.set_cons_succ]
    refine wpAnyH_take (i := 9) (oi := { dst := some 29, op := _, type := _, pos := _, after := _, guard := _ }) (v := ?_) rfl (by kernel_rfl) (by kernel_rfl) (by kernel_rfl) (fun _ _ _ h => h) (Or.inl ⟨by rfl, ?_⟩) (by assumption) ?_
    rotate_left
    · intro w hSw; (try dsimp only at hSw); go_simp; (try with_reducible rfl)
    try simp only [Act.put, List.setIfInBounds_toArray, List.set_cons_zero, List.set_cons_succ]
    refine wpAnyH_ready (rs := [10]) (by kernel_rfl) (by simp) ?_
    refine AllReadyH.cons (o := { dst := some 30, op := _, type := _, pos := _, after := _, guard := _ }) rfl (fun K hK => ?_) ?_
    rotate_left
    · exact AllReadyH.nil
    go_simp
    refine (HR.out _ hHeld.2).mono ?_; rintro e w2 ⟨rfl, hb2⟩; have hSn := And.intro (hHeld.1.2.2.2.2.step hb2).v (hHeld.2.below hb2); clear hHeld hb2; try go_simp
    refine hK.out _ _ ?_ (fun hHeld => ?_)
    · first | exact ⟨HX.out.v, HV.out⟩ | exact hSn | exact ⟨(HX.out.step (Below.refl _ _).drew).v, HV.out.below (Below.refl _ _).drew⟩
    clear hK K
    try simp only [Act.put, List.setIfInBounds_toArray, List.set_cons_zero, List.set_cons_succ]
    refine wpAnyH_take (i := 11) (oi := { dst := some 31, op := _, type := _, pos := _, after := _, guard := _ }) (v := ?_) rfl (by kernel_rfl) (by kernel_rfl) (by kernel_rfl) (fun _ _ _ h => h) (Or.inl ⟨by rfl, ?_⟩) (by assumption) ?_
    rotate_left
    · intro w hSw; (try dsimp only at hSw); go_simp; (try with_reducible rfl)
    try simp only [Act.put, List.setIfInBounds_toArray, List.set_cons_zero, List.set_cons_succ]
    refine wpAnyH_take (i := 12) (oi := { dst := some 32, op := _, type := _, pos := _, after := _, guard := _ }) (v := ?_) rfl (by kernel_rfl) (by kernel_rfl) (by kernel_rfl) (fun _ _ _ h => h) (Or.inl ⟨by rfl, ?_⟩) (by assumption) ?_
    rotate_left
    · intro w hSw; (try dsimp only at hSw); go_simp; (try with_reducible rfl)
    try simp only [Act.put, List.setIfInBounds_toArray, List.set_cons_zero, List.set_cons_succ]
    refine wpAnyH_done (by kernel_rfl) ?_ _
    go_wp2_with ((go_at_call 6; refine (HW.out _ hHeld.2).mono ?_; rintro e w5 ⟨rfl, hb5⟩))
    go_ret
    exact ⟨by simp, joinB hHeld.1.2.2.2.2.below hb5⟩
  | true =>
    obtain ⟨d1, d2, d3⟩ := do_back hb
    have U := undone hb
    have zs := U.size
    rw [d1] at HD
    rw [hb] at HR
    have HDq := Lib.hid (fun W hW => do_any (madeO p o).1 (backO o) (by omega) (by show o.old.size ≤ _; omega) W hW)
    rw [d3] at HDq
    have HRq := Lib.hid (fun W hW => cright_any (madeO p o).1 (backO o) (by omega) (by show o.old.size ≤ _; omega) W hW)
    rw [d2] at HRq
    have HPq := Lib.hid (fun W => right_any (madeO p o).1 (by omega) W)
    rw [U.page] at HPq
    have HLq := Lib.hid (fun W => lsn_any (madeO p o).1 (by omega) W)
    rw [U.lsn] at HLq
    change Hid (∀ W, Calls _ _ _ _ fun e w' => e = .returned (.string (plB p)) ∧ _) at HSp
    clear hb d1 d2 d3 U zs hlong z1 z2 z3
    generalize (madeO p o).1 = q at HD HDq HRq HPq HLq
    generalize plB p = pl at HDq HSp
    generalize ((leafP p).lsn : Nat) = l at HLp HLq HSp
    have hself : (pl.toList == pl.toList) = true := beq_self_eq_true _
    generalize backO o = bo at HB HBB HDq HRq
    obtain ⟨kind, slot, old, new⟩ := o
    obtain ⟨bk, bs, bold, bnew⟩ := bo
    dsimp only [copV, outV] at *
    go_enter Tryd.func3, Tryd.ntmps3
    go_upto_region 4 with (first | (go_at_call 5; refine (HO.out _).mono ?_; rintro e w1 ⟨rfl, hb1⟩; obtain ⟨c0, c1, c2, c3, -⟩ := (HX0.out.step hb1).v; dsimp only at c0 c1 c2 c3) | (go_at_call 7; refine (HD.out _ (HV0.out.below hb1)).mono ?_; rintro e w3 ⟨rfl, hb3⟩))
    have HX := Lib.hid ((HX0.out.step hb1).step hb3)
    have HV := Lib.hid ((HV0.out.below hb1).below hb3)
    clear c0 c1 c2 c3 hb1 hb3 HX0 HV0 HO HD
    refine wp_region_held_drew (S := (fun u => HeldCV w.heap.size ⟨kind, slot, old, new⟩ w u ∧ Vars u)) (by kernel_rfl) ?_ (fun hHeld => ?_)
    · first | exact ⟨HX.out.v, HV.out⟩ | exact hSn | exact ⟨(HX.out.step (Below.refl _ _).drew).v, HV.out.below (Below.refl _ _).drew⟩
    refine wpAnyH_take (i := 0) (oi := { dst := some 20, op := _, type := _, pos := _, after := _, guard := _ }) (v := ?_) rfl (by kernel_rfl) (by kernel_rfl) (by kernel_rfl) (fun _ _ _ h => h) (Or.inl ⟨by rfl, ?_⟩) (by assumption) ?_
    rotate_left
    · intro w hSw; (try dsimp only at hSw); go_simp; (try with_reducible rfl)
    try simp only [Act.put, List.setIfInBounds_toArray, List.set_cons_zero, List.set_cons_succ]
    refine wpAnyH_take (i := 3) (oi := { dst := some 23, op := _, type := _, pos := _, after := _, guard := _ }) (v := ?_) rfl (by kernel_rfl) (by kernel_rfl) (by kernel_rfl) (fun _ _ _ h => h) (Or.inl ⟨by rfl, ?_⟩) (by assumption) ?_
    rotate_left
    · intro w hSw; (try dsimp only at hSw); go_simp; (try with_reducible rfl)
    try simp only [Act.put, List.setIfInBounds_toArray, List.set_cons_zero, List.set_cons_succ]
    refine wpAnyH_ready (rs := [1]) (by kernel_rfl) (by simp) ?_
    refine AllReadyH.cons (o := { dst := some 21, op := _, type := _, pos := _, after := _, guard := _ }) rfl (fun K hK => ?_) ?_
    rotate_left
    · exact AllReadyH.nil
    go_simp
    refine (HB.out _).mono ?_; rintro e w2 ⟨rfl, hb2⟩; have hSn := And.intro (hHeld.1.2.2.2.2.step hb2).v (hHeld.2.below hb2); clear hHeld hb2; try go_simp
    refine hK.out _ _ ?_ (fun hHeld => ?_)
    · first | exact ⟨HX.out.v, HV.out⟩ | exact hSn | exact ⟨(HX.out.step (Below.refl _ _).drew).v, HV.out.below (Below.refl _ _).drew⟩
    clear hK K
    try simp only [Act.put, List.setIfInBounds_toArray, List.set_cons_zero, List.set_cons_succ]
    refine wpAnyH_ready (rs := [2]) (by kernel_rfl) (by simp) ?_
    refine AllReadyH.cons (o := { dst := some 22, op := _, type := _, pos := _, after := _, guard := _ }) rfl (fun K hK => ?_) ?_
    rotate_left
    · exact AllReadyH.nil
    go_simp
    refine (HBB.out _).mono ?_; rintro e w2 ⟨rfl, hb2⟩; have hSn := And.intro (hHeld.1.2.2.2.2.step hb2).v (hHeld.2.below hb2); clear hHeld hb2; try go_simp
    refine hK.out _ _ ?_ (fun hHeld => ?_)
    · first | exact ⟨HX.out.v, HV.out⟩ | exact hSn | exact ⟨(HX.out.step (Below.refl _ _).drew).v, HV.out.below (Below.refl _ _).drew⟩
    clear hK K
    try simp only [Act.put, List.setIfInBounds_toArray, List.set_cons_zero, List.set_cons_succ]
    refine wpAnyH_take (i := 4) (oi := { dst := some 24, op := _, type := _, pos := _, after := _, guard := _ }) (v := ?_) rfl (by kernel_rfl) (by kernel_rfl) (by kernel_rfl) (fun _ _ _ h => h) (Or.inl ⟨by rfl, ?_⟩) (by assumption) ?_
    rotate_left
    · intro w hSw; (try dsimp only at hSw); go_simp; (try with_reducible rfl)
    try simp only [Act.put, List.setIfInBounds_toArray, List.set_cons_zero, List.set_cons_succ]
    refine wpAnyH_take (i := 5) (oi := { dst := some 25, op := _, type := _, pos := _, after := _, guard := _ }) (v := ?_) rfl (by kernel_rfl) (by kernel_rfl) (by kernel_rfl) (fun _ _ _ h => h) (Or.inl ⟨by rfl, ?_⟩) (by assumption) ?_
    rotate_left
    · intro w hSw; (try dsimp only at hSw); go_simp; (try with_reducible rfl)
    try simp only [Act.put, List.setIfInBounds_toArray, List.set_cons_zero, List.set_cons_succ]
    refine wpAnyH_take (i := 6) (oi := { dst := some 26, op := _, type := _, pos := _, after := _, guard := _ }) (v := ?_) rfl (by kernel_rfl) (by kernel_rfl) (by kernel_rfl) (fun _ _ _ h => h) (Or.inl ⟨by rfl, ?_⟩) (by assumption) ?_
    rotate_left
    · intro w hSw; (try dsimp only at hSw); go_simp; (try with_reducible rfl)
    try simp only [Act.put, List.setIfInBounds_toArray, List.set_cons_zero, List.set_cons_succ]
    refine wpAnyH_take (i := 7) (oi := { dst := some 27, op := _, type := _, pos := _, after := _, guard := _ }) (v := ?_) rfl (by kernel_rfl) (by kernel_rfl) (by kernel_rfl) (fun _ _ _ h => h) (Or.inl ⟨by rfl, ?_⟩) (by assumption) ?_
    rotate_left
    · intro w hSw; (try dsimp only at hSw); go_simp; (try with_reducible rfl)
    try simp only [Act.put, List.setIfInBounds_toArray, List.set_cons_zero, List.set_cons_succ]
    refine wpAnyH_take (i := 8) (oi := { dst := some 28, op := _, type := _, pos := _, after := _, guard := _ }) (v := ?_) rfl (by kernel_rfl) (by kernel_rfl) (by kernel_rfl) (fun _ _ _ h => h) (Or.inl ⟨by rfl, ?_⟩) (by assumption) ?_
    rotate_left
    · intro w hSw; (try dsimp only at hSw); go_simp; (try with_reducible rfl)
    try simp only [Act.put, List.setIfInBounds_toArray, List.set_cons_zero, List.set_cons_succ]
    refine wpAnyH_take (i := 9) (oi := { dst := some 29, op := _, type := _, pos := _, after := _, guard := _ }) (v := ?_) rfl (by kernel_rfl) (by kernel_rfl) (by kernel_rfl) (fun _ _ _ h => h) (Or.inl ⟨by rfl, ?_⟩) (by assumption) ?_
    rotate_left
    · intro w hSw; (try dsimp only at hSw); go_simp; (try with_reducible rfl)
    try simp only [Act.put, List.setIfInBounds_toArray, List.set_cons_zero, List.set_cons_succ]
    refine wpAnyH_ready (rs := [10]) (by kernel_rfl) (by simp) ?_
    refine AllReadyH.cons (o := { dst := some 30, op := _, type := _, pos := _, after := _, guard := _ }) rfl (fun K hK => ?_) ?_
    rotate_left
    · exact AllReadyH.nil
    go_simp
    refine (HR.out _ hHeld.2).mono ?_; rintro e w2 ⟨rfl, hb2⟩; have hSn := And.intro (hHeld.1.2.2.2.2.step hb2).v (hHeld.2.below hb2); clear hHeld hb2; try go_simp
    refine hK.out _ _ ?_ (fun hHeld => ?_)
    · first | exact ⟨HX.out.v, HV.out⟩ | exact hSn | exact ⟨(HX.out.step (Below.refl _ _).drew).v, HV.out.below (Below.refl _ _).drew⟩
    clear hK K
    try simp only [Act.put, List.setIfInBounds_toArray, List.set_cons_zero, List.set_cons_succ]
    refine wpAnyH_take (i := 11) (oi := { dst := some 31, op := _, type := _, pos := _, after := _, guard := _ }) (v := ?_) rfl (by kernel_rfl) (by kernel_rfl) (by kernel_rfl) (fun _ _ _ h => h) (Or.inl ⟨by rfl, ?_⟩) (by assumption) ?_
    rotate_left
    · intro w hSw; (try dsimp only at hSw); go_simp; (try with_reducible rfl)
    try simp only [Act.put, List.setIfInBounds_toArray, List.set_cons_zero, List.set_cons_succ]
    refine wpAnyH_take (i := 12) (oi := { dst := some 32, op := _, type := _, pos := _, after := _, guard := _ }) (v := ?_) rfl (by kernel_rfl) (by kernel_rfl) (by kernel_rfl) (fun _ _ _ h => h) (Or.inl ⟨by rfl, ?_⟩) (by assumption) ?_
    rotate_left
    · intro w hSw; (try dsimp only at hSw); go_simp; (try with_reducible rfl)
    try simp only [Act.put, List.setIfInBounds_toArray, List.set_cons_zero, List.set_cons_succ]
    refine wpAnyH_done (by kernel_rfl) ?_ _
    have HX2 := Lib.hid hHeld
    clear hHeld HR HBB HX HV
    obtain ⟨⟨c0, c1, c2, c3, -⟩, -⟩ := HX2.out
    dsimp only at c0 c1 c2 c3
    go_wp2_with fail
    refine (HB.out _).mono ?_
    rintro e w5 ⟨rfl, hb5⟩
    have V5 := Lib.hid ((HX2.out.2.below hb5).below (allocB w5 (.cells #[.int .i64 bk, .int .i64 bs, .string bold, .string bnew] 23)))
    have B5 := Lib.hid (joinB HX2.out.1.2.2.2.2.below hb5)
    clear hb5 HX2 c0 c1 c2 c3
    go_wp2_with fail
    refine (HDq.out _ V5.out).mono ?_
    rintro e w6 ⟨rfl, hb6⟩
    have V6 := Lib.hid (V5.out.below hb6)
    have B6 := Lib.hid (joinB (pastAlloc (o := (.cells #[.int .i64 bk, .int .i64 bs, .string bold, .string bnew] 23)) B5.out) hb6)
    have X6 := Lib.hid (blkNew hb6)
    have x6 := blkCell X6.out
    clear hb6 V5 B5
    go_wp2_with fail
    refine (HW.out _ V6.out).mono ?_
    rintro e w7 ⟨rfl, hb7⟩
    have V7 := Lib.hid (V6.out.below hb7)
    have B7 := Lib.hid (joinB B6.out hb7)
    have X7 := Lib.hid (blkOld X6.out hb7)
    have x7 := blkCell X7.out
    clear hb7 x6 V6 X6 B6
    go_wp2_with fail
    refine (HPq.out _).mono ?_
    rintro e w8 ⟨rfl, hb8⟩
    have V8 := Lib.hid (V7.out.below hb8)
    have B8 := Lib.hid (joinB B7.out hb8)
    have X8 := Lib.hid (blkOld X7.out hb8)
    have x8 := blkCell X8.out
    clear hb8 x7 V7 X7 B7
    go_wp2_with fail
    refine (HLq.out _).mono ?_
    rintro e w9 ⟨rfl, hb9⟩
    have V9 := Lib.hid (V8.out.below hb9)
    have B9 := Lib.hid (joinB B8.out hb9)
    have X9 := Lib.hid (blkOld X8.out hb9)
    have x9 := blkCell X9.out
    clear hb9 x8 V8 X8 B8
    go_wp2_with fail
    refine (HLp.out _).mono ?_
    rintro e w10 ⟨rfl, hb10⟩
    have V10 := Lib.hid (V9.out.below hb10)
    have B10 := Lib.hid (joinB B9.out hb10)
    have X10 := Lib.hid (blkOld X9.out hb10)
    have x10 := blkCell X10.out
    clear hb10 x9 V9 X9 B9
    go_wp2_with fail
    refine (HRq.out _ V10.out).mono ?_
    rintro e w11 ⟨rfl, hb11⟩
    have V11 := Lib.hid (V10.out.below hb11)
    have B11 := Lib.hid (joinB B10.out hb11)
    have X11 := Lib.hid (blkOld X10.out hb11)
    have x11 := blkCell X11.out
    clear hb11 x10 V10 X10 B10
    go_wp2_with fail
    refine (HLp.out _).mono ?_
    rintro e w12 ⟨rfl, hb12⟩
    have V12 := Lib.hid (V11.out.below hb12)
    have B12 := Lib.hid (joinB B11.out hb12)
    have X12 := Lib.hid (blkOld X11.out hb12)
    have x12 := blkCell X12.out
    clear hb12 x11 V11 X11 B11
    go_wp2_with fail
    refine (HSp.out _).mono ?_
    rintro e w13 ⟨rfl, hb13⟩
    have V13 := Lib.hid (V12.out.below hb13)
    have B13 := Lib.hid (joinB B12.out hb13)
    have X13 := Lib.hid (blkOld X12.out hb13)
    have x13 := blkCell X13.out
    clear hb13 x12 V12 X12 B12
    go_wp2_with fail
    go_ret
    exact ⟨by simp, B13.out⟩
end Go.Proofs.YtkndifannjpbcaaDoor
