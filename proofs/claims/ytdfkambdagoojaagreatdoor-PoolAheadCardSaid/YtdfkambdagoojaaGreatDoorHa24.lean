import Derived.Test.YtdfkambdagoojaaGreatDoorHa00
import Derived.Test.YtdfkambdagoojaaGreatDoorHa23
import Derived.Deep.DeepCutAuto
set_option maxRecDepth 100000
set_option maxHeartbeats 16000000
set_option linter.unusedSimpArgs false
namespace Go.Proofs.YtdfkambdagoojaaGreatDoor
open Go.RowKit
theorem made_1 (p:ByteArray)(o:Cop)(hk:o.kind=1)(hp:p.size≤140737488355328)(ho:o.new.size≤140737488355328)(w:World)(hv:Vars w):
 Calls Tryz.prog 124 #[p,copV o] w fun e w'=>e= .returned (.tuple #[.string (madeO p o).1,.bool (madeO p o).2])∧Below w.heap.size w w':=by
 have HX:=Hq (heldC_new w o 40)
 have HV:=Hq hv
 have HG:=Hq (fun W=>get_any_rec p o.slot hp W)
 obtain⟨R,hR⟩:=ex (madeO p o)
 rw[← hR]
 have HR:=Hq (hR.trans (show madeO p o=if o.old.size=0 then okB (putO p o.slot o.new)else noPage by unfold madeO;rw[hk];rfl))
 have HC:=Hq (fun W=>pput_any p o.slot o.new hp W)
 generalize putO p o.slot o.new=x at HC HR
 obtain⟨qx,ex⟩:=x
 unfold outV at HC
 have HO:=Hq (show oldIs p o=(!decide ((Pg.slotAt (leafP p).recs o.slot).size=0)&&decide (o.old=Pg.slotAt (leafP p).recs o.slot))from rfl)
 generalize oldIs p o=oi at HO HR
 generalize (!decide ((Pg.slotAt (leafP p).recs o.slot).size=0))=th at HO HG
 generalize Pg.slotAt (leafP p).recs o.slot=r at HO HG
 obtain⟨kind,slot,old,new⟩:=o
 dsimp only[copV]at HX HG HO HR hk HC ⊢
 subst hk
 clear hR hv
 go_enter Tryz.func124,Tryz.ntmps124
 go_upto_region 2 with(go_at_call 172;refine(HG.out _).mono ?_;rintro e w1 ⟨rfl,hb1⟩)
 have H1:=Hq (HX.out.step hb1)
 clear HX hb1
 obtain⟨c0,c1,c2,c3,-⟩:=H1.out.v
 dsimp only at c0 c1 c2 c3
 go_cut [8] (fun s we=>s= .bool oi∧w1=we)
 case first=>
  cases th with
  |false=>
   have HO2:=Hq (HO.out.trans (Bool.false_and _))
   go_wp2_with fail
   go_meet
   case rel=>exact⟨by rw[HO2.out],rfl⟩
  |true=>
   by_cases he:old=r
   ·subst he
    have hq:(old.toList==old.toList)=true:=beq_self_eq_true _
    have HO2:=Hq (HO.out.trans (show _=true by simp))
    go_wp2_with fail
    go_meet
    case rel=>exact⟨by rw[HO2.out],rfl⟩
   ·have hq:=cstr_ne he
    have HO2:=Hq (HO.out.trans (show _=false by simp[he]))
    clear he
    go_wp2_with fail
    go_meet
    case rel=>exact⟨by rw[HO2.out],rfl⟩
 case rest=>
  obtain⟨rfl,rfl⟩:=hcut
  clear HO HG
  by_cases h0:old.size=0
  ·have HF:=Hq (HR.out.trans (if_pos h0))
   obtain⟨z1,z2,z3⟩:=cstr_nil h0
   clear h0 HR
   go_wp2_with ((go_at_call 173;refine(HC.out _).mono ?_;rintro e w2 ⟨rfl,hb2⟩))
   go_ret2
   exact⟨by rw[HF.out];rfl,joinB H1.out.below hb2⟩
  ·have HF:=Hq (HR.out.trans (if_neg h0))
   obtain⟨z1,z2,z3⟩:=cstr_some h0
   clear h0 HR
   go_wp2_with fail
   go_ret2
   exact⟨by rw[HF.out];rfl,H1.out.below⟩
theorem made_2 (p:ByteArray)(o:Cop)(hk:o.kind=2)(hp:p.size≤140737488355328)(ho:o.new.size≤140737488355328)(w:World)(hv:Vars w):
 Calls Tryz.prog 124 #[p,copV o] w fun e w'=>e= .returned (.tuple #[.string (madeO p o).1,.bool (madeO p o).2])∧Below w.heap.size w w':=by
 have HX:=Hq (heldC_new w o 40)
 have HV:=Hq hv
 have HG:=Hq (fun W=>get_any_rec p o.slot hp W)
 obtain⟨R,hR⟩:=ex (madeO p o)
 rw[← hR]
 have HR:=Hq (hR.trans (show madeO p o=if oldIs p o&&decide (o.new.size=0)then okB (cutO p o.slot)else noPage by unfold madeO;rw[hk];rfl))
 have HC:=Hq (fun W=>pcut_any p o.slot hp W)
 generalize cutO p o.slot=x at HC HR
 obtain⟨qx,ex⟩:=x
 unfold outV at HC
 have HO:=Hq (show oldIs p o=(!decide ((Pg.slotAt (leafP p).recs o.slot).size=0)&&decide (o.old=Pg.slotAt (leafP p).recs o.slot))from rfl)
 generalize oldIs p o=oi at HO HR
 generalize (!decide ((Pg.slotAt (leafP p).recs o.slot).size=0))=th at HO HG
 generalize Pg.slotAt (leafP p).recs o.slot=r at HO HG
 obtain⟨kind,slot,old,new⟩:=o
 dsimp only[copV]at HX HG HO HR hk HC ⊢
 subst hk
 clear hR hv
 go_enter Tryz.func124,Tryz.ntmps124
 go_upto_region 2 with(go_at_call 172;refine(HG.out _).mono ?_;rintro e w1 ⟨rfl,hb1⟩)
 have H1:=Hq (HX.out.step hb1)
 clear HX hb1
 obtain⟨c0,c1,c2,c3,-⟩:=H1.out.v
 dsimp only at c0 c1 c2 c3
 go_cut [8] (fun s we=>s= .bool oi∧w1=we)
 case first=>
  cases th with
  |false=>
   have HO2:=Hq (HO.out.trans (Bool.false_and _))
   go_wp2_with fail
   go_meet
   case rel=>exact⟨by rw[HO2.out],rfl⟩
  |true=>
   by_cases he:old=r
   ·subst he
    have hq:(old.toList==old.toList)=true:=beq_self_eq_true _
    have HO2:=Hq (HO.out.trans (show _=true by simp))
    go_wp2_with fail
    go_meet
    case rel=>exact⟨by rw[HO2.out],rfl⟩
   ·have hq:=cstr_ne he
    have HO2:=Hq (HO.out.trans (show _=false by simp[he]))
    clear he
    go_wp2_with fail
    go_meet
    case rel=>exact⟨by rw[HO2.out],rfl⟩
 case rest=>
  obtain⟨rfl,rfl⟩:=hcut
  clear HO HG
  cases oi with
  |true=>
   by_cases h0:new.size=0
   ·have HF:=Hq (HR.out.trans (if_pos (by simp[h0])))
    obtain⟨z1,z2,z3⟩:=cstr_nil h0
    clear h0 HR
    go_wp2_with ((go_at_call 174;refine(HC.out _).mono ?_;rintro e w2 ⟨rfl,hb2⟩))
    go_ret2
    exact⟨by rw[HF.out];rfl,joinB H1.out.below hb2⟩
   ·have HF:=Hq (HR.out.trans (if_neg (by simp[h0])))
    obtain⟨z1,z2,z3⟩:=cstr_some h0
    clear h0 HR
    go_wp2_with fail
    go_ret2
    exact⟨by rw[HF.out];rfl,H1.out.below⟩
  |false=>
   have HF:=Hq (HR.out.trans (if_neg (by simp)))
   clear HR
   go_wp2_with fail
   go_ret2
   exact⟨by rw[HF.out];rfl,H1.out.below⟩
theorem made_3 (p:ByteArray)(o:Cop)(hk:o.kind=3)(hp:p.size≤140737488355328)(ho:o.new.size≤140737488355328)(w:World)(hv:Vars w):
 Calls Tryz.prog 124 #[p,copV o] w fun e w'=>e= .returned (.tuple #[.string (madeO p o).1,.bool (madeO p o).2])∧Below w.heap.size w w':=by
 have HX:=Hq (heldC_new w o 40)
 have HV:=Hq hv
 have HG:=Hq (fun W=>get_any_rec p o.slot hp W)
 obtain⟨R,hR⟩:=ex (madeO p o)
 rw[← hR]
 have HR:=Hq (hR.trans (show madeO p o=if oldIs p o then okB (setO p o.slot o.new)else noPage by unfold madeO;rw[hk];rfl))
 have HC:=Hq (fun W=>pset_any p o.slot o.new hp W)
 generalize setO p o.slot o.new=x at HC HR
 obtain⟨qx,ex⟩:=x
 unfold outV at HC
 have HO:=Hq (show oldIs p o=(!decide ((Pg.slotAt (leafP p).recs o.slot).size=0)&&decide (o.old=Pg.slotAt (leafP p).recs o.slot))from rfl)
 generalize oldIs p o=oi at HO HR
 generalize (!decide ((Pg.slotAt (leafP p).recs o.slot).size=0))=th at HO HG
 generalize Pg.slotAt (leafP p).recs o.slot=r at HO HG
 obtain⟨kind,slot,old,new⟩:=o
 dsimp only[copV]at HX HG HO HR hk HC ⊢
 subst hk
 clear hR hv
 go_enter Tryz.func124,Tryz.ntmps124
 go_upto_region 2 with(go_at_call 172;refine(HG.out _).mono ?_;rintro e w1 ⟨rfl,hb1⟩)
 have H1:=Hq (HX.out.step hb1)
 clear HX hb1
 obtain⟨c0,c1,c2,c3,-⟩:=H1.out.v
 dsimp only at c0 c1 c2 c3
 go_cut [8] (fun s we=>s= .bool oi∧w1=we)
 case first=>
  cases th with
  |false=>
   have HO2:=Hq (HO.out.trans (Bool.false_and _))
   go_wp2_with fail
   go_meet
   case rel=>exact⟨by rw[HO2.out],rfl⟩
  |true=>
   by_cases he:old=r
   ·subst he
    have hq:(old.toList==old.toList)=true:=beq_self_eq_true _
    have HO2:=Hq (HO.out.trans (show _=true by simp))
    go_wp2_with fail
    go_meet
    case rel=>exact⟨by rw[HO2.out],rfl⟩
   ·have hq:=cstr_ne he
    have HO2:=Hq (HO.out.trans (show _=false by simp[he]))
    clear he
    go_wp2_with fail
    go_meet
    case rel=>exact⟨by rw[HO2.out],rfl⟩
 case rest=>
  obtain⟨rfl,rfl⟩:=hcut
  clear HO HG
  cases oi with
  |true=>
   have HF:=Hq (HR.out.trans (if_pos rfl))
   clear HR
   go_wp2_with ((go_at_call 175;refine(HC.out _).mono ?_;rintro e w2 ⟨rfl,hb2⟩))
   go_ret2
   exact⟨by rw[HF.out];rfl,joinB H1.out.below hb2⟩
  |false=>
   have HF:=Hq (HR.out.trans (if_neg (by simp)))
   clear HR
   go_wp2_with fail
   go_ret2
   exact⟨by rw[HF.out];rfl,H1.out.below⟩
theorem made_4 (p:ByteArray)(o:Cop)(hk:o.kind=4)(hp:p.size≤140737488355328)(ho:o.new.size≤140737488355328)(w:World)(hv:Vars w):
 Calls Tryz.prog 124 #[p,copV o] w fun e w'=>e= .returned (.tuple #[.string (madeO p o).1,.bool (madeO p o).2])∧Below w.heap.size w w':=by
 have HX:=Hq (heldC_new w o 40)
 have HV:=Hq hv
 have HG:=Hq (fun W=>get_any_rec p o.slot hp W)
 obtain⟨R,hR⟩:=ex (madeO p o)
 rw[← hR]
 have HR:=Hq (hR.trans (show madeO p o=if o.old.size=0 then okB (addO p o.slot o.new)else noPage by unfold madeO;rw[hk];rfl))
 have HC:=Hq (fun W=>padd_any p o.slot o.new hp W)
 generalize addO p o.slot o.new=x at HC HR
 obtain⟨qx,ex⟩:=x
 unfold outV at HC
 have HO:=Hq (show oldIs p o=(!decide ((Pg.slotAt (leafP p).recs o.slot).size=0)&&decide (o.old=Pg.slotAt (leafP p).recs o.slot))from rfl)
 generalize oldIs p o=oi at HO HR
 generalize (!decide ((Pg.slotAt (leafP p).recs o.slot).size=0))=th at HO HG
 generalize Pg.slotAt (leafP p).recs o.slot=r at HO HG
 obtain⟨kind,slot,old,new⟩:=o
 dsimp only[copV]at HX HG HO HR hk HC ⊢
 subst hk
 clear hR hv
 go_enter Tryz.func124,Tryz.ntmps124
 go_upto_region 2 with(go_at_call 172;refine(HG.out _).mono ?_;rintro e w1 ⟨rfl,hb1⟩)
 have H1:=Hq (HX.out.step hb1)
 clear HX hb1
 obtain⟨c0,c1,c2,c3,-⟩:=H1.out.v
 dsimp only at c0 c1 c2 c3
 go_cut [8] (fun s we=>s= .bool oi∧w1=we)
 case first=>
  cases th with
  |false=>
   have HO2:=Hq (HO.out.trans (Bool.false_and _))
   go_wp2_with fail
   go_meet
   case rel=>exact⟨by rw[HO2.out],rfl⟩
  |true=>
   by_cases he:old=r
   ·subst he
    have hq:(old.toList==old.toList)=true:=beq_self_eq_true _
    have HO2:=Hq (HO.out.trans (show _=true by simp))
    go_wp2_with fail
    go_meet
    case rel=>exact⟨by rw[HO2.out],rfl⟩
   ·have hq:=cstr_ne he
    have HO2:=Hq (HO.out.trans (show _=false by simp[he]))
    clear he
    go_wp2_with fail
    go_meet
    case rel=>exact⟨by rw[HO2.out],rfl⟩
 case rest=>
  obtain⟨rfl,rfl⟩:=hcut
  clear HO HG
  by_cases h0:old.size=0
  ·have HF:=Hq (HR.out.trans (if_pos h0))
   obtain⟨z1,z2,z3⟩:=cstr_nil h0
   clear h0 HR
   go_wp2_with ((go_at_call 176;refine(HC.out _).mono ?_;rintro e w2 ⟨rfl,hb2⟩))
   go_ret2
   exact⟨by rw[HF.out];rfl,joinB H1.out.below hb2⟩
  ·have HF:=Hq (HR.out.trans (if_neg h0))
   obtain⟨z1,z2,z3⟩:=cstr_some h0
   clear h0 HR
   go_wp2_with fail
   go_ret2
   exact⟨by rw[HF.out];rfl,H1.out.below⟩
theorem made_5 (p:ByteArray)(o:Cop)(hk:o.kind=5)(hp:p.size≤140737488355328)(ho:o.new.size≤140737488355328)(w:World)(hv:Vars w):
 Calls Tryz.prog 124 #[p,copV o] w fun e w'=>e= .returned (.tuple #[.string (madeO p o).1,.bool (madeO p o).2])∧Below w.heap.size w w':=by
 have HX:=Hq (heldC_new w o 40)
 have HV:=Hq hv
 have HG:=Hq (fun W=>get_any_rec p o.slot hp W)
 obtain⟨R,hR⟩:=ex (madeO p o)
 rw[← hR]
 have HR:=Hq (hR.trans (show madeO p o=if oldIs p o&&decide (o.new.size=0)then okB (delO p o.slot)else noPage by unfold madeO;rw[hk];rfl))
 have HC:=Hq (fun W=>pdel_any p o.slot hp W)
 generalize delO p o.slot=x at HC HR
 obtain⟨qx,ex⟩:=x
 unfold outV at HC
 have HO:=Hq (show oldIs p o=(!decide ((Pg.slotAt (leafP p).recs o.slot).size=0)&&decide (o.old=Pg.slotAt (leafP p).recs o.slot))from rfl)
 generalize oldIs p o=oi at HO HR
 generalize (!decide ((Pg.slotAt (leafP p).recs o.slot).size=0))=th at HO HG
 generalize Pg.slotAt (leafP p).recs o.slot=r at HO HG
 obtain⟨kind,slot,old,new⟩:=o
 dsimp only[copV]at HX HG HO HR hk HC ⊢
 subst hk
 clear hR hv
 go_enter Tryz.func124,Tryz.ntmps124
 go_upto_region 2 with(go_at_call 172;refine(HG.out _).mono ?_;rintro e w1 ⟨rfl,hb1⟩)
 have H1:=Hq (HX.out.step hb1)
 clear HX hb1
 obtain⟨c0,c1,c2,c3,-⟩:=H1.out.v
 dsimp only at c0 c1 c2 c3
 go_cut [8] (fun s we=>s= .bool oi∧w1=we)
 case first=>
  cases th with
  |false=>
   have HO2:=Hq (HO.out.trans (Bool.false_and _))
   go_wp2_with fail
   go_meet
   case rel=>exact⟨by rw[HO2.out],rfl⟩
  |true=>
   by_cases he:old=r
   ·subst he
    have hq:(old.toList==old.toList)=true:=beq_self_eq_true _
    have HO2:=Hq (HO.out.trans (show _=true by simp))
    go_wp2_with fail
    go_meet
    case rel=>exact⟨by rw[HO2.out],rfl⟩
   ·have hq:=cstr_ne he
    have HO2:=Hq (HO.out.trans (show _=false by simp[he]))
    clear he
    go_wp2_with fail
    go_meet
    case rel=>exact⟨by rw[HO2.out],rfl⟩
 case rest=>
  obtain⟨rfl,rfl⟩:=hcut
  clear HO HG
  cases oi with
  |true=>
   by_cases h0:new.size=0
   ·have HF:=Hq (HR.out.trans (if_pos (by simp[h0])))
    obtain⟨z1,z2,z3⟩:=cstr_nil h0
    clear h0 HR
    go_wp2_with ((go_at_call 177;refine(HC.out _).mono ?_;rintro e w2 ⟨rfl,hb2⟩))
    go_ret2
    exact⟨by rw[HF.out];rfl,joinB H1.out.below hb2⟩
   ·have HF:=Hq (HR.out.trans (if_neg (by simp[h0])))
    obtain⟨z1,z2,z3⟩:=cstr_some h0
    clear h0 HR
    go_wp2_with fail
    go_ret2
    exact⟨by rw[HF.out];rfl,H1.out.below⟩
  |false=>
   have HF:=Hq (HR.out.trans (if_neg (by simp)))
   clear HR
   go_wp2_with fail
   go_ret2
   exact⟨by rw[HF.out];rfl,H1.out.below⟩
theorem made_6 (p:ByteArray)(o:Cop)(hk:o.kind=6)(hp:p.size≤140737488355328)(ho:o.new.size≤140737488355328)(w:World)(hv:Vars w):
 Calls Tryz.prog 124 #[p,copV o] w fun e w'=>e= .returned (.tuple #[.string (madeO p o).1,.bool (madeO p o).2])∧Below w.heap.size w w':=by
 have HX:=Hq (heldC_new w o 40)
 have HV:=Hq hv
 have HG:=Hq (fun W=>get_any_rec p o.slot hp W)
 obtain⟨R,hR⟩:=ex (madeO p o)
 rw[← hR]
 have HR:=Hq (hR.trans (show madeO p o=linkedO p o by unfold madeO;rw[hk];rfl))
 have HC:=Hq (fun W hW=>linked_any p o hp ho W hW)
 generalize linkedO p o=x at HC HR
 obtain⟨qx,bx⟩:=x
 have HO:=Hq (show oldIs p o=(!decide ((Pg.slotAt (leafP p).recs o.slot).size=0)&&decide (o.old=Pg.slotAt (leafP p).recs o.slot))from rfl)
 generalize oldIs p o=oi at HO HR
 generalize (!decide ((Pg.slotAt (leafP p).recs o.slot).size=0))=th at HO HG
 generalize Pg.slotAt (leafP p).recs o.slot=r at HO HG
 obtain⟨kind,slot,old,new⟩:=o
 dsimp only[copV]at HX HG HO HR hk HC ⊢
 subst hk
 clear hR hv
 go_enter Tryz.func124,Tryz.ntmps124
 go_upto_region 2 with(go_at_call 172;refine(HG.out _).mono ?_;rintro e w1 ⟨rfl,hb1⟩)
 have H1:=Hq (HX.out.step hb1)
 clear HX hb1
 obtain⟨c0,c1,c2,c3,-⟩:=H1.out.v
 dsimp only at c0 c1 c2 c3
 go_cut [8] (fun s we=>s= .bool oi∧w1=we)
 case first=>
  cases th with
  |false=>
   have HO2:=Hq (HO.out.trans (Bool.false_and _))
   go_wp2_with fail
   go_meet
   case rel=>exact⟨by rw[HO2.out],rfl⟩
  |true=>
   by_cases he:old=r
   ·subst he
    have hq:(old.toList==old.toList)=true:=beq_self_eq_true _
    have HO2:=Hq (HO.out.trans (show _=true by simp))
    go_wp2_with fail
    go_meet
    case rel=>exact⟨by rw[HO2.out],rfl⟩
   ·have hq:=cstr_ne he
    have HO2:=Hq (HO.out.trans (show _=false by simp[he]))
    clear he
    go_wp2_with fail
    go_meet
    case rel=>exact⟨by rw[HO2.out],rfl⟩
 case rest=>
  obtain⟨rfl,rfl⟩:=hcut
  clear HO HG
  go_wp2_with ((go_at_call 178;refine(HC.out _ (HV.out.below H1.out.below)).mono ?_;rintro e w2 ⟨rfl,hb2⟩))
  go_ret2
  exact⟨by rw[HR.out];rfl,joinB H1.out.below hb2⟩
theorem made_7 (p:ByteArray)(o:Cop)(hk:o.kind=7)(hp:p.size≤140737488355328)(ho:o.new.size≤140737488355328)(w:World)(hv:Vars w):
 Calls Tryz.prog 124 #[p,copV o] w fun e w'=>e= .returned (.tuple #[.string (madeO p o).1,.bool (madeO p o).2])∧Below w.heap.size w w':=by
 have HX:=Hq (heldC_new w o 40)
 have HV:=Hq hv
 have HG:=Hq (fun W=>get_any_rec p o.slot hp W)
 obtain⟨R,hR⟩:=ex (madeO p o)
 rw[← hR]
 have HR:=Hq (hR.trans (show madeO p o=wholeO p o by unfold madeO;rw[hk];rfl))
 have HC:=Hq (fun W=>whole_any p o hp ho W)
 generalize wholeO p o=x at HC HR
 obtain⟨qx,bx⟩:=x
 have HO:=Hq (show oldIs p o=(!decide ((Pg.slotAt (leafP p).recs o.slot).size=0)&&decide (o.old=Pg.slotAt (leafP p).recs o.slot))from rfl)
 generalize oldIs p o=oi at HO HR
 generalize (!decide ((Pg.slotAt (leafP p).recs o.slot).size=0))=th at HO HG
 generalize Pg.slotAt (leafP p).recs o.slot=r at HO HG
 obtain⟨kind,slot,old,new⟩:=o
 dsimp only[copV]at HX HG HO HR hk HC ⊢
 subst hk
 clear hR hv
 go_enter Tryz.func124,Tryz.ntmps124
 go_upto_region 2 with(go_at_call 172;refine(HG.out _).mono ?_;rintro e w1 ⟨rfl,hb1⟩)
 have H1:=Hq (HX.out.step hb1)
 clear HX hb1
 obtain⟨c0,c1,c2,c3,-⟩:=H1.out.v
 dsimp only at c0 c1 c2 c3
 go_cut [8] (fun s we=>s= .bool oi∧w1=we)
 case first=>
  cases th with
  |false=>
   have HO2:=Hq (HO.out.trans (Bool.false_and _))
   go_wp2_with fail
   go_meet
   case rel=>exact⟨by rw[HO2.out],rfl⟩
  |true=>
   by_cases he:old=r
   ·subst he
    have hq:(old.toList==old.toList)=true:=beq_self_eq_true _
    have HO2:=Hq (HO.out.trans (show _=true by simp))
    go_wp2_with fail
    go_meet
    case rel=>exact⟨by rw[HO2.out],rfl⟩
   ·have hq:=cstr_ne he
    have HO2:=Hq (HO.out.trans (show _=false by simp[he]))
    clear he
    go_wp2_with fail
    go_meet
    case rel=>exact⟨by rw[HO2.out],rfl⟩
 case rest=>
  obtain⟨rfl,rfl⟩:=hcut
  clear HO HG
  go_wp2_with ((go_at_call 179;refine(HC.out _).mono ?_;rintro e w2 ⟨rfl,hb2⟩))
  go_ret2
  exact⟨by rw[HR.out];rfl,joinB H1.out.below hb2⟩
theorem made_none (p:ByteArray)(o:Cop)(hk:¬ (1≤o.kind∧o.kind≤7))(hp:p.size≤140737488355328)(ho:o.new.size≤140737488355328)(w:World)(hv:Vars w):
 Calls Tryz.prog 124 #[p,copV o] w fun e w'=>e= .returned (.tuple #[.string (madeO p o).1,.bool (madeO p o).2])∧Below w.heap.size w w':=by
 have HX:=Hq (heldC_new w o 40)
 have HV:=Hq hv
 have HG:=Hq (fun W=>get_any_rec p o.slot hp W)
 obtain⟨R,hR⟩:=ex (madeO p o)
 rw[← hR]
 have HR:=Hq (hR.trans (show madeO p o=noPage by unfold madeO;rw[if_neg (by omega),if_neg (by omega),if_neg (by omega),if_neg (by omega),if_neg (by omega),if_neg (by omega),if_neg (by omega)]))
 have HO:=Hq (show oldIs p o=(!decide ((Pg.slotAt (leafP p).recs o.slot).size=0)&&decide (o.old=Pg.slotAt (leafP p).recs o.slot))from rfl)
 generalize oldIs p o=oi at HO HR
 generalize (!decide ((Pg.slotAt (leafP p).recs o.slot).size=0))=th at HO HG
 generalize Pg.slotAt (leafP p).recs o.slot=r at HO HG
 obtain⟨kind,slot,old,new⟩:=o
 dsimp only[copV]at HX HG HO HR hk ⊢
 have k1:(kind==1)=false:=by simp;omega
 have k2:(kind==2)=false:=by simp;omega
 have k3:(kind==3)=false:=by simp;omega
 have k4:(kind==4)=false:=by simp;omega
 have k5:(kind==5)=false:=by simp;omega
 have k6:(kind==6)=false:=by simp;omega
 have k7:(kind==7)=false:=by simp;omega
 clear hR hv hk
 go_enter Tryz.func124,Tryz.ntmps124
 go_upto_region 2 with(go_at_call 172;refine(HG.out _).mono ?_;rintro e w1 ⟨rfl,hb1⟩)
 have H1:=Hq (HX.out.step hb1)
 clear HX hb1
 obtain⟨c0,c1,c2,c3,-⟩:=H1.out.v
 dsimp only at c0 c1 c2 c3
 go_cut [8] (fun s we=>s= .bool oi∧w1=we)
 case first=>
  cases th with
  |false=>
   have HO2:=Hq (HO.out.trans (Bool.false_and _))
   go_wp2_with fail
   go_meet
   case rel=>exact⟨by rw[HO2.out],rfl⟩
  |true=>
   by_cases he:old=r
   ·subst he
    have hq:(old.toList==old.toList)=true:=beq_self_eq_true _
    have HO2:=Hq (HO.out.trans (show _=true by simp))
    go_wp2_with fail
    go_meet
    case rel=>exact⟨by rw[HO2.out],rfl⟩
   ·have hq:=cstr_ne he
    have HO2:=Hq (HO.out.trans (show _=false by simp[he]))
    clear he
    go_wp2_with fail
    go_meet
    case rel=>exact⟨by rw[HO2.out],rfl⟩
 case rest=>
  obtain⟨rfl,rfl⟩:=hcut
  clear HO HG
  have HF:=Hq HR.out
  clear HR
  go_wp2_with fail
  go_ret2
  exact⟨by rw[HF.out];rfl,H1.out.below⟩
theorem made_cop (p:ByteArray)(o:Cop)(hp:p.size≤140737488355328)(ho:o.new.size≤140737488355328)(w:World)(hv:Vars w):
 Calls Tryz.prog 124 #[p,copV o] w fun e w'=>e= .returned (.tuple #[.string (madeO p o).1,.bool (madeO p o).2])∧Below w.heap.size w w':=by
 by_cases h:1≤o.kind∧o.kind≤7
 ·obtain h|h|h|h|h|h|h:o.kind=1∨o.kind=2∨o.kind=3∨o.kind=4∨o.kind=5∨o.kind=6∨o.kind=7:=by omega
  ·exact made_1 p o h hp ho w hv
  ·exact made_2 p o h hp ho w hv
  ·exact made_3 p o h hp ho w hv
  ·exact made_4 p o h hp ho w hv
  ·exact made_5 p o h hp ho w hv
  ·exact made_6 p o h hp ho w hv
  ·exact made_7 p o h hp ho w hv
 ·exact made_none p o h hp ho w hv
theorem cright_any (p:ByteArray)(o:Cop)(hp:p.size≤140737488355328)(ho:o.new.size≤140737488355328)(w:World)(hv:Vars w):
 Calls Tryz.prog 123 #[p,copV o] w fun e w'=>e= .returned (.bool (rightO p o))∧Below w.heap.size w w':=by
 have HM:=Hq (fun W hW=>made_cop p o hp ho W hW)
 have HR:=Hq (fun W=>right_any p hp W)
 have HV:=Hq (hv.below (allocB w (.cells #[o.kind,o.slot,o.old,o.new] 40)))
 unfold rightO
 generalize isPg p=b at HR ⊢
 generalize madeO p o=x at HM ⊢
 obtain⟨qx,bx⟩:=x
 obtain⟨kind,slot,old,new⟩:=o
 dsimp only[copV]at HM HV ⊢
 clear hv ho
 cases b with
 |true=>
  go_enter Tryz.func123,Tryz.ntmps123
  go_wp2_with (first|(go_at_call 124;refine(HM.out _ HV.out).mono ?_;rintro e w1 ⟨rfl,hb1⟩)|(go_at_call 118;refine(HR.out _).mono ?_;rintro e w2 ⟨rfl,hb2⟩))
  go_ret
  exact⟨by simp,joinB (joinB (allocB _ _) hb1) hb2⟩
 |false=>
  go_enter Tryz.func123,Tryz.ntmps123
  go_wp2_with (first|(go_at_call 124;refine(HM.out _ HV.out).mono ?_;rintro e w1 ⟨rfl,hb1⟩)|(go_at_call 118;refine(HR.out _).mono ?_;rintro e w2 ⟨rfl,hb2⟩))
  go_ret
  exact⟨by simp,joinB (joinB (allocB _ _) hb1) hb2⟩
theorem do_yes {p:ByteArray}{o:Cop}(h:rightO p o=true):doO p o=((madeO p o).1,0):=by unfold doO;rw[if_pos h]
theorem do_no {p:ByteArray}{o:Cop}(h:rightO p o=false):doO p o=(⟨#[]⟩,1):=by unfold doO;rw[if_neg (by rw[h];simp)]
theorem do_any (p:ByteArray)(o:Cop)(hp:p.size≤140737488355328)(ho:o.new.size≤140737488355328)(w:World)(hv:Vars w):
 Calls Tryz.prog 69 #[p,copV o] w fun e w'=>e= .returned (outV (doO p o))∧Below w.heap.size w w':=by
 have HM:=Hq (fun W hW=>made_cop p o hp ho W hW)
 have HR:=Hq (fun W hW=>cright_any p o hp ho W hW)
 have HX:=Hq (heldC_new w o 40)
 have HV:=Hq (hv.below (allocB w (.cells #[o.kind,o.slot,o.old,o.new] 40)))
 have HY:=Hq (fun h=>do_yes (p:=p) (o:=o) h)
 have HN:=Hq (fun h=>do_no (p:=p) (o:=o) h)
 generalize doO p o=R at HY HN ⊢
 generalize rightO p o=b at HR HY HN
 generalize madeO p o=x at HM HY
 obtain⟨qx,bx⟩:=x
 obtain⟨kind,slot,old,new⟩:=o
 dsimp only[copV]at HM HR HV HX ⊢
 clear hv ho
 cases b with
 |true=>
  have HF:=Hq (HY.out rfl)
  clear HY HN
  go_enter Tryz.func69,Tryz.ntmps69
  go_wp2_with (first|(go_at_call 123;refine(HR.out _ HV.out).mono ?_;rintro e w1 ⟨rfl,hb1⟩;obtain⟨c0,c1,c2,c3,-⟩:=(HX.out.step hb1).v;dsimp only at c0 c1 c2 c3)|(go_at_call 124;refine(HM.out _ (HV.out.below hb1)).mono ?_;rintro e w2 ⟨rfl,hb2⟩))
  go_ret2
  exact⟨by rw[HF.out];rfl,joinB (joinB (allocB _ _) hb1) hb2⟩
 |false=>
  have HF:=Hq (HN.out rfl)
  clear HY HN
  go_enter Tryz.func69,Tryz.ntmps69
  go_wp2_with ((go_at_call 123;refine(HR.out _ HV.out).mono ?_;rintro e w1 ⟨rfl,hb1⟩))
  go_ret2
  exact⟨by rw[HF.out];rfl,joinB (allocB _ _) hb1⟩
end Go.Proofs.YtdfkambdagoojaaGreatDoor
