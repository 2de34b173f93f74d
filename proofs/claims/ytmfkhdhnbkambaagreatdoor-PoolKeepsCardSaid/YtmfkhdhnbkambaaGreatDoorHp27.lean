import Derived.Test.YtmfkhdhnbkambaaGreatDoorHp00
import Derived.Test.YtmfkhdhnbkambaaGreatDoorHp26
set_option maxRecDepth 100000
set_option maxHeartbeats 16000000
set_option linter.unusedSimpArgs false
namespace Go.Proofs.YtmfkhdhnbkambaaGreatDoor
open Go.RowKit
theorem rtextB (n:Int)(h0: -9223372036854775808≤n)(h1:n≤9223372036854775807)(w:World):
 Calls Tryz.prog 97 #[n] w fun e w'=>e= .returned (.string (itoaB n))∧Below w.heap.size w w':=by
 refine(rtext_any n.natAbs n w (Nat.le_refl _) h0 h1).mono ?_
 rintro e w' ⟨rfl,m,rfl⟩
 exact⟨rfl,drewB _ _⟩
theorem rparseB (s:ByteArray)(hs:s.size≤140737488355328)(w:World):
 Calls Tryz.prog 95 #[s] w fun e w'=>e= .returned (.tuple #[.int .i64 (NumPlain.parseN s.data.toList).1,.bool (NumPlain.parseN s.data.toList).2])∧Below w.heap.size w w':=by
 refine(rparse_any s w (by omega)).mono ?_
 rintro e w' ⟨rfl,m,rfl⟩
 exact⟨rfl,drewB _ _⟩
theorem bare_any (p:ByteArray)(hm:p.size≤140737488355328)(w:World):
 Calls Tryz.prog 100 #[p] w fun e w'=>e= .returned (.string (lsnB p 0))∧Below w.heap.size w w':=by
 have HS:=Hq (fun W=>rsetlsn_any p 0 hm W)
 go_enter Tryz.func100,Tryz.ntmps100
 go_wp2_with ((go_at_call 12;refine(HS.out _).mono ?_;rintro e w1 ⟨rfl,hb1⟩))
 go_ret
 exact⟨rfl,hb1⟩
theorem rdone_1 (p:ByteArray)(o:Cop)(hk:o.kind=1)(hp:p.size≤140737488355328)(ho:o.new.size≤140737488355328)(w:World):
 Calls Tryz.prog 42 #[p,copV o] w fun e w'=>e= .returned (.tuple #[.string (doneO p o).1,.bool (doneO p o).2])∧Below w.heap.size w w':=by
 have HX:=Hq (heldC_new w o 42)
 have HG:=Hq (fun W=>rget_any_rec p o.slot hp W)
 obtain⟨R,hR⟩:=ex (doneO p o)
 rw[← hR]
 have HR:=Hq (hR.trans (show doneO p o=((putO p o.slot o.new).1,decide ((putO p o.slot o.new).2=0)&&decide (o.old.size=0)) by unfold doneO;rw[hk];rfl))
 have HC:=Hq (fun W=>rpput_any p o.slot o.new hp W)
 generalize putO p o.slot o.new=x at HC HR
 obtain⟨qx,ex⟩:=x
 unfold outV at HC
 dsimp only at HC HR
 generalize (!decide ((Pg.slotAt (leafP p).recs o.slot).size=0))=th at HG HR
 generalize Pg.slotAt (leafP p).recs o.slot=r at HG HR
 obtain⟨kind,slot,old,new⟩:=o
 dsimp only[copV]at HX HG HR hk HC ⊢
 subst hk
 clear hR
 go_enter Tryz.func42,Tryz.ntmps42
 go_upto_region 7 with(first|(go_at_call 89;refine(HG.out _).mono ?_;rintro e w1 ⟨rfl,hb1⟩;obtain⟨a0,a1,a2,a3,-⟩:=(HX.out.step hb1).v;dsimp only at a0 a1 a2 a3)|(go_at_call 90;refine(HC.out _).mono ?_;rintro e w2 ⟨rfl,hb2⟩))
 have H2:=Hq ((HX.out.step hb1).step hb2)
 clear HX hb1 hb2 a0 a1 a2 a3 HC HG
 obtain⟨c0,c1,c2,c3,-⟩:=H2.out.v
 dsimp only at c0 c1 c2 c3
 by_cases he:ex=0
 ·subst he
  by_cases hold:old.size=0
  ·obtain⟨old1,old2,old3⟩:=cstr_nil hold
   have HF:=Hq (HR.out.trans (show _=(qx,true) by simp[hold]))
   clear HR hold
   go_quiet (fail)
   go_wp2_with fail
   go_ret2
   exact⟨by rw[HF.out];rfl,joinB H2.out.below (drewB _ _)⟩
  ·obtain⟨old1,old2,old3⟩:=cstr_some hold
   have HF:=Hq (HR.out.trans (show _=(qx,false) by simp[hold]))
   clear HR hold
   go_quiet (fail)
   go_wp2_with fail
   go_ret2
   exact⟨by rw[HF.out];rfl,joinB H2.out.below (drewB _ _)⟩
 ·have he2:(ex==0)=false:=by simpa using he
  have HF:=Hq (HR.out.trans (show _=(qx,false) by simp[he]))
  clear HR he
  go_quiet (fail)
  go_wp2_with fail
  go_ret2
  exact⟨by rw[HF.out];rfl,joinB H2.out.below (drewB _ _)⟩
theorem rdone_2 (p:ByteArray)(o:Cop)(hk:o.kind=2)(hp:p.size≤140737488355328)(ho:o.new.size≤140737488355328)(w:World):
 Calls Tryz.prog 42 #[p,copV o] w fun e w'=>e= .returned (.tuple #[.string (doneO p o).1,.bool (doneO p o).2])∧Below w.heap.size w w':=by
 have HX:=Hq (heldC_new w o 42)
 have HG:=Hq (fun W=>rget_any_rec p o.slot hp W)
 obtain⟨R,hR⟩:=ex (doneO p o)
 rw[← hR]
 have HR:=Hq (hR.trans (show doneO p o=((cutO p o.slot).1,((decide ((cutO p o.slot).2=0)&&decide (o.new.size=0))&& !decide ((wasO p o).size=0))&&decide (wasO p o=o.old)) by unfold doneO;rw[hk];rfl))
 have HC:=Hq (fun W=>rpcut_any p o.slot hp W)
 generalize cutO p o.slot=x at HC HR
 obtain⟨qx,ex⟩:=x
 unfold outV at HC
 dsimp only at HC HR
 unfold wasO at HR
 generalize (!decide ((Pg.slotAt (leafP p).recs o.slot).size=0))=th at HG HR
 generalize Pg.slotAt (leafP p).recs o.slot=r at HG HR
 obtain⟨kind,slot,old,new⟩:=o
 dsimp only[copV]at HX HG HR hk HC ⊢
 subst hk
 clear hR
 go_enter Tryz.func42,Tryz.ntmps42
 go_upto_region 10 with(first|(go_at_call 89;refine(HG.out _).mono ?_;rintro e w1 ⟨rfl,hb1⟩;obtain⟨a0,a1,a2,a3,-⟩:=(HX.out.step hb1).v;dsimp only at a0 a1 a2 a3)|(go_at_call 91;refine(HC.out _).mono ?_;rintro e w2 ⟨rfl,hb2⟩))
 have H2:=Hq ((HX.out.step hb1).step hb2)
 clear HX hb1 hb2 a0 a1 a2 a3 HC HG
 obtain⟨c0,c1,c2,c3,-⟩:=H2.out.v
 dsimp only at c0 c1 c2 c3
 by_cases he:ex=0
 ·subst he
  by_cases hnew:new.size=0
  ·obtain⟨new1,new2,new3⟩:=cstr_nil hnew
   cases th with
   |true=>
    by_cases hw:r=old
    ·subst hw
     have hq:(r.toList==r.toList)=true:=beq_self_eq_true _
     have HF:=Hq (HR.out.trans (show _=(qx,true) by simp[hnew]))
     clear HR hnew
     go_quiet (fail)
     go_wp2_with fail
     go_ret2
     exact⟨by rw[HF.out];rfl,joinB H2.out.below (drewB _ _)⟩
    ·have hq:=cstr_ne hw
     have HF:=Hq (HR.out.trans (show _=(qx,false) by simp[hnew,hw]))
     clear HR hnew hw
     go_quiet (fail)
     go_wp2_with fail
     go_ret2
     exact⟨by rw[HF.out];rfl,joinB H2.out.below (drewB _ _)⟩
   |false=>
    have HF:=Hq (HR.out.trans (show _=(qx,false) by simp[hnew]))
    clear HR hnew
    go_quiet (fail)
    go_wp2_with fail
    go_ret2
    exact⟨by rw[HF.out];rfl,joinB H2.out.below (drewB _ _)⟩
  ·obtain⟨new1,new2,new3⟩:=cstr_some hnew
   have HF:=Hq (HR.out.trans (show _=(qx,false) by simp[hnew]))
   clear HR hnew
   go_quiet (fail)
   go_wp2_with fail
   go_ret2
   exact⟨by rw[HF.out];rfl,joinB H2.out.below (drewB _ _)⟩
 ·have he2:(ex==0)=false:=by simpa using he
  have HF:=Hq (HR.out.trans (show _=(qx,false) by simp[he]))
  clear HR he
  go_quiet (fail)
  go_wp2_with fail
  go_ret2
  exact⟨by rw[HF.out];rfl,joinB H2.out.below (drewB _ _)⟩
theorem rdone_3 (p:ByteArray)(o:Cop)(hk:o.kind=3)(hp:p.size≤140737488355328)(ho:o.new.size≤140737488355328)(w:World):
 Calls Tryz.prog 42 #[p,copV o] w fun e w'=>e= .returned (.tuple #[.string (doneO p o).1,.bool (doneO p o).2])∧Below w.heap.size w w':=by
 have HX:=Hq (heldC_new w o 42)
 have HG:=Hq (fun W=>rget_any_rec p o.slot hp W)
 obtain⟨R,hR⟩:=ex (doneO p o)
 rw[← hR]
 have HR:=Hq (hR.trans (show doneO p o=((setO p o.slot o.new).1,(decide ((setO p o.slot o.new).2=0)&& !decide ((wasO p o).size=0))&&decide (wasO p o=o.old)) by unfold doneO;rw[hk];rfl))
 have HC:=Hq (fun W=>rpset_any p o.slot o.new hp W)
 generalize setO p o.slot o.new=x at HC HR
 obtain⟨qx,ex⟩:=x
 unfold outV at HC
 dsimp only at HC HR
 unfold wasO at HR
 generalize (!decide ((Pg.slotAt (leafP p).recs o.slot).size=0))=th at HG HR
 generalize Pg.slotAt (leafP p).recs o.slot=r at HG HR
 obtain⟨kind,slot,old,new⟩:=o
 dsimp only[copV]at HX HG HR hk HC ⊢
 subst hk
 clear hR
 go_enter Tryz.func42,Tryz.ntmps42
 go_upto_region 13 with(first|(go_at_call 89;refine(HG.out _).mono ?_;rintro e w1 ⟨rfl,hb1⟩;obtain⟨a0,a1,a2,a3,-⟩:=(HX.out.step hb1).v;dsimp only at a0 a1 a2 a3)|(go_at_call 92;refine(HC.out _).mono ?_;rintro e w2 ⟨rfl,hb2⟩))
 have H2:=Hq ((HX.out.step hb1).step hb2)
 clear HX hb1 hb2 a0 a1 a2 a3 HC HG
 obtain⟨c0,c1,c2,c3,-⟩:=H2.out.v
 dsimp only at c0 c1 c2 c3
 by_cases he:ex=0
 ·subst he
  cases th with
  |true=>
   by_cases hw:r=old
   ·subst hw
    have hq:(r.toList==r.toList)=true:=beq_self_eq_true _
    have HF:=Hq (HR.out.trans (show _=(qx,true) by simp[]))
    clear HR
    go_quiet (fail)
    go_wp2_with fail
    go_ret2
    exact⟨by rw[HF.out];rfl,joinB H2.out.below (drewB _ _)⟩
   ·have hq:=cstr_ne hw
    have HF:=Hq (HR.out.trans (show _=(qx,false) by simp[hw]))
    clear HR hw
    go_quiet (fail)
    go_wp2_with fail
    go_ret2
    exact⟨by rw[HF.out];rfl,joinB H2.out.below (drewB _ _)⟩
  |false=>
   have HF:=Hq (HR.out.trans (show _=(qx,false) by simp[]))
   clear HR
   go_quiet (fail)
   go_wp2_with fail
   go_ret2
   exact⟨by rw[HF.out];rfl,joinB H2.out.below (drewB _ _)⟩
 ·have he2:(ex==0)=false:=by simpa using he
  have HF:=Hq (HR.out.trans (show _=(qx,false) by simp[he]))
  clear HR he
  go_quiet (fail)
  go_wp2_with fail
  go_ret2
  exact⟨by rw[HF.out];rfl,joinB H2.out.below (drewB _ _)⟩
theorem rdone_4 (p:ByteArray)(o:Cop)(hk:o.kind=4)(hp:p.size≤140737488355328)(ho:o.new.size≤140737488355328)(w:World):
 Calls Tryz.prog 42 #[p,copV o] w fun e w'=>e= .returned (.tuple #[.string (doneO p o).1,.bool (doneO p o).2])∧Below w.heap.size w w':=by
 have HX:=Hq (heldC_new w o 42)
 have HG:=Hq (fun W=>rget_any_rec p o.slot hp W)
 obtain⟨R,hR⟩:=ex (doneO p o)
 rw[← hR]
 have HR:=Hq (hR.trans (show doneO p o=((addO p o.slot o.new).1,decide ((addO p o.slot o.new).2=0)&&decide (o.old.size=0)) by unfold doneO;rw[hk];rfl))
 have HC:=Hq (fun W=>rpadd_any p o.slot o.new hp W)
 generalize addO p o.slot o.new=x at HC HR
 obtain⟨qx,ex⟩:=x
 unfold outV at HC
 dsimp only at HC HR
 generalize (!decide ((Pg.slotAt (leafP p).recs o.slot).size=0))=th at HG HR
 generalize Pg.slotAt (leafP p).recs o.slot=r at HG HR
 obtain⟨kind,slot,old,new⟩:=o
 dsimp only[copV]at HX HG HR hk HC ⊢
 subst hk
 clear hR
 go_enter Tryz.func42,Tryz.ntmps42
 go_upto_region 16 with(first|(go_at_call 89;refine(HG.out _).mono ?_;rintro e w1 ⟨rfl,hb1⟩;obtain⟨a0,a1,a2,a3,-⟩:=(HX.out.step hb1).v;dsimp only at a0 a1 a2 a3)|(go_at_call 93;refine(HC.out _).mono ?_;rintro e w2 ⟨rfl,hb2⟩))
 have H2:=Hq ((HX.out.step hb1).step hb2)
 clear HX hb1 hb2 a0 a1 a2 a3 HC HG
 obtain⟨c0,c1,c2,c3,-⟩:=H2.out.v
 dsimp only at c0 c1 c2 c3
 by_cases he:ex=0
 ·subst he
  by_cases hold:old.size=0
  ·obtain⟨old1,old2,old3⟩:=cstr_nil hold
   have HF:=Hq (HR.out.trans (show _=(qx,true) by simp[hold]))
   clear HR hold
   go_quiet (fail)
   go_wp2_with fail
   go_ret2
   exact⟨by rw[HF.out];rfl,joinB H2.out.below (drewB _ _)⟩
  ·obtain⟨old1,old2,old3⟩:=cstr_some hold
   have HF:=Hq (HR.out.trans (show _=(qx,false) by simp[hold]))
   clear HR hold
   go_quiet (fail)
   go_wp2_with fail
   go_ret2
   exact⟨by rw[HF.out];rfl,joinB H2.out.below (drewB _ _)⟩
 ·have he2:(ex==0)=false:=by simpa using he
  have HF:=Hq (HR.out.trans (show _=(qx,false) by simp[he]))
  clear HR he
  go_quiet (fail)
  go_wp2_with fail
  go_ret2
  exact⟨by rw[HF.out];rfl,joinB H2.out.below (drewB _ _)⟩
theorem rdone_5 (p:ByteArray)(o:Cop)(hk:o.kind=5)(hp:p.size≤140737488355328)(ho:o.new.size≤140737488355328)(w:World):
 Calls Tryz.prog 42 #[p,copV o] w fun e w'=>e= .returned (.tuple #[.string (doneO p o).1,.bool (doneO p o).2])∧Below w.heap.size w w':=by
 have HX:=Hq (heldC_new w o 42)
 have HG:=Hq (fun W=>rget_any_rec p o.slot hp W)
 obtain⟨R,hR⟩:=ex (doneO p o)
 rw[← hR]
 have HR:=Hq (hR.trans (show doneO p o=((delO p o.slot).1,((decide ((delO p o.slot).2=0)&&decide (o.new.size=0))&& !decide ((wasO p o).size=0))&&decide (wasO p o=o.old)) by unfold doneO;rw[hk];rfl))
 have HC:=Hq (fun W=>rpdel_any p o.slot hp W)
 generalize delO p o.slot=x at HC HR
 obtain⟨qx,ex⟩:=x
 unfold outV at HC
 dsimp only at HC HR
 unfold wasO at HR
 generalize (!decide ((Pg.slotAt (leafP p).recs o.slot).size=0))=th at HG HR
 generalize Pg.slotAt (leafP p).recs o.slot=r at HG HR
 obtain⟨kind,slot,old,new⟩:=o
 dsimp only[copV]at HX HG HR hk HC ⊢
 subst hk
 clear hR
 go_enter Tryz.func42,Tryz.ntmps42
 go_upto_region 19 with(first|(go_at_call 89;refine(HG.out _).mono ?_;rintro e w1 ⟨rfl,hb1⟩;obtain⟨a0,a1,a2,a3,-⟩:=(HX.out.step hb1).v;dsimp only at a0 a1 a2 a3)|(go_at_call 94;refine(HC.out _).mono ?_;rintro e w2 ⟨rfl,hb2⟩))
 have H2:=Hq ((HX.out.step hb1).step hb2)
 clear HX hb1 hb2 a0 a1 a2 a3 HC HG
 obtain⟨c0,c1,c2,c3,-⟩:=H2.out.v
 dsimp only at c0 c1 c2 c3
 by_cases he:ex=0
 ·subst he
  by_cases hnew:new.size=0
  ·obtain⟨new1,new2,new3⟩:=cstr_nil hnew
   cases th with
   |true=>
    by_cases hw:r=old
    ·subst hw
     have hq:(r.toList==r.toList)=true:=beq_self_eq_true _
     have HF:=Hq (HR.out.trans (show _=(qx,true) by simp[hnew]))
     clear HR hnew
     go_quiet (fail)
     go_wp2_with fail
     go_ret2
     exact⟨by rw[HF.out];rfl,joinB H2.out.below (drewB _ _)⟩
    ·have hq:=cstr_ne hw
     have HF:=Hq (HR.out.trans (show _=(qx,false) by simp[hnew,hw]))
     clear HR hnew hw
     go_quiet (fail)
     go_wp2_with fail
     go_ret2
     exact⟨by rw[HF.out];rfl,joinB H2.out.below (drewB _ _)⟩
   |false=>
    have HF:=Hq (HR.out.trans (show _=(qx,false) by simp[hnew]))
    clear HR hnew
    go_quiet (fail)
    go_wp2_with fail
    go_ret2
    exact⟨by rw[HF.out];rfl,joinB H2.out.below (drewB _ _)⟩
  ·obtain⟨new1,new2,new3⟩:=cstr_some hnew
   have HF:=Hq (HR.out.trans (show _=(qx,false) by simp[hnew]))
   clear HR hnew
   go_quiet (fail)
   go_wp2_with fail
   go_ret2
   exact⟨by rw[HF.out];rfl,joinB H2.out.below (drewB _ _)⟩
 ·have he2:(ex==0)=false:=by simpa using he
  have HF:=Hq (HR.out.trans (show _=(qx,false) by simp[he]))
  clear HR he
  go_quiet (fail)
  go_wp2_with fail
  go_ret2
  exact⟨by rw[HF.out];rfl,joinB H2.out.below (drewB _ _)⟩
theorem rdone_none (p:ByteArray)(o:Cop)(hk:¬ (1≤o.kind∧o.kind≤7))(hp:p.size≤140737488355328)(ho:o.new.size≤140737488355328)(w:World):
 Calls Tryz.prog 42 #[p,copV o] w fun e w'=>e= .returned (.tuple #[.string (doneO p o).1,.bool (doneO p o).2])∧Below w.heap.size w w':=by
 have HX:=Hq (heldC_new w o 42)
 have HG:=Hq (fun W=>rget_any_rec p o.slot hp W)
 obtain⟨R,hR⟩:=ex (doneO p o)
 rw[← hR]
 have HR:=Hq (hR.trans (show doneO p o=noPage by unfold doneO;rw[if_neg (by omega),if_neg (by omega),if_neg (by omega),if_neg (by omega),if_neg (by omega),if_neg (by omega),if_neg (by omega)]))
 obtain⟨kind,slot,old,new⟩:=o
 dsimp only[copV]at HX HG HR hk ⊢
 have k1:(kind==1)=false:=by simp;omega
 have k2:(kind==2)=false:=by simp;omega
 have k3:(kind==3)=false:=by simp;omega
 have k4:(kind==4)=false:=by simp;omega
 have k5:(kind==5)=false:=by simp;omega
 have k6:(kind==6)=false:=by simp;omega
 have k7:(kind==7)=false:=by simp;omega
 clear hR hk
 go_enter Tryz.func42,Tryz.ntmps42
 go_wp2_with ((go_at_call 89;refine(HG.out _).mono ?_;rintro e w1 ⟨rfl,hb1⟩;obtain⟨a0,a1,a2,a3,-⟩:=(HX.out.step hb1).v;dsimp only at a0 a1 a2 a3))
 go_ret2
 exact⟨by rw[HR.out];rfl,(HX.out.step hb1).below⟩
theorem rdone_6 (p:ByteArray)(o:Cop)(hk:o.kind=6)(hp:p.size≤140737488355328)(ho:o.new.size≤140737488355328)(w:World):
 Calls Tryz.prog 42 #[p,copV o] w fun e w'=>e= .returned (.tuple #[.string (doneO p o).1,.bool (doneO p o).2])∧Below w.heap.size w w':=by
 have HX:=Hq (heldC_new w o 42)
 have HG:=Hq (fun W=>rget_any_rec p o.slot hp W)
 obtain⟨R,hR⟩:=ex (doneO p o)
 rw[← hR]
 have HR:=Hq (hR.trans (show doneO p o=(linkB p (NumPlain.parseN o.new.data.toList).1,(((NumPlain.parseN o.new.data.toList).2&& !decide ((linkB p (NumPlain.parseN o.new.data.toList).1).size=0))&&decide (o.slot=0))&&decide (o.old=itoaB ((leafP p).link:Nat))) by unfold doneO;rw[hk];rfl))
 have HP:=Hq (fun W=>rparseB o.new ho W)
 generalize NumPlain.parseN o.new.data.toList=y at HP HR
 obtain⟨n,ok⟩:=y
 have HS:=Hq (fun W=>rsetlink_any p n hp W)
 have HL:=Hq (fun W=>rlink_any p hp W)
 have HT:=Hq (fun W=>rtextB ((leafP p).link:Nat) (by omega) (by have:=link_small p;omega) W)
 dsimp only at HP HR
 generalize linkB p n=q at HS HR
 generalize itoaB ((leafP p).link:Nat)=lt at HT HR
 generalize ((leafP p).link:Nat)=lk at HT HL
 obtain⟨kind,slot,old,new⟩:=o
 dsimp only[copV]at HX HG HR hk HP ⊢
 subst hk
 clear hR
 go_enter Tryz.func42,Tryz.ntmps42
 go_upto_region 23 with(first|(go_at_call 89;refine(HG.out _).mono ?_;rintro e w1 ⟨rfl,hb1⟩;obtain⟨a0,a1,a2,a3,-⟩:=(HX.out.step hb1).v;dsimp only at a0 a1 a2 a3)|(go_at_call 95;refine(HP.out _).mono ?_;rintro e w2 ⟨rfl,hb2⟩)|(go_at_call 96;refine(HS.out _).mono ?_;rintro e w3 ⟨rfl,hb3⟩))
 have H2:=Hq (((HX.out.step hb1).step hb2).step hb3)
 clear HX hb1 hb2 hb3 a0 a1 a2 a3 HP HS HG
 cases ok with
 |false=>
  have HF:=Hq (HR.out.trans (show _=(q,false) by simp[]))
  clear HR
  refine rgH (S:=(fun u=>HeldCV w.heap.size ⟨6,slot,old,new⟩ w u)) (fun hHeld=>?_) (by first|exact hSn|exact H2.out.v|exact(H2.out.step (Below.refl _ _).drew).v)
  refine tkP 0 ?_ (hy:=by intro w hSw;(try dsimp only at hSw);go_simp;(try with_reducible rfl))
  refine tkP 1 ?_ (hy:=by intro w hSw;(try dsimp only at hSw);go_simp;(try with_reducible rfl))
  refine tkP 2 ?_ (hy:=by intro w hSw;(try dsimp only at hSw);go_simp;(try with_reducible rfl))
  refine tkO 3 (some 148) rfl ?_
  try simp only[Act.put,pS]
  refine tkO 4 (some 149) rfl ?_
  try simp only[Act.put,pS]
  refine tkP 5 ?_ (hy:=by intro w hSw;(try dsimp only at hSw);go_simp;(try with_reducible rfl))
  refine tkP 6 ?_ (hy:=by intro w hSw;(try dsimp only at hSw);go_simp;(try with_reducible rfl))
  refine tkO 7 (some 152) rfl ?_
  try simp only[Act.put,pS]
  refine tkO 8 (some 153) rfl ?_
  try simp only[Act.put,pS]
  refine tkO 9 (some 154) rfl ?_
  try simp only[Act.put,pS]
  refine tkP 10 ?_ (hy:=by intro w hSw;(try dsimp only at hSw);go_simp;(try with_reducible rfl))
  refine tkP 11 ?_ (hy:=by intro w hSw;(try dsimp only at hSw);go_simp;(try with_reducible rfl))
  refine tkO 12 (some 157) rfl ?_
  try simp only[Act.put,pS]
  refine tkO 13 (some 158) rfl ?_
  try simp only[Act.put,pS]
  refine tkO 14 (some 159) rfl ?_
  try simp only[Act.put,pS]
  refine tkO 15 (some 160) rfl ?_
  try simp only[Act.put,pS]
  refine tkO 16 (some 161) rfl ?_
  try simp only[Act.put,pS]
  refine tkO 17 (some 162) rfl ?_
  try simp only[Act.put,pS]
  refine tkP 18 ?_ (hy:=by intro w hSw;(try dsimp only at hSw);go_simp;(try with_reducible rfl))
  refine tkP 19 ?_ (hy:=by intro w hSw;(try dsimp only at hSw);go_simp;(try with_reducible rfl))
  refine tkP 20 ?_ (hy:=by intro w hSw;(try dsimp only at hSw);go_simp;(try with_reducible rfl))
  refine wpAnyH_done Kr ?_ _
  go_wp2_with fail
  go_ret2
  exact⟨by rw[HF.out];rfl,hHeld.2.2.2.2.below⟩
 |true=>
  by_cases hq:q.size=0
  ·obtain⟨q1,q2,q3⟩:=cstr_nil hq
   have HF:=Hq (HR.out.trans (show _=(q,false) by simp[hq]))
   clear HR hq
   refine rgH (S:=(fun u=>HeldCV w.heap.size ⟨6,slot,old,new⟩ w u)) (fun hHeld=>?_) (by first|exact hSn|exact H2.out.v|exact(H2.out.step (Below.refl _ _).drew).v)
   refine tkP 0 ?_ (hy:=by intro w hSw;(try dsimp only at hSw);go_simp;(try with_reducible rfl))
   refine tkP 1 ?_ (hy:=by intro w hSw;(try dsimp only at hSw);go_simp;(try with_reducible rfl))
   refine tkP 2 ?_ (hy:=by intro w hSw;(try dsimp only at hSw);go_simp;(try with_reducible rfl))
   refine tkP 3 ?_ (hy:=by intro w hSw;(try dsimp only at hSw);go_simp;(try with_reducible rfl))
   refine tkP 4 ?_ (hy:=by intro w hSw;(try dsimp only at hSw);go_simp;(try with_reducible rfl))
   refine tkP 5 ?_ (hy:=by intro w hSw;(try dsimp only at hSw);go_simp;(try with_reducible rfl))
   refine tkP 6 ?_ (hy:=by intro w hSw;(try dsimp only at hSw);go_simp;(try with_reducible rfl))
   refine tkO 7 (some 152) rfl ?_
   try simp only[Act.put,pS]
   refine tkO 8 (some 153) rfl ?_
   try simp only[Act.put,pS]
   refine tkO 9 (some 154) rfl ?_
   try simp only[Act.put,pS]
   refine tkP 10 ?_ (hy:=by intro w hSw;(try dsimp only at hSw);go_simp;(try with_reducible rfl))
   refine tkP 11 ?_ (hy:=by intro w hSw;(try dsimp only at hSw);go_simp;(try with_reducible rfl))
   refine tkO 12 (some 157) rfl ?_
   try simp only[Act.put,pS]
   refine tkO 13 (some 158) rfl ?_
   try simp only[Act.put,pS]
   refine tkO 14 (some 159) rfl ?_
   try simp only[Act.put,pS]
   refine tkO 15 (some 160) rfl ?_
   try simp only[Act.put,pS]
   refine tkO 16 (some 161) rfl ?_
   try simp only[Act.put,pS]
   refine tkO 17 (some 162) rfl ?_
   try simp only[Act.put,pS]
   refine tkP 18 ?_ (hy:=by intro w hSw;(try dsimp only at hSw);go_simp;(try with_reducible rfl))
   refine tkP 19 ?_ (hy:=by intro w hSw;(try dsimp only at hSw);go_simp;(try with_reducible rfl))
   refine tkP 20 ?_ (hy:=by intro w hSw;(try dsimp only at hSw);go_simp;(try with_reducible rfl))
   refine wpAnyH_done Kr ?_ _
   go_wp2_with fail
   go_ret2
   exact⟨by rw[HF.out];rfl,hHeld.2.2.2.2.below⟩
  ·obtain⟨q1,q2,q3⟩:=cstr_some hq
   by_cases hs:slot=0
   ·have hs2:(slot==0)=true:=by simp[hs]
    by_cases ht:old=lt
    ·subst ht
     have he:(old.toList==old.toList)=true:=beq_self_eq_true _
     have HF:=Hq (HR.out.trans (show _=(q,true) by simp[hq,hs]))
     clear HR hq hs
     refine rgH (S:=(fun u=>HeldCV w.heap.size ⟨6,slot,old,new⟩ w u)) (fun hHeld=>?_) (by first|exact hSn|exact H2.out.v|exact(H2.out.step (Below.refl _ _).drew).v)
     refine tkP 0 ?_ (hy:=by intro w hSw;(try dsimp only at hSw);go_simp;(try with_reducible rfl))
     refine tkP 1 ?_ (hy:=by intro w hSw;(try dsimp only at hSw);go_simp;(try with_reducible rfl))
     refine tkP 2 ?_ (hy:=by intro w hSw;(try dsimp only at hSw);go_simp;(try with_reducible rfl))
     refine tkP 3 ?_ (hy:=by intro w hSw;(try dsimp only at hSw);go_simp;(try with_reducible rfl))
     refine tkP 4 ?_ (hy:=by intro w hSw;(try dsimp only at hSw);go_simp;(try with_reducible rfl))
     refine tkP 5 ?_ (hy:=by intro w hSw;(try dsimp only at hSw);go_simp;(try with_reducible rfl))
     refine tkP 6 ?_ (hy:=by intro w hSw;(try dsimp only at hSw);go_simp;(try with_reducible rfl))
     refine tkP 7 ?_ (hy:=by intro w hSw;(try dsimp only at hSw);go_simp;(try with_reducible rfl))
     refine tkP 8 ?_ (hy:=by intro w hSw;(try dsimp only at hSw);go_simp;(try with_reducible rfl))
     refine tkP 9 ?_ (hy:=by intro w hSw;(try dsimp only at hSw);go_simp;(try with_reducible rfl))
     refine tkP 10 ?_ (hy:=by intro w hSw;(try dsimp only at hSw);go_simp;(try with_reducible rfl))
     refine tkP 11 ?_ (hy:=by intro w hSw;(try dsimp only at hSw);go_simp;(try with_reducible rfl))
     refine tkP 12 ?_ (hy:=by intro w hSw;(try dsimp only at hSw);go_simp;(try with_reducible rfl))
     refine tkP 13 ?_ (hy:=by intro w hSw;(try dsimp only at hSw);go_simp;(try with_reducible rfl))
     refine tkP 14 ?_ (hy:=by intro w hSw;(try dsimp only at hSw);go_simp;(try with_reducible rfl))
     refine rdP 15 fun K hK=>?_
     go_simp
     refine(HL.out _).mono ?_;rintro e w2 ⟨rfl,hb2⟩;have hSn:=(hHeld.2.2.2.2.step hb2).v;clear hHeld hb2;try go_simp
     refine hKo hK (fun hHeld=>?_) (by first|exact hSn|exact H2.out.v|exact(H2.out.step (Below.refl _ _).drew).v)
     clear hK K
     refine rdP 16 fun K hK=>?_
     go_simp
     refine(HT.out _).mono ?_;rintro e w2 ⟨rfl,hb2⟩;have hSn:=(hHeld.2.2.2.2.step hb2).v;clear hHeld hb2;try go_simp
     refine hKo hK (fun hHeld=>?_) (by first|exact hSn|exact H2.out.v|exact(H2.out.step (Below.refl _ _).drew).v)
     clear hK K
     refine tkP 17 ?_ (hy:=by intro w hSw;(try dsimp only at hSw);go_simp;(try with_reducible rfl))
     refine tkP 18 ?_ (hy:=by intro w hSw;(try dsimp only at hSw);go_simp;(try with_reducible rfl))
     refine tkP 19 ?_ (hy:=by intro w hSw;(try dsimp only at hSw);go_simp;(try with_reducible rfl))
     refine tkP 20 ?_ (hy:=by intro w hSw;(try dsimp only at hSw);go_simp;(try with_reducible rfl))
     refine wpAnyH_done Kr ?_ _
     go_wp2_with fail
     go_ret2
     exact⟨by rw[HF.out];rfl,hHeld.2.2.2.2.below⟩
    ·have he:=cstr_ne ht
     have HF:=Hq (HR.out.trans (show _=(q,false) by simp[hq,hs,ht]))
     clear HR hq hs ht
     refine rgH (S:=(fun u=>HeldCV w.heap.size ⟨6,slot,old,new⟩ w u)) (fun hHeld=>?_) (by first|exact hSn|exact H2.out.v|exact(H2.out.step (Below.refl _ _).drew).v)
     refine tkP 0 ?_ (hy:=by intro w hSw;(try dsimp only at hSw);go_simp;(try with_reducible rfl))
     refine tkP 1 ?_ (hy:=by intro w hSw;(try dsimp only at hSw);go_simp;(try with_reducible rfl))
     refine tkP 2 ?_ (hy:=by intro w hSw;(try dsimp only at hSw);go_simp;(try with_reducible rfl))
     refine tkP 3 ?_ (hy:=by intro w hSw;(try dsimp only at hSw);go_simp;(try with_reducible rfl))
     refine tkP 4 ?_ (hy:=by intro w hSw;(try dsimp only at hSw);go_simp;(try with_reducible rfl))
     refine tkP 5 ?_ (hy:=by intro w hSw;(try dsimp only at hSw);go_simp;(try with_reducible rfl))
     refine tkP 6 ?_ (hy:=by intro w hSw;(try dsimp only at hSw);go_simp;(try with_reducible rfl))
     refine tkP 7 ?_ (hy:=by intro w hSw;(try dsimp only at hSw);go_simp;(try with_reducible rfl))
     refine tkP 8 ?_ (hy:=by intro w hSw;(try dsimp only at hSw);go_simp;(try with_reducible rfl))
     refine tkP 9 ?_ (hy:=by intro w hSw;(try dsimp only at hSw);go_simp;(try with_reducible rfl))
     refine tkP 10 ?_ (hy:=by intro w hSw;(try dsimp only at hSw);go_simp;(try with_reducible rfl))
     refine tkP 11 ?_ (hy:=by intro w hSw;(try dsimp only at hSw);go_simp;(try with_reducible rfl))
     refine tkP 12 ?_ (hy:=by intro w hSw;(try dsimp only at hSw);go_simp;(try with_reducible rfl))
     refine tkP 13 ?_ (hy:=by intro w hSw;(try dsimp only at hSw);go_simp;(try with_reducible rfl))
     refine tkP 14 ?_ (hy:=by intro w hSw;(try dsimp only at hSw);go_simp;(try with_reducible rfl))
     refine rdP 15 fun K hK=>?_
     go_simp
     refine(HL.out _).mono ?_;rintro e w2 ⟨rfl,hb2⟩;have hSn:=(hHeld.2.2.2.2.step hb2).v;clear hHeld hb2;try go_simp
     refine hKo hK (fun hHeld=>?_) (by first|exact hSn|exact H2.out.v|exact(H2.out.step (Below.refl _ _).drew).v)
     clear hK K
     refine rdP 16 fun K hK=>?_
     go_simp
     refine(HT.out _).mono ?_;rintro e w2 ⟨rfl,hb2⟩;have hSn:=(hHeld.2.2.2.2.step hb2).v;clear hHeld hb2;try go_simp
     refine hKo hK (fun hHeld=>?_) (by first|exact hSn|exact H2.out.v|exact(H2.out.step (Below.refl _ _).drew).v)
     clear hK K
     refine tkP 17 ?_ (hy:=by intro w hSw;(try dsimp only at hSw);go_simp;(try with_reducible rfl))
     refine tkP 18 ?_ (hy:=by intro w hSw;(try dsimp only at hSw);go_simp;(try with_reducible rfl))
     refine tkP 19 ?_ (hy:=by intro w hSw;(try dsimp only at hSw);go_simp;(try with_reducible rfl))
     refine tkP 20 ?_ (hy:=by intro w hSw;(try dsimp only at hSw);go_simp;(try with_reducible rfl))
     refine wpAnyH_done Kr ?_ _
     go_wp2_with fail
     go_ret2
     exact⟨by rw[HF.out];rfl,hHeld.2.2.2.2.below⟩
   ·have hs2:(slot==0)=false:=by simpa using hs
    have HF:=Hq (HR.out.trans (show _=(q,false) by simp[hq,hs]))
    clear HR hq hs
    refine rgH (S:=(fun u=>HeldCV w.heap.size ⟨6,slot,old,new⟩ w u)) (fun hHeld=>?_) (by first|exact hSn|exact H2.out.v|exact(H2.out.step (Below.refl _ _).drew).v)
    refine tkP 0 ?_ (hy:=by intro w hSw;(try dsimp only at hSw);go_simp;(try with_reducible rfl))
    refine tkP 1 ?_ (hy:=by intro w hSw;(try dsimp only at hSw);go_simp;(try with_reducible rfl))
    refine tkP 2 ?_ (hy:=by intro w hSw;(try dsimp only at hSw);go_simp;(try with_reducible rfl))
    refine tkP 3 ?_ (hy:=by intro w hSw;(try dsimp only at hSw);go_simp;(try with_reducible rfl))
    refine tkP 4 ?_ (hy:=by intro w hSw;(try dsimp only at hSw);go_simp;(try with_reducible rfl))
    refine tkP 5 ?_ (hy:=by intro w hSw;(try dsimp only at hSw);go_simp;(try with_reducible rfl))
    refine tkP 6 ?_ (hy:=by intro w hSw;(try dsimp only at hSw);go_simp;(try with_reducible rfl))
    refine tkP 7 ?_ (hy:=by intro w hSw;(try dsimp only at hSw);go_simp;(try with_reducible rfl))
    refine tkP 8 ?_ (hy:=by intro w hSw;(try dsimp only at hSw);go_simp;(try with_reducible rfl))
    refine tkP 9 ?_ (hy:=by intro w hSw;(try dsimp only at hSw);go_simp;(try with_reducible rfl))
    refine tkP 10 ?_ (hy:=by intro w hSw;(try dsimp only at hSw);go_simp;(try with_reducible rfl))
    refine tkP 11 ?_ (hy:=by intro w hSw;(try dsimp only at hSw);go_simp;(try with_reducible rfl))
    refine tkO 12 (some 157) rfl ?_
    try simp only[Act.put,pS]
    refine tkO 13 (some 158) rfl ?_
    try simp only[Act.put,pS]
    refine tkO 14 (some 159) rfl ?_
    try simp only[Act.put,pS]
    refine tkO 15 (some 160) rfl ?_
    try simp only[Act.put,pS]
    refine tkO 16 (some 161) rfl ?_
    try simp only[Act.put,pS]
    refine tkO 17 (some 162) rfl ?_
    try simp only[Act.put,pS]
    refine tkP 18 ?_ (hy:=by intro w hSw;(try dsimp only at hSw);go_simp;(try with_reducible rfl))
    refine tkP 19 ?_ (hy:=by intro w hSw;(try dsimp only at hSw);go_simp;(try with_reducible rfl))
    refine tkP 20 ?_ (hy:=by intro w hSw;(try dsimp only at hSw);go_simp;(try with_reducible rfl))
    refine wpAnyH_done Kr ?_ _
    go_wp2_with fail
    go_ret2
    exact⟨by rw[HF.out];rfl,hHeld.2.2.2.2.below⟩
theorem rdone_7 (p:ByteArray)(o:Cop)(hk:o.kind=7)(hp:p.size≤140737488355328)(ho:o.new.size≤140737488355328)(w:World):
 Calls Tryz.prog 42 #[p,copV o] w fun e w'=>e= .returned (.tuple #[.string (doneO p o).1,.bool (doneO p o).2])∧Below w.heap.size w w':=by
 have HX:=Hq (heldC_new w o 42)
 have HG:=Hq (fun W=>rget_any_rec p o.slot hp W)
 obtain⟨R,hR⟩:=ex (doneO p o)
 rw[← hR]
 have HR:=Hq (hR.trans (show doneO p o=(lsnB o.new ((leafP p).lsn:Nat),((!decide ((lsnB o.new ((leafP p).lsn:Nat)).size=0)&&decide (o.slot=0))&&decide (o.new=lsnB o.new 0))&&decide (o.old=lsnB p 0)) by unfold doneO;rw[hk];rfl))
 have HL:=Hq (fun W=>rlsn_any p hp W)
 have HS:=Hq (fun W=>rsetlsn_any o.new ((leafP p).lsn:Nat) ho W)
 have HN:=Hq (fun W=>bare_any o.new ho W)
 have HP:=Hq (fun W=>bare_any p hp W)
 generalize lsnB o.new ((leafP p).lsn:Nat)=q at HS HR
 generalize ((leafP p).lsn:Nat)=ln at HL HS
 generalize lsnB o.new 0=nb at HN HR
 generalize lsnB p 0=pb at HP HR
 obtain⟨kind,slot,old,new⟩:=o
 dsimp only[copV]at HX HG HR hk HS HN ⊢
 subst hk
 clear hR
 go_enter Tryz.func42,Tryz.ntmps42
 go_upto_region 25 with(go_at_call 89;refine(HG.out _).mono ?_;rintro e w1 ⟨rfl,hb1⟩;obtain⟨a0,a1,a2,a3,-⟩:=(HX.out.step hb1).v;dsimp only at a0 a1 a2 a3)
 have H2:=Hq (HX.out.step hb1)
 clear HX hb1 a0 a1 a2 a3 HG
 refine rgH (S:=(fun u=>HeldCV w.heap.size ⟨7,slot,old,new⟩ w u)) (fun hHeld=>?_) (by first|exact hSn|exact H2.out.v|exact(H2.out.step (Below.refl _ _).drew).v)
 refine tkP 0 ?_ (hy:=by intro w hSw;(try dsimp only at hSw);go_simp;(try with_reducible rfl))
 refine tkP 1 ?_ (hy:=by intro w hSw;(try dsimp only at hSw);go_simp;(try with_reducible rfl))
 refine tkP 2 ?_ (hy:=by intro w hSw;(try dsimp only at hSw);go_simp;(try with_reducible rfl))
 refine rdP 3 fun K hK=>?_
 go_simp
 refine(HL.out _).mono ?_;rintro e w2 ⟨rfl,hb2⟩;have hSn:=(hHeld.2.2.2.2.step hb2).v;clear hHeld hb2;try go_simp
 refine hKo hK (fun hHeld=>?_) (by first|exact hSn|exact H2.out.v|exact(H2.out.step (Below.refl _ _).drew).v)
 clear hK K
 refine rdP 4 fun K hK=>?_
 go_simp
 refine(HS.out _).mono ?_;rintro e w2 ⟨rfl,hb2⟩;have hSn:=(hHeld.2.2.2.2.step hb2).v;clear hHeld hb2;try go_simp
 refine hKo hK (fun hHeld=>?_) (by first|exact hSn|exact H2.out.v|exact(H2.out.step (Below.refl _ _).drew).v)
 clear hK K
 refine tkP 5 ?_ (hy:=by intro w hSw;(try dsimp only at hSw);go_simp;(try with_reducible rfl))
 refine wpAnyH_done Kr ?_ _
 have H3:=Hq hHeld.2.2.2.2
 clear hHeld hSn H2 HL HS
 have H2:=H3
 clear H3
 go_upto_region 26 with fail
 by_cases hq:q.size=0
 ·obtain⟨q1,q2,q3⟩:=cstr_nil hq
  have HF:=Hq (HR.out.trans (show _=(q,false) by simp[hq]))
  clear HR hq
  refine rgH (S:=(fun u=>HeldCV w.heap.size ⟨7,slot,old,new⟩ w u)) (fun hHeld=>?_) (by first|exact hSn|exact H2.out.v|exact(H2.out.step (Below.refl _ _).drew).v)
  refine tkP 0 ?_ (hy:=by intro w hSw;(try dsimp only at hSw);go_simp;(try with_reducible rfl))
  refine tkP 1 ?_ (hy:=by intro w hSw;(try dsimp only at hSw);go_simp;(try with_reducible rfl))
  refine tkP 2 ?_ (hy:=by intro w hSw;(try dsimp only at hSw);go_simp;(try with_reducible rfl))
  refine tkP 3 ?_ (hy:=by intro w hSw;(try dsimp only at hSw);go_simp;(try with_reducible rfl))
  refine tkO 4 (some 175) rfl ?_
  try simp only[Act.put,pS]
  refine tkO 5 (some 176) rfl ?_
  try simp only[Act.put,pS]
  refine tkO 6 (some 177) rfl ?_
  try simp only[Act.put,pS]
  refine tkP 7 ?_ (hy:=by intro w hSw;(try dsimp only at hSw);go_simp;(try with_reducible rfl))
  refine tkP 8 ?_ (hy:=by intro w hSw;(try dsimp only at hSw);go_simp;(try with_reducible rfl))
  refine tkO 9 (some 180) rfl ?_
  try simp only[Act.put,pS]
  refine tkO 10 (some 181) rfl ?_
  try simp only[Act.put,pS]
  refine tkO 11 (some 182) rfl ?_
  try simp only[Act.put,pS]
  refine tkO 12 (some 183) rfl ?_
  try simp only[Act.put,pS]
  refine tkO 13 (some 184) rfl ?_
  try simp only[Act.put,pS]
  refine tkO 14 (some 185) rfl ?_
  try simp only[Act.put,pS]
  refine tkP 15 ?_ (hy:=by intro w hSw;(try dsimp only at hSw);go_simp;(try with_reducible rfl))
  refine tkP 16 ?_ (hy:=by intro w hSw;(try dsimp only at hSw);go_simp;(try with_reducible rfl))
  refine tkO 17 (some 188) rfl ?_
  try simp only[Act.put,pS]
  refine tkO 18 (some 189) rfl ?_
  try simp only[Act.put,pS]
  refine tkO 19 (some 190) rfl ?_
  try simp only[Act.put,pS]
  refine tkO 20 (some 191) rfl ?_
  try simp only[Act.put,pS]
  refine tkO 21 (some 192) rfl ?_
  try simp only[Act.put,pS]
  refine tkP 22 ?_ (hy:=by intro w hSw;(try dsimp only at hSw);go_simp;(try with_reducible rfl))
  refine tkP 23 ?_ (hy:=by intro w hSw;(try dsimp only at hSw);go_simp;(try with_reducible rfl))
  refine tkP 24 ?_ (hy:=by intro w hSw;(try dsimp only at hSw);go_simp;(try with_reducible rfl))
  refine wpAnyH_done Kr ?_ _
  go_wp2_with fail
  go_ret2
  exact⟨by rw[HF.out];rfl,hHeld.2.2.2.2.below⟩
 ·obtain⟨q1,q2,q3⟩:=cstr_some hq
  by_cases hs:slot=0
  ·have hs2:(slot==0)=true:=by simp[hs]
   by_cases hn:new=nb
   ·subst hn
    have he:(new.toList==new.toList)=true:=beq_self_eq_true _
    by_cases ht:old=pb
    ·subst ht
     have he2:(old.toList==old.toList)=true:=beq_self_eq_true _
     have HF:=Hq (HR.out.trans (show _=(q,true) by simp[hq,hs]))
     clear HR hq hs
     refine rgH (S:=(fun u=>HeldCV w.heap.size ⟨7,slot,old,new⟩ w u)) (fun hHeld=>?_) (by first|exact hSn|exact H2.out.v|exact(H2.out.step (Below.refl _ _).drew).v)
     refine tkP 0 ?_ (hy:=by intro w hSw;(try dsimp only at hSw);go_simp;(try with_reducible rfl))
     refine tkP 1 ?_ (hy:=by intro w hSw;(try dsimp only at hSw);go_simp;(try with_reducible rfl))
     refine tkP 2 ?_ (hy:=by intro w hSw;(try dsimp only at hSw);go_simp;(try with_reducible rfl))
     refine tkP 3 ?_ (hy:=by intro w hSw;(try dsimp only at hSw);go_simp;(try with_reducible rfl))
     refine tkP 4 ?_ (hy:=by intro w hSw;(try dsimp only at hSw);go_simp;(try with_reducible rfl))
     refine tkP 5 ?_ (hy:=by intro w hSw;(try dsimp only at hSw);go_simp;(try with_reducible rfl))
     refine tkP 6 ?_ (hy:=by intro w hSw;(try dsimp only at hSw);go_simp;(try with_reducible rfl))
     refine tkP 7 ?_ (hy:=by intro w hSw;(try dsimp only at hSw);go_simp;(try with_reducible rfl))
     refine tkP 8 ?_ (hy:=by intro w hSw;(try dsimp only at hSw);go_simp;(try with_reducible rfl))
     refine tkP 9 ?_ (hy:=by intro w hSw;(try dsimp only at hSw);go_simp;(try with_reducible rfl))
     refine tkP 10 ?_ (hy:=by intro w hSw;(try dsimp only at hSw);go_simp;(try with_reducible rfl))
     refine tkP 11 ?_ (hy:=by intro w hSw;(try dsimp only at hSw);go_simp;(try with_reducible rfl))
     refine tkP 12 ?_ (hy:=by intro w hSw;(try dsimp only at hSw);go_simp;(try with_reducible rfl))
     refine rdP 13 fun K hK=>?_
     go_simp
     refine(HN.out _).mono ?_;rintro e w2 ⟨rfl,hb2⟩;have hSn:=(hHeld.2.2.2.2.step hb2).v;clear hHeld hb2;try go_simp
     refine hKo hK (fun hHeld=>?_) (by first|exact hSn|exact H2.out.v|exact(H2.out.step (Below.refl _ _).drew).v)
     clear hK K
     refine tkP 14 ?_ (hy:=by intro w hSw;(try dsimp only at hSw);go_simp;(try with_reducible rfl))
     refine tkP 15 ?_ (hy:=by intro w hSw;(try dsimp only at hSw);go_simp;(try with_reducible rfl))
     refine tkP 16 ?_ (hy:=by intro w hSw;(try dsimp only at hSw);go_simp;(try with_reducible rfl))
     refine tkP 17 ?_ (hy:=by intro w hSw;(try dsimp only at hSw);go_simp;(try with_reducible rfl))
     refine tkP 18 ?_ (hy:=by intro w hSw;(try dsimp only at hSw);go_simp;(try with_reducible rfl))
     refine tkP 19 ?_ (hy:=by intro w hSw;(try dsimp only at hSw);go_simp;(try with_reducible rfl))
     refine rdP 20 fun K hK=>?_
     go_simp
     refine(HP.out _).mono ?_;rintro e w2 ⟨rfl,hb2⟩;have hSn:=(hHeld.2.2.2.2.step hb2).v;clear hHeld hb2;try go_simp
     refine hKo hK (fun hHeld=>?_) (by first|exact hSn|exact H2.out.v|exact(H2.out.step (Below.refl _ _).drew).v)
     clear hK K
     refine tkP 21 ?_ (hy:=by intro w hSw;(try dsimp only at hSw);go_simp;(try with_reducible rfl))
     refine tkP 22 ?_ (hy:=by intro w hSw;(try dsimp only at hSw);go_simp;(try with_reducible rfl))
     refine tkP 23 ?_ (hy:=by intro w hSw;(try dsimp only at hSw);go_simp;(try with_reducible rfl))
     refine tkP 24 ?_ (hy:=by intro w hSw;(try dsimp only at hSw);go_simp;(try with_reducible rfl))
     refine wpAnyH_done Kr ?_ _
     go_wp2_with fail
     go_ret2
     exact⟨by rw[HF.out];rfl,hHeld.2.2.2.2.below⟩
    ·have he2:=cstr_ne ht
     have HF:=Hq (HR.out.trans (show _=(q,false) by simp[hq,hs,ht]))
     clear HR hq hs ht
     refine rgH (S:=(fun u=>HeldCV w.heap.size ⟨7,slot,old,new⟩ w u)) (fun hHeld=>?_) (by first|exact hSn|exact H2.out.v|exact(H2.out.step (Below.refl _ _).drew).v)
     refine tkP 0 ?_ (hy:=by intro w hSw;(try dsimp only at hSw);go_simp;(try with_reducible rfl))
     refine tkP 1 ?_ (hy:=by intro w hSw;(try dsimp only at hSw);go_simp;(try with_reducible rfl))
     refine tkP 2 ?_ (hy:=by intro w hSw;(try dsimp only at hSw);go_simp;(try with_reducible rfl))
     refine tkP 3 ?_ (hy:=by intro w hSw;(try dsimp only at hSw);go_simp;(try with_reducible rfl))
     refine tkP 4 ?_ (hy:=by intro w hSw;(try dsimp only at hSw);go_simp;(try with_reducible rfl))
     refine tkP 5 ?_ (hy:=by intro w hSw;(try dsimp only at hSw);go_simp;(try with_reducible rfl))
     refine tkP 6 ?_ (hy:=by intro w hSw;(try dsimp only at hSw);go_simp;(try with_reducible rfl))
     refine tkP 7 ?_ (hy:=by intro w hSw;(try dsimp only at hSw);go_simp;(try with_reducible rfl))
     refine tkP 8 ?_ (hy:=by intro w hSw;(try dsimp only at hSw);go_simp;(try with_reducible rfl))
     refine tkP 9 ?_ (hy:=by intro w hSw;(try dsimp only at hSw);go_simp;(try with_reducible rfl))
     refine tkP 10 ?_ (hy:=by intro w hSw;(try dsimp only at hSw);go_simp;(try with_reducible rfl))
     refine tkP 11 ?_ (hy:=by intro w hSw;(try dsimp only at hSw);go_simp;(try with_reducible rfl))
     refine tkP 12 ?_ (hy:=by intro w hSw;(try dsimp only at hSw);go_simp;(try with_reducible rfl))
     refine rdP 13 fun K hK=>?_
     go_simp
     refine(HN.out _).mono ?_;rintro e w2 ⟨rfl,hb2⟩;have hSn:=(hHeld.2.2.2.2.step hb2).v;clear hHeld hb2;try go_simp
     refine hKo hK (fun hHeld=>?_) (by first|exact hSn|exact H2.out.v|exact(H2.out.step (Below.refl _ _).drew).v)
     clear hK K
     refine tkP 14 ?_ (hy:=by intro w hSw;(try dsimp only at hSw);go_simp;(try with_reducible rfl))
     refine tkP 15 ?_ (hy:=by intro w hSw;(try dsimp only at hSw);go_simp;(try with_reducible rfl))
     refine tkP 16 ?_ (hy:=by intro w hSw;(try dsimp only at hSw);go_simp;(try with_reducible rfl))
     refine tkP 17 ?_ (hy:=by intro w hSw;(try dsimp only at hSw);go_simp;(try with_reducible rfl))
     refine tkP 18 ?_ (hy:=by intro w hSw;(try dsimp only at hSw);go_simp;(try with_reducible rfl))
     refine tkP 19 ?_ (hy:=by intro w hSw;(try dsimp only at hSw);go_simp;(try with_reducible rfl))
     refine rdP 20 fun K hK=>?_
     go_simp
     refine(HP.out _).mono ?_;rintro e w2 ⟨rfl,hb2⟩;have hSn:=(hHeld.2.2.2.2.step hb2).v;clear hHeld hb2;try go_simp
     refine hKo hK (fun hHeld=>?_) (by first|exact hSn|exact H2.out.v|exact(H2.out.step (Below.refl _ _).drew).v)
     clear hK K
     refine tkP 21 ?_ (hy:=by intro w hSw;(try dsimp only at hSw);go_simp;(try with_reducible rfl))
     refine tkP 22 ?_ (hy:=by intro w hSw;(try dsimp only at hSw);go_simp;(try with_reducible rfl))
     refine tkP 23 ?_ (hy:=by intro w hSw;(try dsimp only at hSw);go_simp;(try with_reducible rfl))
     refine tkP 24 ?_ (hy:=by intro w hSw;(try dsimp only at hSw);go_simp;(try with_reducible rfl))
     refine wpAnyH_done Kr ?_ _
     go_wp2_with fail
     go_ret2
     exact⟨by rw[HF.out];rfl,hHeld.2.2.2.2.below⟩
   ·have he:=cstr_ne hn
    have HF:=Hq (HR.out.trans (show _=(q,false) by simp[hq,hs,hn]))
    clear HR hq hs hn
    refine rgH (S:=(fun u=>HeldCV w.heap.size ⟨7,slot,old,new⟩ w u)) (fun hHeld=>?_) (by first|exact hSn|exact H2.out.v|exact(H2.out.step (Below.refl _ _).drew).v)
    refine tkP 0 ?_ (hy:=by intro w hSw;(try dsimp only at hSw);go_simp;(try with_reducible rfl))
    refine tkP 1 ?_ (hy:=by intro w hSw;(try dsimp only at hSw);go_simp;(try with_reducible rfl))
    refine tkP 2 ?_ (hy:=by intro w hSw;(try dsimp only at hSw);go_simp;(try with_reducible rfl))
    refine tkP 3 ?_ (hy:=by intro w hSw;(try dsimp only at hSw);go_simp;(try with_reducible rfl))
    refine tkP 4 ?_ (hy:=by intro w hSw;(try dsimp only at hSw);go_simp;(try with_reducible rfl))
    refine tkP 5 ?_ (hy:=by intro w hSw;(try dsimp only at hSw);go_simp;(try with_reducible rfl))
    refine tkP 6 ?_ (hy:=by intro w hSw;(try dsimp only at hSw);go_simp;(try with_reducible rfl))
    refine tkP 7 ?_ (hy:=by intro w hSw;(try dsimp only at hSw);go_simp;(try with_reducible rfl))
    refine tkP 8 ?_ (hy:=by intro w hSw;(try dsimp only at hSw);go_simp;(try with_reducible rfl))
    refine tkP 9 ?_ (hy:=by intro w hSw;(try dsimp only at hSw);go_simp;(try with_reducible rfl))
    refine tkP 10 ?_ (hy:=by intro w hSw;(try dsimp only at hSw);go_simp;(try with_reducible rfl))
    refine tkP 11 ?_ (hy:=by intro w hSw;(try dsimp only at hSw);go_simp;(try with_reducible rfl))
    refine tkP 12 ?_ (hy:=by intro w hSw;(try dsimp only at hSw);go_simp;(try with_reducible rfl))
    refine rdP 13 fun K hK=>?_
    go_simp
    refine(HN.out _).mono ?_;rintro e w2 ⟨rfl,hb2⟩;have hSn:=(hHeld.2.2.2.2.step hb2).v;clear hHeld hb2;try go_simp
    refine hKo hK (fun hHeld=>?_) (by first|exact hSn|exact H2.out.v|exact(H2.out.step (Below.refl _ _).drew).v)
    clear hK K
    refine tkP 14 ?_ (hy:=by intro w hSw;(try dsimp only at hSw);go_simp;(try with_reducible rfl))
    refine tkP 15 ?_ (hy:=by intro w hSw;(try dsimp only at hSw);go_simp;(try with_reducible rfl))
    refine tkP 16 ?_ (hy:=by intro w hSw;(try dsimp only at hSw);go_simp;(try with_reducible rfl))
    refine tkO 17 (some 188) rfl ?_
    try simp only[Act.put,pS]
    refine tkO 18 (some 189) rfl ?_
    try simp only[Act.put,pS]
    refine tkO 19 (some 190) rfl ?_
    try simp only[Act.put,pS]
    refine tkO 20 (some 191) rfl ?_
    try simp only[Act.put,pS]
    refine tkO 21 (some 192) rfl ?_
    try simp only[Act.put,pS]
    refine tkP 22 ?_ (hy:=by intro w hSw;(try dsimp only at hSw);go_simp;(try with_reducible rfl))
    refine tkP 23 ?_ (hy:=by intro w hSw;(try dsimp only at hSw);go_simp;(try with_reducible rfl))
    refine tkP 24 ?_ (hy:=by intro w hSw;(try dsimp only at hSw);go_simp;(try with_reducible rfl))
    refine wpAnyH_done Kr ?_ _
    go_wp2_with fail
    go_ret2
    exact⟨by rw[HF.out];rfl,hHeld.2.2.2.2.below⟩
  ·have hs2:(slot==0)=false:=by simpa using hs
   have HF:=Hq (HR.out.trans (show _=(q,false) by simp[hq,hs]))
   clear HR hq hs
   refine rgH (S:=(fun u=>HeldCV w.heap.size ⟨7,slot,old,new⟩ w u)) (fun hHeld=>?_) (by first|exact hSn|exact H2.out.v|exact(H2.out.step (Below.refl _ _).drew).v)
   refine tkP 0 ?_ (hy:=by intro w hSw;(try dsimp only at hSw);go_simp;(try with_reducible rfl))
   refine tkP 1 ?_ (hy:=by intro w hSw;(try dsimp only at hSw);go_simp;(try with_reducible rfl))
   refine tkP 2 ?_ (hy:=by intro w hSw;(try dsimp only at hSw);go_simp;(try with_reducible rfl))
   refine tkP 3 ?_ (hy:=by intro w hSw;(try dsimp only at hSw);go_simp;(try with_reducible rfl))
   refine tkP 4 ?_ (hy:=by intro w hSw;(try dsimp only at hSw);go_simp;(try with_reducible rfl))
   refine tkP 5 ?_ (hy:=by intro w hSw;(try dsimp only at hSw);go_simp;(try with_reducible rfl))
   refine tkP 6 ?_ (hy:=by intro w hSw;(try dsimp only at hSw);go_simp;(try with_reducible rfl))
   refine tkP 7 ?_ (hy:=by intro w hSw;(try dsimp only at hSw);go_simp;(try with_reducible rfl))
   refine tkP 8 ?_ (hy:=by intro w hSw;(try dsimp only at hSw);go_simp;(try with_reducible rfl))
   refine tkO 9 (some 180) rfl ?_
   try simp only[Act.put,pS]
   refine tkO 10 (some 181) rfl ?_
   try simp only[Act.put,pS]
   refine tkO 11 (some 182) rfl ?_
   try simp only[Act.put,pS]
   refine tkO 12 (some 183) rfl ?_
   try simp only[Act.put,pS]
   refine tkO 13 (some 184) rfl ?_
   try simp only[Act.put,pS]
   refine tkO 14 (some 185) rfl ?_
   try simp only[Act.put,pS]
   refine tkP 15 ?_ (hy:=by intro w hSw;(try dsimp only at hSw);go_simp;(try with_reducible rfl))
   refine tkP 16 ?_ (hy:=by intro w hSw;(try dsimp only at hSw);go_simp;(try with_reducible rfl))
   refine tkO 17 (some 188) rfl ?_
   try simp only[Act.put,pS]
   refine tkO 18 (some 189) rfl ?_
   try simp only[Act.put,pS]
   refine tkO 19 (some 190) rfl ?_
   try simp only[Act.put,pS]
   refine tkO 20 (some 191) rfl ?_
   try simp only[Act.put,pS]
   refine tkO 21 (some 192) rfl ?_
   try simp only[Act.put,pS]
   refine tkP 22 ?_ (hy:=by intro w hSw;(try dsimp only at hSw);go_simp;(try with_reducible rfl))
   refine tkP 23 ?_ (hy:=by intro w hSw;(try dsimp only at hSw);go_simp;(try with_reducible rfl))
   refine tkP 24 ?_ (hy:=by intro w hSw;(try dsimp only at hSw);go_simp;(try with_reducible rfl))
   refine wpAnyH_done Kr ?_ _
   go_wp2_with fail
   go_ret2
   exact⟨by rw[HF.out];rfl,hHeld.2.2.2.2.below⟩
theorem rdone_any (p:ByteArray)(o:Cop)(hp:p.size≤140737488355328)(ho:o.new.size≤140737488355328)(w:World):
 Calls Tryz.prog 42 #[p,copV o] w fun e w'=>e= .returned (.tuple #[.string (doneO p o).1,.bool (doneO p o).2])∧Below w.heap.size w w':=by
 by_cases h:1≤o.kind∧o.kind≤7
 ·have h7:o.kind=1∨o.kind=2∨o.kind=3∨o.kind=4∨o.kind=5∨o.kind=6∨o.kind=7:=by omega
  rcases h7 with h|h|h|h|h|h|h
  ·exact rdone_1 p o h hp ho w
  ·exact rdone_2 p o h hp ho w
  ·exact rdone_3 p o h hp ho w
  ·exact rdone_4 p o h hp ho w
  ·exact rdone_5 p o h hp ho w
  ·exact rdone_6 p o h hp ho w
  ·exact rdone_7 p o h hp ho w
 ·exact rdone_none p o h hp ho w
end Go.Proofs.YtmfkhdhnbkambaaGreatDoor
