import Derived.Test.YtmfkhdhnbkambaaGreatDoorHp00
import Derived.Test.YtmfkhdhnbkambaaGreatDoorHp25
import Derived.Test.YtmfkhdhnbkambaaGreatDoorHp27
set_option maxRecDepth 100000
set_option maxHeartbeats 16000000
set_option linter.unusedSimpArgs false
namespace Go.Proofs.YtmfkhdhnbkambaaGreatDoor
open Go.RowKit
def ab:ByteArray:=⟨#[97,98]⟩
def o1:Cop:=⟨1,0,⟨#[]⟩,ab⟩
def o6:Cop:=⟨6,0,⟨#[48]⟩,⟨#[55]⟩⟩
theorem rcright_any (p:ByteArray)(o:Cop)(hp:p.size≤140737488355328)(ho:o.new.size≤140737488355328)(w:World):
 Calls Tryz.prog 41 #[p,copV o] w fun e w'=>e= .returned (.bool (rightO p o))∧Below w.heap.size w w':=by
 have HM:=Hq (fun W=>rdone_any p o hp ho W)
 have HR:=Hq (fun W=>prright_any p hp W)
 have HE:=Hq (done_right p o)
 generalize rightO p o=R at HE ⊢
 generalize isPg p=b at HR HE
 generalize doneO p o=x at HM HE
 obtain⟨qx,bx⟩:=x
 obtain⟨kind,slot,old,new⟩:=o
 dsimp only[copV]at HM HE ⊢
 clear ho
 cases bx with
 |true=>
  have HF:=Hq (HE.out.symm.trans (Bool.true_and _))
  go_enter Tryz.func41,Tryz.ntmps41
  go_wp2_with (first|(go_at_call 42;refine(HM.out _).mono ?_;rintro e w1 ⟨rfl,hb1⟩)|(go_at_call 88;refine(HR.out _).mono ?_;rintro e w2 ⟨rfl,hb2⟩))
  go_ret
  exact⟨by rw[HF.out];rfl,joinB (joinB (allocB _ _) hb1) hb2⟩
 |false=>
  have HF:=Hq (HE.out.symm.trans (Bool.false_and _))
  go_enter Tryz.func41,Tryz.ntmps41
  go_wp2_with ((go_at_call 42;refine(HM.out _).mono ?_;rintro e w1 ⟨rfl,hb1⟩))
  go_ret
  exact⟨by rw[HF.out];rfl,joinB (allocB _ _) hb1⟩
theorem rdo_any (p:ByteArray)(o:Cop)(hp:p.size≤140737488355328)(ho:o.new.size≤140737488355328)(w:World):
 Calls Tryz.prog 11 #[p,copV o] w fun e w'=>e= .returned (outV (doO p o))∧Below w.heap.size w w':=by
 have HM:=Hq (fun W=>rdone_any p o hp ho W)
 have HR:=Hq (fun W=>rcright_any p o hp ho W)
 have HX:=Hq (heldC_new w o 42)
 have HY:=Hq (fun h=>(do_yes (p:=p) (o:=o) h).trans (by rw[← done_do h]))
 have HN:=Hq (fun h=>do_no (p:=p) (o:=o) h)
 generalize doO p o=R at HY HN ⊢
 generalize rightO p o=b at HR HY HN
 generalize doneO p o=x at HM HY
 obtain⟨qx,bx⟩:=x
 obtain⟨kind,slot,old,new⟩:=o
 dsimp only[copV]at HM HR HX ⊢
 clear ho
 cases b with
 |true=>
  have HF:=Hq (HY.out rfl)
  clear HY HN
  go_enter Tryz.func11,Tryz.ntmps11
  go_wp2_with (first|(go_at_call 41;refine(HR.out _).mono ?_;rintro e w1 ⟨rfl,hb1⟩;obtain⟨c0,c1,c2,c3,-⟩:=(HX.out.step hb1).v;dsimp only at c0 c1 c2 c3)|(go_at_call 42;refine(HM.out _).mono ?_;rintro e w2 ⟨rfl,hb2⟩))
  go_ret2
  exact⟨by rw[HF.out];rfl,joinB (joinB (allocB _ _) hb1) hb2⟩
 |false=>
  have HF:=Hq (HN.out rfl)
  clear HY HN
  go_enter Tryz.func11,Tryz.ntmps11
  go_wp2_with ((go_at_call 41;refine(HR.out _).mono ?_;rintro e w1 ⟨rfl,hb1⟩))
  go_ret2
  exact⟨by rw[HF.out];rfl,joinB (allocB _ _) hb1⟩
end Go.Proofs.YtmfkhdhnbkambaaGreatDoor
