import Derived.Test.YtdfkambdagoojaaGreatDoorHa00
import Derived.Test.YtdfkambdagoojaaGreatDoorHa01
import Derived.Lib.ConvBytes
import Derived.Lib.AppendStr
import Derived.Lib.FrozenHead
import Derived.Deep.MidRow
import Derived.Lib.LazyBuf
import Derived.Test.YtdfkambdagoojaaGreatDoorHa17
import Derived.Test.YtdfkambdagoojaaGreatDoorHa06
import Derived.Test.YtdfkambdagoojaaGreatDoorHa08
import Derived.Test.YtdfkambdagoojaaGreatDoorHa05
set_option maxRecDepth 100000
set_option maxHeartbeats 16000000
set_option linter.unusedSimpArgs false
namespace Go.Proofs.YtdfkambdagoojaaGreatDoor
open Go.RowKit
def OwnB (B:Nat)(w:World)(v:Value)(l:List UInt8):Prop:=
 ∃ g cap,v= .slice (some ⟨g,0,none⟩) l.length cap∧B≤g∧g<w.heap.size∧l.length≤cap∧cap≤maxLen∧
  (∀ j,j<cap→(w.cell? ⟨g,j,none⟩).isSome=true∧w.frozen? ⟨g,j,none⟩=false)∧∀ (j:Nat) (hj:j<l.length),w.cell? ⟨g,j,none⟩=some (.int .u8 (l[j].toNat:Int))
theorem OwnB.below {B:Nat}{w w':World}{v:Value}{l:List UInt8}(h:OwnB B w v l)(hb:Below w.heap.size w w'):OwnB B w' v l:=by
 obtain⟨g,cap,h1,h2,h3,h4,h5,h6,h7⟩:=h
 refine⟨g,cap,h1,h2,Nat.lt_of_lt_of_le h3 hb.size,h4,h5,fun j hj=>?_,fun j hj=>?_⟩
 ·rw[hb.cell (p:=⟨g,j,none⟩) h3,hb.frozen (p:=⟨g,j,none⟩) h3];exact h6 j hj
 ·rw[hb.cell (p:=⟨g,j,none⟩) h3];exact h7 j hj
theorem OwnB.mono {B B':Nat}{w:World}{v:Value}{l:List UInt8}(h:OwnB B w v l)(hb:B'≤B):OwnB B' w v l:=by
 obtain⟨g,cap,h1,h2,h3⟩:=h
 exact⟨g,cap,h1,Nat.le_trans hb h2,h3⟩
theorem ownB_conv (w:World)(s:ByteArray)(hs:s.size≤1000000):OwnB w.heap.size (Lib.bytesWorld w 5 s) (.slice (some ⟨w.heap.size,0,none⟩) s.size (grownCap w s.size 0 5)) s.data.toList:=by
 have hsz:s.data.toList.length=s.size:=by simp
 have hge:=grownCap_ge w s.size 0 5
 have hcm:=grownCap_le_maxLen w s.size 0 5 (by simp only[maxLen];omega)
 have hcs:(Lib.bytesCells w 5 s).size=grownCap w s.size 0 5:=by
  unfold Lib.bytesCells
  rw[Array.size_append,Array.size_map,Array.size_replicate]
  show s.size+_=_
  omega
 have hn:=Lib.bytesWorld_at_new w 5 s
 refine⟨w.heap.size,_,by rw[hsz],Nat.le_refl _,by rw[Lib.bytesWorld_size];omega,by rw[hsz];exact hge,hcm,fun j hj=>⟨?_,?_⟩,fun j hj=>?_⟩
 ·unfold World.cell?
  rw[hn]
  simp only
  rw[Array.getElem?_eq_getElem (by rw[hcs];exact hj)]
  rfl
 ·unfold World.frozen?
  rw[hn]
  simp only[Bool.and_eq_false_iff,decide_eq_false_iff_not]
  left
  rw[hcs];omega
 ·rw[Lib.bytesWorld_cell w 5 s j (by omega)]
  rw[List.getD_eq_getElem?_getD,List.getElem?_eq_getElem hj,Option.getD_some]
theorem OwnB.back {P:Program}{B:Nat}{w:World}{v:Value}{l:List UInt8}(h:OwnB B w v l){t u e:TypeId}(ht:P.underlying t=some (.slice e))(he:P.underlying e=some (.int .u8))(hu:P.underlying u=some .string):
 (convert t u v).run P w= .ok (.string ⟨l.toArray⟩) w:=by
 obtain⟨g,cap,rfl,_,hg,_,_,_,h7⟩:=h
 exact run_convert_bytes_back w t u e ⟨g,0,none⟩ cap l ht he hu (fun j hj=>by rw[Addr.add_mid,Nat.zero_add];exact h7 j hj)
theorem rbare_any (r:Rc.Rec)(T D:Value)(w:World):
 Calls Tryz.prog 153 #[recV r T D] w fun e w'=>e= .returned (recV (Rc.bare r.kind r.lsn r.prev r.txn) (.slice none 0 0) (.slice none 0 0))∧Below w.heap.size w w':=by
 obtain⟨lsn,prev,txn,kind,page,next,nu,⟨ok,os,oo,on⟩,how,root,⟨ek,ep,es⟩,ts,ds⟩:=r
 dsimp only[recV,recA,Rc.bare,Rc.noOp,Rc.noKey]
 go_enter Tryz.func153,Tryz.ntmps153
 go_upto_region 1 with fail
 have H0:=nW2 w (rcA lsn prev txn kind page next nu ok os oo on how root ek ep es (T) (D)) 47 zeroA 47
 obtain⟨W0,hW0⟩:=exW H0
 rw[← hW0]at H0 ⊢
 clear hW0
 have hc:=blkCell H0.out.get0
 go_wp2_with (with_reducible refine lS (rcA lsn prev txn kind 0 0 0 0 0 ⟨#[]⟩ ⟨#[]⟩ 0 0 ⟨#[]⟩ 0 0 (.slice none 0 0) (.slice none 0 0)) H0.out.get1 ?_)
 refine bodyPost_ret (v:=.agg (rcA lsn prev txn kind 0 0 0 0 0 ⟨#[]⟩ ⟨#[]⟩ 0 0 ⟨#[]⟩ 0 0 (.slice none 0 0) (.slice none 0 0))) (results_cell rfl _ _ rfl (load_whole (setRow_heap _ _ _ _ _ _ H0.out.get1) Tryz.underlying47 Kr Kr)) rfl ?_
 exact⟨rfl,(H0.out.row 1 _ _ rfl).below⟩
theorem rchange_any (r:Rc.Rec)(T D:Value)(w:World):
 Calls Tryz.prog 155 #[recV r T D] w fun e w'=>e= .returned (.bool (decide (Rc.pg r.page∧Rc.opR r.op∧Rc.treeR r)))∧Below w.heap.size w w':=by
 obtain⟨lsn,prev,txn,kind,page,next,nu,⟨ok,os,oo,on⟩,how,root,⟨ek,ep,es⟩,ts,ds⟩:=r
 dsimp only
 have HP:=Hq (fun W=>rpage_any page W)
 have HO:=Hq (fun W=>rop_any ⟨ok,os,oo,on⟩ W)
 have HQ:=Hq (fun W=>rpage_any root W)
 have HE:=Hq (fun W=>rentry_any ⟨ek,ep,es⟩ W)
 dsimp only at HE HO
 by_cases h1:Rc.pg page
 rotate_left
 ·rw[decide_eq_false h1]at HP
  rw[decide_eq_false (fun h=>h1 h.1)]
  clear h1
  go_enter Tryz.func155,Tryz.ntmps155
  go_wp2_with (first|(go_at_call 156;(with_reducible refine(HP.out _).mono ?_);rintro e w2 ⟨rfl,hb2⟩;have hB2:=joinB (allocB w (.cells (rcA lsn prev txn kind page next nu ok os oo on how root ek ep es (T) (D)) 47)) hb2;have hx2:=blkCell (blkNew hb2)))
  go_ret
  exact⟨rfl,hB2⟩
 rw[decide_eq_true h1]at HP
 by_cases h2:Rc.opR ⟨ok,os,oo,on⟩
 rotate_left
 ·rw[decide_eq_false h2]at HO
  rw[decide_eq_false (fun h=>h2 h.2.1)]
  clear h1 h2
  go_enter Tryz.func155,Tryz.ntmps155
  go_wp2_with (first|(go_at_call 156;(with_reducible refine(HP.out _).mono ?_);rintro e w2 ⟨rfl,hb2⟩;have hB2:=joinB (allocB w (.cells (rcA lsn prev txn kind page next nu ok os oo on how root ek ep es (T) (D)) 47)) hb2;have hx2:=blkCell (blkNew hb2))|(go_at_call 157;(with_reducible refine(HO.out _).mono ?_);rintro e w3 ⟨rfl,hb3⟩;have hB3:=joinB hB2 hb3;have hx3:=blkCell (blkOld (blkNew hb2) hb3)))
  go_ret
  exact⟨rfl,hB3⟩
 rw[decide_eq_true h2]at HO
 have hred:decide (Rc.pg page∧Rc.opR ⟨ok,os,oo,on⟩∧Rc.treeR ⟨lsn,prev,txn,kind,page,next,nu,⟨ok,os,oo,on⟩,how,root,⟨ek,ep,es⟩,ts,ds⟩)=decide (Rc.treeR ⟨lsn,prev,txn,kind,page,next,nu,⟨ok,os,oo,on⟩,how,root,⟨ek,ep,es⟩,ts,ds⟩):=decide_eq_decide.2 ⟨fun h=>h.2.2,fun h=>⟨h1,h2,h⟩⟩
 rw[hred]
 clear hred h1 h2
 by_cases hh:how=1
 ·subst hh
  have HEQ:=Hq (fun W=>key_equal ⟨ek,ep,es⟩ ⟨⟨#[]⟩,0,0⟩ W)
  by_cases hr:root=0
  ·subst hr
   have heq:=HEQ.out
   have HT:=Hq (show decide (Rc.treeR ⟨lsn,prev,txn,kind,page,next,nu,⟨ok,os,oo,on⟩,1,0,⟨ek,ep,es⟩,ts,ds⟩)=decide ((⟨ek,ep,es⟩:Rc.Key)=⟨⟨#[]⟩,0,0⟩)from decide_eq_decide.2 ⟨fun h=>by
    rcases h with⟨_,_,h3⟩|⟨h1,_⟩
    ·exact h3
    ·simp only at h1;omega,fun h=>.inl ⟨rfl,rfl,h⟩⟩)
   rw[HT.out]
   generalize decide ((⟨ek,ep,es⟩:Rc.Key)=⟨⟨#[]⟩,0,0⟩)=b at heq ⊢
   go_enter Tryz.func155,Tryz.ntmps155
   go_wp2_with (first|(go_at_call 156;(with_reducible refine(HP.out _).mono ?_);rintro e w2 ⟨rfl,hb2⟩;have hB2:=joinB (allocB w (.cells (rcA lsn prev txn kind page next nu ok os oo on 1 0 ek ep es (T) (D)) 47)) hb2;have hx2:=blkCell (blkNew hb2))|(go_at_call 157;(with_reducible refine(HO.out _).mono ?_);rintro e w3 ⟨rfl,hb3⟩;have hB3:=joinB hB2 hb3;have hx3:=blkCell (blkOld (blkNew hb2) hb3)))
   go_ret
   exact⟨by simp,hB3⟩
  ·have h2:(root==0)=false:=by simp[hr]
   rw[show decide (Rc.treeR ⟨lsn,prev,txn,kind,page,next,nu,⟨ok,os,oo,on⟩,1,root,⟨ek,ep,es⟩,ts,ds⟩)=false from decide_eq_false (fun h=>by
    rcases h with⟨_,h3,_⟩|⟨h1,_⟩
    ·exact hr h3
    ·simp only at h1;omega)]
   clear hr
   go_enter Tryz.func155,Tryz.ntmps155
   go_wp2_with (first|(go_at_call 156;(with_reducible refine(HP.out _).mono ?_);rintro e w2 ⟨rfl,hb2⟩;have hB2:=joinB (allocB w (.cells (rcA lsn prev txn kind page next nu ok os oo on 1 root ek ep es (T) (D)) 47)) hb2;have hx2:=blkCell (blkNew hb2))|(go_at_call 157;(with_reducible refine(HO.out _).mono ?_);rintro e w3 ⟨rfl,hb3⟩;have hB3:=joinB hB2 hb3;have hx3:=blkCell (blkOld (blkNew hb2) hb3)))
   go_ret
   exact⟨by simp,hB3⟩
 ·have hh1:(how==1)=false:=by simp[hh]
  have NOT:=Hq (show ∀ (h:¬ ((how=2∨how=3)∧Rc.pg root∧Rc.pg ep∧Rc.sl es∧ek.size≤100)),decide (Rc.treeR ⟨lsn,prev,txn,kind,page,next,nu,⟨ok,os,oo,on⟩,how,root,⟨ek,ep,es⟩,ts,ds⟩)=false from fun h=>decide_eq_false (fun h'=>by
   rcases h' with⟨h1,_⟩|h1
   ·exact hh h1
   ·exact h h1))
  by_cases hk:how=2∨how=3
  rotate_left
  ·rw[NOT.out (fun h=>hk h.1)]
   have hh2:(how==2)=false:=by simp;omega
   have hh3:(how==3)=false:=by simp;omega
   clear hk hh
   go_enter Tryz.func155,Tryz.ntmps155
   go_wp2_with (first|(go_at_call 156;(with_reducible refine(HP.out _).mono ?_);rintro e w2 ⟨rfl,hb2⟩;have hB2:=joinB (allocB w (.cells (rcA lsn prev txn kind page next nu ok os oo on how root ek ep es (T) (D)) 47)) hb2;have hx2:=blkCell (blkNew hb2))|(go_at_call 157;(with_reducible refine(HO.out _).mono ?_);rintro e w3 ⟨rfl,hb3⟩;have hB3:=joinB hB2 hb3;have hx3:=blkCell (blkOld (blkNew hb2) hb3)))
   go_ret
   exact⟨by simp,hB3⟩
  have hk2:(how==2||how==3)=true:=by rcases hk with rfl|rfl<;>rfl
  by_cases hq:Rc.pg root
  rotate_left
  ·rw[decide_eq_false hq]at HQ
   rw[NOT.out (fun h=>hq h.2.1)]
   rcases hk with rfl|rfl
   ·clear hh hk2 hq hh1
    go_enter Tryz.func155,Tryz.ntmps155
    go_wp2_with (first|(go_at_call 156;(with_reducible refine(HP.out _).mono ?_);rintro e w2 ⟨rfl,hb2⟩;have hB2:=joinB (allocB w (.cells (rcA lsn prev txn kind page next nu ok os oo on 2 root ek ep es (T) (D)) 47)) hb2;have hx2:=blkCell (blkNew hb2))|(go_at_call 157;(with_reducible refine(HO.out _).mono ?_);rintro e w3 ⟨rfl,hb3⟩;have hB3:=joinB hB2 hb3;have hx3:=blkCell (blkOld (blkNew hb2) hb3))|(go_at_call 156;(with_reducible refine(HQ.out _).mono ?_);rintro e w4 ⟨rfl,hb4⟩;have hB4:=joinB hB3 hb4;have hx4:=blkCell (blkOld (blkOld (blkNew hb2) hb3) hb4)))
    go_ret
    exact⟨by simp,hB4⟩
   ·clear hh hk2 hq hh1
    go_enter Tryz.func155,Tryz.ntmps155
    go_wp2_with (first|(go_at_call 156;(with_reducible refine(HP.out _).mono ?_);rintro e w2 ⟨rfl,hb2⟩;have hB2:=joinB (allocB w (.cells (rcA lsn prev txn kind page next nu ok os oo on 3 root ek ep es (T) (D)) 47)) hb2;have hx2:=blkCell (blkNew hb2))|(go_at_call 157;(with_reducible refine(HO.out _).mono ?_);rintro e w3 ⟨rfl,hb3⟩;have hB3:=joinB hB2 hb3;have hx3:=blkCell (blkOld (blkNew hb2) hb3))|(go_at_call 156;(with_reducible refine(HQ.out _).mono ?_);rintro e w4 ⟨rfl,hb4⟩;have hB4:=joinB hB3 hb4;have hx4:=blkCell (blkOld (blkOld (blkNew hb2) hb3) hb4)))
    go_ret
    exact⟨by simp,hB4⟩
  rw[decide_eq_true hq]at HQ
  have HT:=Hq (show decide (Rc.treeR ⟨lsn,prev,txn,kind,page,next,nu,⟨ok,os,oo,on⟩,how,root,⟨ek,ep,es⟩,ts,ds⟩)=decide (ek.size≤100∧Rc.pg ep∧Rc.sl es)from decide_eq_decide.2 ⟨fun h=>by
   rcases h with⟨h1,_⟩|⟨_,_,h3,h4,h5⟩
   ·exact absurd h1 hh
   ·exact⟨h5,h3,h4⟩,fun h=>.inr ⟨hk,hq,h.2.1,h.2.2,h.1⟩⟩)
  rw[HT.out]
  generalize decide (ek.size≤100∧Rc.pg ep∧Rc.sl es)=b at HE ⊢
  rcases hk with rfl|rfl
  ·clear hh hk2 hq hh1 HT NOT
   go_enter Tryz.func155,Tryz.ntmps155
   go_wp2_with (first|(go_at_call 156;(with_reducible refine(HP.out _).mono ?_);rintro e w2 ⟨rfl,hb2⟩;have hB2:=joinB (allocB w (.cells (rcA lsn prev txn kind page next nu ok os oo on 2 root ek ep es (T) (D)) 47)) hb2;have hx2:=blkCell (blkNew hb2))|(go_at_call 157;(with_reducible refine(HO.out _).mono ?_);rintro e w3 ⟨rfl,hb3⟩;have hB3:=joinB hB2 hb3;have hx3:=blkCell (blkOld (blkNew hb2) hb3))|(go_at_call 156;(with_reducible refine(HQ.out _).mono ?_);rintro e w4 ⟨rfl,hb4⟩;have hB4:=joinB hB3 hb4;have hx4:=blkCell (blkOld (blkOld (blkNew hb2) hb3) hb4))|(go_at_call 201;(with_reducible refine(HE.out _).mono ?_);rintro e w5 ⟨rfl,hb5⟩;have hB5:=joinB hB4 hb5))
   go_ret
   exact⟨by simp,hB5⟩
  ·clear hh hk2 hq hh1 HT NOT
   go_enter Tryz.func155,Tryz.ntmps155
   go_wp2_with (first|(go_at_call 156;(with_reducible refine(HP.out _).mono ?_);rintro e w2 ⟨rfl,hb2⟩;have hB2:=joinB (allocB w (.cells (rcA lsn prev txn kind page next nu ok os oo on 3 root ek ep es (T) (D)) 47)) hb2;have hx2:=blkCell (blkNew hb2))|(go_at_call 157;(with_reducible refine(HO.out _).mono ?_);rintro e w3 ⟨rfl,hb3⟩;have hB3:=joinB hB2 hb3;have hx3:=blkCell (blkOld (blkNew hb2) hb3))|(go_at_call 156;(with_reducible refine(HQ.out _).mono ?_);rintro e w4 ⟨rfl,hb4⟩;have hB4:=joinB hB3 hb4;have hx4:=blkCell (blkOld (blkOld (blkNew hb2) hb3) hb4))|(go_at_call 201;(with_reducible refine(HE.out _).mono ?_);rintro e w5 ⟨rfl,hb5⟩;have hB5:=joinB hB4 hb5))
   go_ret
   exact⟨by simp,hB5⟩
theorem rlists_any (r:Rc.Rec)(A B:Option Addr)(c d:Nat)(w:World)(hr:RecR w r A c B d):
 Calls Tryz.prog 158 #[recV r (.slice A r.txns.length c) (.slice B r.dirty.length d)] w fun e w'=>e= .returned (.bool (decide (Rc.listsR r)))∧Below w.heap.size w w':=by
 obtain⟨lsn,prev,txn,kind,page,next,nu,⟨ok,os,oo,on⟩,how,root,⟨ek,ep,es⟩,ts,ds⟩:=r
 dsimp only[recV,recA]
 obtain⟨w0,hw0⟩:=ex (w.alloc (.cells (rcA lsn prev txn kind page next nu ok os oo on how root ek ep es (.slice A ts.length c) (.slice B ds.length d)) 47))
 have HB0:=Hq (show Below w.heap.size w w0 from by rw[hw0];exact allocB _ _)
 have HX0:=Hq (show w0.heap[w.heap.size]? =some (.cells (rcA lsn prev txn kind page next nu ok os oo on how root ek ep es (.slice A ts.length c) (.slice B ds.length d)) 47 (0,0))from by rw[hw0];exact heap_alloc_new _ _)
 have HT:=Hq (show TxR w0 A c ts from hr.txns.below HB0.out)
 have HD:=Hq (show DiR w0 B d ds from hr.dirty.below HB0.out)
 have hts:ts.length≤140737488355328:=hr.small.1
 have hds:ds.length≤140737488355328:=hr.small.2
 have HN:=Hq (fun n W=>rnumber_any n W)
 have HP:=Hq (fun n W=>rpage_any n W)
 obtain⟨z,hz⟩:=ex (decide (Rc.listsR ⟨lsn,prev,txn,kind,page,next,nu,⟨ok,os,oo,on⟩,how,root,⟨ek,ep,es⟩,ts,ds⟩))
 rw[← hz]
 have HZ:=Hq hz
 clear hr hz
 go_enter Tryz.func158,Tryz.ntmps158
 go_upto_region 1 with fail
 rw[← hw0]
 clear hw0
 obtain⟨g,hg⟩:=ex w.heap.size
 rw[← hg]at HX0
 rw[← hg]
 clear hg
 go_wp2_with fail
 go_loopw [3] (fun i wr=>∃ k:Nat,k≤ts.length∧i= .int .i64 (k:Int)∧(∀ j (hj:j<ts.length),j<k→Rc.txnR ts[j])∧Below w0.heap.size w0 wr) (fun i _=>ts.length-(intOf i).toNat)
 case atStart=>exact⟨0,Nat.zero_le _,rfl,fun _ _ h=>absurd h (by omega),Below.refl _ _⟩
 case round=>
  obtain⟨k,hk,rfl,hall,hbw⟩:=hrel
  have HA:=Hq hall
  clear hall
  have hcb:=blkCell (blkOld HX0.out hbw)
  by_cases hlt:k<ts.length
  ·have hk2:(k:Int)<(ts.length:Int):=by omega
   have hk1:(0:Int)≤(k:Int):=by omega
   have hwk:IntKind.i64.wrap ((k:Int)+1)=(k:Int)+1:=IntWalk.i64_in _ (by omega)
   obtain⟨b1,off,rfl,hc,hbl,hcell⟩:=read_at txC_len (HT.out.below hbw) hlt
   have HBAD:=Hq (show ¬ Rc.txnR ts[k]→z=false from fun h=>HZ.out.trans (decide_eq_false (fun h2=>h (h2.2.2.1 _ (List.getElem_mem hlt)))))
   have HOK:=Hq (show Rc.txnR ts[k]→∀ j (hj:j<ts.length),j<k+1→Rc.txnR ts[j]from fun h j hj hjk=>by
    rcases Nat.lt_or_eq_of_le (Nat.le_of_lt_succ hjk)with h1|h1
    ·exact HA.out j hj h1
    ·subst h1;exact h)
   clear HA
   generalize ts[k]=x at hcell HBAD HOK
   obtain⟨x1,x2,x3,x4⟩:=x
   have HC:=Hq (show wr.rangeAt b1 (off+k*4) [.int .i64 x1,.int .i64 x2,.int .i64 x3,.bool x4]from hcell)
   clear hcell hc
   go_upto_region 5 with(first
    |(with_reducible refine wpList_load_mid rfl 83 (.tmp 16) rfl b1 (off+k*4) rfl [.int .i64 x1,.int .i64 x2,.int .i64 x3,.bool x4] _ HC.out Tryz.underlying83 Kr Kr ?_)
    |(with_reducible refine sN #[x1,x2,x3,x4] ?_))
   have HG:=Hq (heap_alloc_new wr (.cells #[x1,x2,x3,x4] 83))
   have HB1:=Hq (joinB hbw (allocB wr (.cells #[x1,x2,x3,x4] 83)))
   obtain⟨gx,hge⟩:=ex wr.heap.size
   obtain⟨W1,hW1⟩:=ex (wr.alloc (.cells #[x1,x2,x3,x4] 83))
   rw[← hge,← hW1]at HG
   rw[← hW1]at HB1
   rw[← hge,← hW1]
   clear hge hW1 hbw hcb HC hbl
   have hcx:=blkCell HG.out
   have H1:=Hq (fun W=>rnumber_any x1 W)
   have H2:=Hq (fun W=>rnumber_any x2 W)
   have H3:=Hq (fun W=>rnumber_any x3 W)
   by_cases h1:Rc.num x1
   rotate_left
   ·rw[decide_eq_false h1]at H1
    have HZ2:=Hq (HBAD.out (fun h=>h1 h.1))
    clear h1
    go_wp2_with (go_at_call 152;(with_reducible refine(H1.out _).mono ?_);rintro e w2 ⟨rfl,hb2⟩)
    go_ret
    exact⟨by rw[HZ2.out];rfl,joinB HB0.out (joinB HB1.out hb2)⟩
   rw[decide_eq_true h1]at H1
   by_cases h2:Rc.num x2
   rotate_left
   ·rw[decide_eq_false h2]at H2
    have HZ2:=Hq (HBAD.out (fun h=>h2 h.2.1))
    clear h1 h2
    go_wp2_with (first
     |(go_at_call 152;(with_reducible refine(H1.out _).mono ?_);rintro e w2 ⟨rfl,hb2⟩;have hcx2:=blkCell (blkOld HG.out hb2))
     |(go_at_call 152;(with_reducible refine(H2.out _).mono ?_);rintro e w3 ⟨rfl,hb3⟩))
    go_ret
    exact⟨by rw[HZ2.out];rfl,joinB HB0.out (joinB (joinB HB1.out hb2) hb3)⟩
   rw[decide_eq_true h2]at H2
   by_cases h3:Rc.num x3
   ·rw[decide_eq_true h3]at H3
    have HOK2:=Hq (HOK.out ⟨h1,h2,h3⟩)
    clear h1 h2 h3
    go_wp2_with (first
     |(go_at_call 152;(with_reducible refine(H1.out _).mono ?_);rintro e w2 ⟨rfl,hb2⟩;have hcx2:=blkCell (blkOld HG.out hb2))
     |(go_at_call 152;(with_reducible refine(H2.out _).mono ?_);rintro e w3 ⟨rfl,hb3⟩;have hcx3:=blkCell (blkOld (blkOld HG.out hb2) hb3))
     |(go_at_call 152;(with_reducible refine(H3.out _).mono ?_);rintro e w4 ⟨rfl,hb4⟩))
    go_roundw
    case rel=>exact⟨k+1,by omega,by go_num,HOK2.out,joinB (joinB (joinB HB1.out hb2) hb3) hb4⟩
    case measure=>simp[intOf];omega
   ·rw[decide_eq_false h3]at H3
    have HZ2:=Hq (HBAD.out (fun h=>h3 h.2.2))
    clear h1 h2 h3
    go_wp2_with (first
     |(go_at_call 152;(with_reducible refine(H1.out _).mono ?_);rintro e w2 ⟨rfl,hb2⟩;have hcx2:=blkCell (blkOld HG.out hb2))
     |(go_at_call 152;(with_reducible refine(H2.out _).mono ?_);rintro e w3 ⟨rfl,hb3⟩;have hcx3:=blkCell (blkOld (blkOld HG.out hb2) hb3))
     |(go_at_call 152;(with_reducible refine(H3.out _).mono ?_);rintro e w4 ⟨rfl,hb4⟩))
    go_ret
    exact⟨by rw[HZ2.out];rfl,joinB HB0.out (joinB (joinB (joinB HB1.out hb2) hb3) hb4)⟩
  ·have hk2:¬ (k:Int)<(ts.length:Int):=by omega
   have HTX:=Hq (show ∀ x∈ts,Rc.txnR x from fun x hx=>by
    obtain⟨j,hj,rfl⟩:=List.mem_iff_getElem.1 hx
    exact HA.out j hj (by omega))
   clear HA
   obtain⟨wo,rfl⟩:=ex wr
   go_wp2_with fail
   go_loopw [5] (fun i wr=>∃ k:Nat,k≤ds.length∧i= .int .i64 (k:Int)∧(∀ j (hj:j<ds.length),j<k→Rc.dirtyR ds[j])∧Below w0.heap.size w0 wr) (fun i _=>ds.length-(intOf i).toNat)
   case atStart=>exact⟨0,Nat.zero_le _,rfl,fun _ _ h=>absurd h (by omega),hbw⟩
   case round=>
    obtain⟨m,hm,rfl,hall,hbw2⟩:=hrel
    have HA:=Hq hall
    clear hall hcb
    have hcb:=blkCell (blkOld HX0.out hbw2)
    by_cases hlt2:m<ds.length
    ·have hm2:(m:Int)<(ds.length:Int):=by omega
     have hm1:(0:Int)≤(m:Int):=by omega
     have hwm:IntKind.i64.wrap ((m:Int)+1)=(m:Int)+1:=IntWalk.i64_in _ (by omega)
     obtain⟨b1,off,rfl,hc,hbl,hcell⟩:=read_at diC_len (HD.out.below hbw2) hlt2
     have q0:=hcell 0 _ rfl
     have q1:=hcell 1 _ rfl
     simp only[Nat.add_zero]at q0
     have HBAD:=Hq (show ¬ Rc.dirtyR ds[m]→z=false from fun h=>HZ.out.trans (decide_eq_false (fun h2=>h (h2.2.2.2 _ (List.getElem_mem hlt2)))))
     have HOK:=Hq (show Rc.dirtyR ds[m]→∀ j (hj:j<ds.length),j<m+1→Rc.dirtyR ds[j]from fun h j hj hjk=>by
      rcases Nat.lt_or_eq_of_le (Nat.le_of_lt_succ hjk)with h1|h1
      ·exact HA.out j hj h1
      ·subst h1;exact h)
     clear HA hcell hc
     generalize ds[m]=x at q0 q1 HBAD HOK
     obtain⟨x1,x2⟩:=x
     have Q1:=Hq q1
     have H1:=Hq (fun W=>rpage_any x1 W)
     have H2:=Hq (fun W=>rnumber_any x2 W)
     by_cases h1:Rc.pg x1
     rotate_left
     ·rw[decide_eq_false h1]at H1
      have HZ2:=Hq (HBAD.out (fun h=>h1 h.1))
      clear h1
      go_wp2_with (go_at_call 156;(with_reducible refine(H1.out _).mono ?_);rintro e w2 ⟨rfl,hb2⟩)
      go_ret
      exact⟨by rw[HZ2.out];rfl,joinB HB0.out (joinB hbw2 hb2)⟩
     rw[decide_eq_true h1]at H1
     by_cases h2:Rc.num x2
     ·rw[decide_eq_true h2]at H2
      have HOK2:=Hq (HOK.out ⟨h1,h2⟩)
      clear h1 h2
      go_wp2_with (first
       |(go_at_call 156;(with_reducible refine(H1.out _).mono ?_);rintro e w2 ⟨rfl,hb2⟩;have hcx2:=blkCell (blkOld (blkOld HX0.out hbw2) hb2);have hq2:=(hb2.cell (p:=⟨b1,off+m*2+1,none⟩) hbl).trans Q1.out)
       |(go_at_call 152;(with_reducible refine(H2.out _).mono ?_);rintro e w3 ⟨rfl,hb3⟩))
      go_roundw
      case rel=>exact⟨m+1,by omega,by go_num,HOK2.out,joinB (joinB hbw2 hb2) hb3⟩
      case measure=>simp[intOf];omega
     ·rw[decide_eq_false h2]at H2
      have HZ2:=Hq (HBAD.out (fun h=>h2 h.2))
      clear h1 h2
      go_wp2_with (first
       |(go_at_call 156;(with_reducible refine(H1.out _).mono ?_);rintro e w2 ⟨rfl,hb2⟩;have hcx2:=blkCell (blkOld (blkOld HX0.out hbw2) hb2);have hq2:=(hb2.cell (p:=⟨b1,off+m*2+1,none⟩) hbl).trans Q1.out)
       |(go_at_call 152;(with_reducible refine(H2.out _).mono ?_);rintro e w3 ⟨rfl,hb3⟩))
      go_ret
      exact⟨by rw[HZ2.out];rfl,joinB HB0.out (joinB (joinB hbw2 hb2) hb3)⟩
    ·have hm2:¬ (m:Int)<(ds.length:Int):=by omega
     have HZ2:=Hq (show z=(decide (ts.length≤1000)&&decide (ds.length≤2000))from by
      rw[HZ.out,← Bool.decide_and]
      exact decide_eq_decide.2 ⟨fun h=>⟨h.1,h.2.1⟩,fun h=>⟨h.1,h.2,HTX.out,fun x hx=>by
       obtain⟨j,hj,rfl⟩:=List.mem_iff_getElem.1 hx
       exact HA.out j hj (by have h9:j<ds.length:=hj;omega)⟩⟩)
     by_cases h5:(ts.length:Int)≤1000
     ·have h5n:ts.length≤1000:=by omega
      go_wp2_with fail
      go_ret
      exact⟨by rw[HZ2.out];simp[h5n];try omega,joinB HB0.out hbw2⟩
     ·have h5n:¬ ts.length≤1000:=by omega
      go_wp2_with fail
      go_ret
      exact⟨by rw[HZ2.out];simp[h5n];try omega,joinB HB0.out hbw2⟩
end Go.Proofs.YtdfkambdagoojaaGreatDoor
namespace Rc
variable {lsn prev txn page next nu how root : Int} {op : Op} {e : Key} {ts : List TxnAt} {ds : List DirtyAt}
theorem r_nums {r:Rec}(h:Right r):num r.lsn∧num r.prev∧num r.txn:=(form_of h).nums
theorem r_small {kind:Int}(hk:kind=1∨kind=5∨kind=6∨kind=7)(hn:num lsn∧num prev∧num txn):
 Right ⟨lsn,prev,txn,kind,page,next,nu,op,how,root,e,ts,ds⟩↔bare kind lsn prev txn=⟨lsn,prev,txn,kind,page,next,nu,op,how,root,e,ts,ds⟩:=by
 constructor
 ·intro h
  have F:=form_of h
  have h1:=F.bare (by unfold hasChange;simp only;omega)
  have h2:=F.noTree (by simp only;omega)
  have h3:=F.noNext (by unfold hasNext;simp only;omega)
  have h4:=F.noLists (by simp only;omega)
  simp only at h1 h2 h3 h4
  obtain⟨rfl,rfl⟩:=h1
  obtain⟨rfl,rfl,rfl⟩:=h2
  obtain⟨rfl,rfl,rfl⟩:=h4
  subst h3
  rfl
 ·intro h
  rw[← h]
  exact .small kind lsn prev txn hk hn.1 hn.2.1 hn.2.2
theorem r_2 (hn:num lsn∧num prev∧num txn):
 Right ⟨lsn,prev,txn,2,page,next,nu,op,how,root,e,ts,ds⟩↔(⟨lsn,prev,txn,2,page,0,0,op,how,root,e,[],[]⟩:Rec)=⟨lsn,prev,txn,2,page,next,nu,op,how,root,e,ts,ds⟩∧pg page∧opR op∧treeR ⟨lsn,prev,txn,2,page,next,nu,op,how,root,e,ts,ds⟩:=by
 constructor
 ·intro h
  have F:=form_of h
  have h1:=F.change (by unfold hasChange;simp)
  have h2:=F.tree rfl
  have h3:=F.noNext (by unfold hasNext;simp)
  have h4:=F.noLists (by simp)
  simp only at h1 h3 h4
  obtain⟨rfl,rfl,rfl⟩:=h4
  subst h3
  exact⟨rfl,h1.1,h1.2,h2⟩
 ·rintro⟨h,h1,h2,h3⟩
  injection h with _ _ _ _ _ e1 e2 _ _ _ _ e3 e4
  subst e1 e2 e3 e4
  exact .change lsn prev txn page op how root e hn.1 hn.2.1 hn.2.2 h1 h2 h3
theorem r_3 (hn:num lsn∧num prev∧num txn):
 Right ⟨lsn,prev,txn,3,page,next,nu,op,how,root,e,ts,ds⟩↔(⟨lsn,prev,txn,3,page,next,0,op,0,0,noKey,[],[]⟩:Rec)=⟨lsn,prev,txn,3,page,next,nu,op,how,root,e,ts,ds⟩∧pg page∧opR op∧num next:=by
 constructor
 ·intro h
  have F:=form_of h
  have h1:=F.change (by unfold hasChange;simp)
  have h2:=F.noTree (by simp)
  have h3:=F.next (by unfold hasNext;simp)
  have h4:=F.noLists (by simp)
  simp only at h1 h2 h3 h4
  obtain⟨rfl,rfl,rfl⟩:=h4
  obtain⟨rfl,rfl,rfl⟩:=h2
  exact⟨rfl,h1.1,h1.2,h3⟩
 ·rintro⟨h,h1,h2,h3⟩
  injection h with _ _ _ _ _ _ e2 _ e5 e6 e7 e3 e4
  subst e2 e3 e4 e5 e6 e7
  exact .clr lsn prev txn page op next hn.1 hn.2.1 hn.2.2 h1 h2 h3
theorem r_4 (hn:num lsn∧num prev∧num txn):
 Right ⟨lsn,prev,txn,4,page,next,nu,op,how,root,e,ts,ds⟩↔(⟨lsn,prev,txn,4,0,next,0,noOp,0,0,noKey,[],[]⟩:Rec)=⟨lsn,prev,txn,4,page,next,nu,op,how,root,e,ts,ds⟩∧num next:=by
 constructor
 ·intro h
  have F:=form_of h
  have h1:=F.bare (by unfold hasChange;simp)
  have h2:=F.noTree (by simp)
  have h3:=F.next (by unfold hasNext;simp)
  have h4:=F.noLists (by simp)
  simp only at h1 h2 h3 h4
  obtain⟨rfl,rfl,rfl⟩:=h4
  obtain⟨rfl,rfl,rfl⟩:=h2
  obtain⟨rfl,rfl⟩:=h1
  exact⟨rfl,h3⟩
 ·rintro⟨h,h3⟩
  injection h with _ _ _ _ e0 _ e2 e1 e5 e6 e7 e3 e4
  subst e0 e1 e2 e3 e4 e5 e6 e7
  exact .nest lsn prev txn next hn.1 hn.2.1 hn.2.2 h3
theorem r_8 (hn:num lsn∧num prev∧num txn):
 Right ⟨lsn,prev,txn,8,page,next,nu,op,how,root,e,ts,ds⟩↔(⟨lsn,prev,txn,8,page,0,0,op,0,0,noKey,[],[]⟩:Rec)=⟨lsn,prev,txn,8,page,next,nu,op,how,root,e,ts,ds⟩∧pg page∧opR op:=by
 constructor
 ·intro h
  have F:=form_of h
  have h1:=F.change (by unfold hasChange;simp)
  have h2:=F.noTree (by simp)
  have h3:=F.noNext (by unfold hasNext;simp)
  have h4:=F.noLists (by simp)
  simp only at h1 h2 h3 h4
  obtain⟨rfl,rfl,rfl⟩:=h4
  obtain⟨rfl,rfl,rfl⟩:=h2
  subst h3
  exact⟨rfl,h1.1,h1.2⟩
 ·rintro⟨h,h1,h2⟩
  injection h with _ _ _ _ _ e1 e2 _ e5 e6 e7 e3 e4
  subst e1 e2 e3 e4 e5 e6 e7
  exact .image lsn prev txn page op hn.1 hn.2.1 hn.2.2 h1 h2
theorem r_9 (hn:num lsn∧num prev∧num txn):
 Right ⟨lsn,prev,txn,9,page,next,nu,op,how,root,e,ts,ds⟩↔(⟨lsn,prev,txn,9,0,0,nu,noOp,0,0,noKey,ts,ds⟩:Rec)=⟨lsn,prev,txn,9,page,next,nu,op,how,root,e,ts,ds⟩∧num nu∧listsR ⟨lsn,prev,txn,9,page,next,nu,op,how,root,e,ts,ds⟩:=by
 constructor
 ·intro h
  have F:=form_of h
  have h1:=F.bare (by unfold hasChange;simp)
  have h2:=F.noTree (by simp)
  have h3:=F.noNext (by unfold hasNext;simp)
  have h4:=F.lists rfl
  simp only at h1 h2 h3 h4
  obtain⟨rfl,rfl⟩:=h1
  obtain⟨rfl,rfl,rfl⟩:=h2
  subst h3
  exact⟨rfl,h4.1,h4.2⟩
 ·rintro⟨h,h1,h2⟩
  injection h with _ _ _ _ e0 e1 _ e2 e5 e6 e7 _ _
  subst e0 e1 e2 e5 e6 e7
  exact .check lsn prev txn nu ts ds hn.1 hn.2.1 hn.2.2 h1 h2
theorem r_other {r:Rec}(h:¬ (1≤r.kind∧r.kind≤9)):¬ Right r:=fun hr=>h (form_of hr).kind
end Rc
