import Derived.Test.YtdfkambdagoojaaGreatDoorHa00
import Derived.Test.YtdfkambdagoojaaGreatDoorHa05
import Derived.Test.YtdfkambdagoojaaGreatDoorHa18
import Derived.Test.YtdfkambdagoojaaGreatDoorHa06
set_option maxRecDepth 100000
set_option maxHeartbeats 16000000
set_option linter.unusedSimpArgs false
namespace Go.Proofs.YtdfkambdagoojaaGreatDoor
open Go.RowKit
theorem rsame_any (r s:Rc.Rec)(A A' B B':Option Addr)(c c' d d':Nat)(w:World)(hr:RecR w r A c B d)(hs:RecR w s A' c' B' d'):
 Calls Tryz.prog 154 #[recV r (.slice A r.txns.length c) (.slice B r.dirty.length d),recV s (.slice A' s.txns.length c') (.slice B' s.dirty.length d')] w fun e w'=>e= .returned (.bool (decide (r=s)))∧Below w.heap.size w w':=by
 have HT:=Hq (fun W hb=>rsame_txn r.txns s.txns hr.small.1 hs.small.1 A A' c c' W (hr.txns.below hb) (hs.txns.below hb))
 have HD:=Hq (fun W hb=>rsame_dirty r.dirty s.dirty hr.small.2 hs.small.2 B B' d d' W (hr.dirty.below hb) (hs.dirty.below hb))
 have ht1:=hr.small.1
 have ht2:=hs.small.1
 have hd1:=hr.small.2
 have hd2:=hs.small.2
 have HO:=Hq (fun W=>op_equal r.op s.op W)
 have HK:=Hq (fun W=>key_equal r.e s.e W)
 clear hr hs
 obtain⟨rls,rpr,rtx,rki,rpa,rne,rnu,rop,rho,rro,rek,rts,rds⟩:=r
 obtain⟨sls,spr,stx,ski,spa,sne,snu,sop,sho,sro,sek,sts,sds⟩:=s
 simp only at HT HD HO HK ht1 ht2 hd1 hd2 ⊢
 by_cases hls:rls=sls
 rotate_left
 ·rw[decide_eq_false (fun e=>hls (congrArg Rc.Rec.lsn e))]
  have nls:(rls==sls)=false:=by simp[hls]
  have mls:(rls != sls)=true:=by simp[hls]
  clear hls
  obtain⟨rk,rs,rx,ry⟩:=rop
  obtain⟨sk,ss,sx,sy⟩:=sop
  obtain⟨rek1,rek2,rek3⟩:=rek
  obtain⟨sek1,sek2,sek3⟩:=sek
  go_enter Tryz.func154,Tryz.ntmps154
  go_wp2_with fail
  go_ret
  exact⟨by simp,pastAlloc (allocB _ _)⟩
 subst hls
 by_cases hpr:rpr=spr
 rotate_left
 ·rw[decide_eq_false (fun e=>hpr (congrArg Rc.Rec.prev e))]
  have npr:(rpr==spr)=false:=by simp[hpr]
  have mpr:(rpr != spr)=true:=by simp[hpr]
  clear hpr
  obtain⟨rk,rs,rx,ry⟩:=rop
  obtain⟨sk,ss,sx,sy⟩:=sop
  obtain⟨rek1,rek2,rek3⟩:=rek
  obtain⟨sek1,sek2,sek3⟩:=sek
  go_enter Tryz.func154,Tryz.ntmps154
  go_wp2_with fail
  go_ret
  exact⟨by simp,pastAlloc (allocB _ _)⟩
 subst hpr
 by_cases htx:rtx=stx
 rotate_left
 ·rw[decide_eq_false (fun e=>htx (congrArg Rc.Rec.txn e))]
  have ntx:(rtx==stx)=false:=by simp[htx]
  have mtx:(rtx != stx)=true:=by simp[htx]
  clear htx
  obtain⟨rk,rs,rx,ry⟩:=rop
  obtain⟨sk,ss,sx,sy⟩:=sop
  obtain⟨rek1,rek2,rek3⟩:=rek
  obtain⟨sek1,sek2,sek3⟩:=sek
  go_enter Tryz.func154,Tryz.ntmps154
  go_wp2_with fail
  go_ret
  exact⟨by simp,pastAlloc (allocB _ _)⟩
 subst htx
 by_cases hki:rki=ski
 rotate_left
 ·rw[decide_eq_false (fun e=>hki (congrArg Rc.Rec.kind e))]
  have nki:(rki==ski)=false:=by simp[hki]
  have mki:(rki != ski)=true:=by simp[hki]
  clear hki
  obtain⟨rk,rs,rx,ry⟩:=rop
  obtain⟨sk,ss,sx,sy⟩:=sop
  obtain⟨rek1,rek2,rek3⟩:=rek
  obtain⟨sek1,sek2,sek3⟩:=sek
  go_enter Tryz.func154,Tryz.ntmps154
  go_wp2_with fail
  go_ret
  exact⟨by simp,pastAlloc (allocB _ _)⟩
 subst hki
 by_cases hpa:rpa=spa
 rotate_left
 ·rw[decide_eq_false (fun e=>hpa (congrArg Rc.Rec.page e))]
  have npa:(rpa==spa)=false:=by simp[hpa]
  have mpa:(rpa != spa)=true:=by simp[hpa]
  clear hpa
  obtain⟨rk,rs,rx,ry⟩:=rop
  obtain⟨sk,ss,sx,sy⟩:=sop
  obtain⟨rek1,rek2,rek3⟩:=rek
  obtain⟨sek1,sek2,sek3⟩:=sek
  go_enter Tryz.func154,Tryz.ntmps154
  go_wp2_with fail
  go_ret
  exact⟨by simp,pastAlloc (allocB _ _)⟩
 subst hpa
 by_cases hne:rne=sne
 rotate_left
 ·rw[decide_eq_false (fun e=>hne (congrArg Rc.Rec.next e))]
  have nne:(rne==sne)=false:=by simp[hne]
  have mne:(rne != sne)=true:=by simp[hne]
  clear hne
  obtain⟨rk,rs,rx,ry⟩:=rop
  obtain⟨sk,ss,sx,sy⟩:=sop
  obtain⟨rek1,rek2,rek3⟩:=rek
  obtain⟨sek1,sek2,sek3⟩:=sek
  go_enter Tryz.func154,Tryz.ntmps154
  go_wp2_with fail
  go_ret
  exact⟨by simp,pastAlloc (allocB _ _)⟩
 subst hne
 by_cases hnu:rnu=snu
 rotate_left
 ·rw[decide_eq_false (fun e=>hnu (congrArg Rc.Rec.num e))]
  have nnu:(rnu==snu)=false:=by simp[hnu]
  have mnu:(rnu != snu)=true:=by simp[hnu]
  clear hnu
  obtain⟨rk,rs,rx,ry⟩:=rop
  obtain⟨sk,ss,sx,sy⟩:=sop
  obtain⟨rek1,rek2,rek3⟩:=rek
  obtain⟨sek1,sek2,sek3⟩:=sek
  go_enter Tryz.func154,Tryz.ntmps154
  go_wp2_with fail
  go_ret
  exact⟨by simp,pastAlloc (allocB _ _)⟩
 subst hnu
 cases hop:decide (rop=sop)with
 |false=>
  rw[decide_eq_false (fun e=>of_decide_eq_false hop (congrArg Rc.Rec.op e))]
  have eop:=HO.out
  rw[hop]at eop
  clear hop
  obtain⟨rk,rs,rx,ry⟩:=rop
  obtain⟨sk,ss,sx,sy⟩:=sop
  obtain⟨rek1,rek2,rek3⟩:=rek
  obtain⟨sek1,sek2,sek3⟩:=sek
  go_enter Tryz.func154,Tryz.ntmps154
  go_wp2_with fail
  go_ret
  exact⟨by simp,pastAlloc (allocB _ _)⟩
 |true=>
 have eop:=HO.out
 rw[hop]at eop
 have Dop:=Hq (of_decide_eq_true hop)
 clear hop HO
 by_cases hho:rho=sho
 rotate_left
 ·rw[decide_eq_false (fun e=>hho (congrArg Rc.Rec.how e))]
  have nho:(rho==sho)=false:=by simp[hho]
  have mho:(rho != sho)=true:=by simp[hho]
  clear hho
  obtain⟨rk,rs,rx,ry⟩:=rop
  obtain⟨sk,ss,sx,sy⟩:=sop
  obtain⟨rek1,rek2,rek3⟩:=rek
  obtain⟨sek1,sek2,sek3⟩:=sek
  go_enter Tryz.func154,Tryz.ntmps154
  go_wp2_with fail
  go_ret
  exact⟨by simp,pastAlloc (allocB _ _)⟩
 subst hho
 by_cases hro:rro=sro
 rotate_left
 ·rw[decide_eq_false (fun e=>hro (congrArg Rc.Rec.root e))]
  have nro:(rro==sro)=false:=by simp[hro]
  have mro:(rro != sro)=true:=by simp[hro]
  clear hro
  obtain⟨rk,rs,rx,ry⟩:=rop
  obtain⟨sk,ss,sx,sy⟩:=sop
  obtain⟨rek1,rek2,rek3⟩:=rek
  obtain⟨sek1,sek2,sek3⟩:=sek
  go_enter Tryz.func154,Tryz.ntmps154
  go_wp2_with fail
  go_ret
  exact⟨by simp,pastAlloc (allocB _ _)⟩
 subst hro
 cases hek:decide (rek=sek)with
 |false=>
  rw[decide_eq_false (fun e=>of_decide_eq_false hek (congrArg Rc.Rec.e e))]
  have eek:=HK.out
  rw[hek]at eek
  clear hek
  obtain⟨rk,rs,rx,ry⟩:=rop
  obtain⟨sk,ss,sx,sy⟩:=sop
  obtain⟨rek1,rek2,rek3⟩:=rek
  obtain⟨sek1,sek2,sek3⟩:=sek
  go_enter Tryz.func154,Tryz.ntmps154
  go_wp2_with fail
  go_ret
  exact⟨by simp,pastAlloc (allocB _ _)⟩
 |true=>
 have eek:=HK.out
 rw[hek]at eek
 have Dek:=Hq (of_decide_eq_true hek)
 clear hek HK
 cases hts':decide (rts=sts)with
 |false=>
  have Dts:=Hq hts'
  rw[decide_eq_false (fun e=>of_decide_eq_false hts' (congrArg Rc.Rec.txns e))]
  clear hts'
  obtain⟨rk,rs,rx,ry⟩:=rop
  obtain⟨sk,ss,sx,sy⟩:=sop
  obtain⟨rek1,rek2,rek3⟩:=rek
  obtain⟨sek1,sek2,sek3⟩:=sek
  go_enter Tryz.func154,Tryz.ntmps154
  go_wp2_with (first|(go_at_call 199;(with_reducible refine(HT.out _ ?_).mono ?_);(exact pastAlloc (allocB _ _));rintro e w2 ⟨rfl,hb2⟩;have hx1:=blkOld (new21 _ _ _) hb2;have hx2:=blkOld (new2 _ _ _) hb2;have q1:=blkCell hx1 17;have q2:=blkCell hx2 17;clear hx1 hx2;simp at q1 q2;rw[Dts.out]))
  go_ret
  exact⟨by simp,joinB (pastAlloc (allocB _ _)) hb2⟩
 |true=>
 have Bts:=Hq hts'
 have Dts:=Hq (of_decide_eq_true hts')
 clear hts'
 cases hds':decide (rds=sds)with
 |false=>
  have Dds:=Hq hds'
  rw[decide_eq_false (fun e=>of_decide_eq_false hds' (congrArg Rc.Rec.dirty e))]
  clear hds'
  obtain⟨rk,rs,rx,ry⟩:=rop
  obtain⟨sk,ss,sx,sy⟩:=sop
  obtain⟨rek1,rek2,rek3⟩:=rek
  obtain⟨sek1,sek2,sek3⟩:=sek
  go_enter Tryz.func154,Tryz.ntmps154
  go_wp2_with (first|(go_at_call 199;(with_reducible refine(HT.out _ ?_).mono ?_);(exact pastAlloc (allocB _ _));rintro e w2 ⟨rfl,hb2⟩;have hx1:=blkOld (new21 _ _ _) hb2;have hx2:=blkOld (new2 _ _ _) hb2;have q1:=blkCell hx1 17;have q2:=blkCell hx2 17;clear hx1 hx2;simp at q1 q2;rw[Bts.out])|(go_at_call 200;(with_reducible refine(HD.out _ ?_).mono ?_);(exact joinB (pastAlloc (allocB _ _)) hb2);rintro e w3 ⟨rfl,hb3⟩;rw[Dds.out]))
  go_ret
  exact⟨by simp,joinB (joinB (pastAlloc (allocB _ _)) hb2) hb3⟩
 |true=>
 have Bds:=Hq hds'
 have Dds:=Hq (of_decide_eq_true hds')
 clear hds'
 rw[decide_eq_true (by rw[Dop.out,Dek.out,Dts.out,Dds.out])]
 clear Dop Dek Dts Dds
 obtain⟨rk,rs,rx,ry⟩:=rop
 obtain⟨sk,ss,sx,sy⟩:=sop
 obtain⟨rek1,rek2,rek3⟩:=rek
 obtain⟨sek1,sek2,sek3⟩:=sek
 go_enter Tryz.func154,Tryz.ntmps154
 go_wp2_with (first|(go_at_call 199;(with_reducible refine(HT.out _ ?_).mono ?_);(exact pastAlloc (allocB _ _));rintro e w2 ⟨rfl,hb2⟩;have hx1:=blkOld (new21 _ _ _) hb2;have hx2:=blkOld (new2 _ _ _) hb2;have q1:=blkCell hx1 17;have q2:=blkCell hx2 17;clear hx1 hx2;simp at q1 q2;rw[Bts.out])|(go_at_call 200;(with_reducible refine(HD.out _ ?_).mono ?_);(exact joinB (pastAlloc (allocB _ _)) hb2);rintro e w3 ⟨rfl,hb3⟩;rw[Bds.out]))
 go_ret
 exact⟨by simp,joinB (joinB (pastAlloc (allocB _ _)) hb2) hb3⟩
theorem keep_set {w:World}{g b j:Nat}{v:Value}{o:Obj}(h:w.heap[g]? =some o)(hne:g≠b):(w.setCell ⟨b,j,none⟩ v).heap[g]? =some o:=(Below.heap_setCell _ _ _ _ hne).trans h
theorem recR_nilq (r:Rc.Rec)(w:World)(h1:r.txns=[])(h2:r.dirty=[]):RecR w r none 0 none 0:=by
 refine⟨?_,?_,by rw[h1,h2];exact⟨Nat.zero_le _,Nat.zero_le _⟩⟩
 ·rw[h1];exact Reads.none_ _ _ _ _
 ·rw[h2];exact Reads.none_ _ _ _ _
theorem rright_any (r:Rc.Rec)(A B:Option Addr)(c d:Nat)(w:World)(hr:RecR w r A c B d):
 Calls Tryz.prog 102 #[recV r (.slice A r.txns.length c) (.slice B r.dirty.length d)] w fun e w'=>e= .returned (.bool (Rc.rightB r))∧Below w.heap.size w w':=by
 obtain⟨lsn,prev,txn,kind,page,next,nu,⟨ok,os,oo,on⟩,how,root,⟨ek,ep,es⟩,ts,ds⟩:=r
 dsimp only[recV,recA]
 obtain⟨z,hz⟩:=ex (Rc.rightB ⟨lsn,prev,txn,kind,page,next,nu,⟨ok,os,oo,on⟩,how,root,⟨ek,ep,es⟩,ts,ds⟩)
 rw[← hz]
 have HZ:=Hq hz
 clear hz
 obtain⟨w0,hw0⟩:=ex (w.alloc (.cells (rcA lsn prev txn kind page next nu ok os oo on how root ek ep es (.slice A ts.length c) (.slice B ds.length d)) 47))
 have HB0:=Hq (show Below w.heap.size w w0 from by rw[hw0];exact allocB _ _)
 have HX0:=Hq (show w0.heap[w.heap.size]? =some (.cells (rcA lsn prev txn kind page next nu ok os oo on how root ek ep es (.slice A ts.length c) (.slice B ds.length d)) 47 (0,0))from by rw[hw0];exact heap_alloc_new _ _)
 have HRR:=Hq (fun W (hb:Below w.heap.size w W)=>hr.below hb)
 clear hr
 go_enter Tryz.func102,Tryz.ntmps102
 go_upto_region 1 with fail
 rw[← hw0]
 clear hw0
 obtain⟨g,hg⟩:=ex w.heap.size
 rw[← hg]at HX0
 rw[← hg]
 clear hg
 have hcg:=blkCell HX0.out
 have H1:=Hq (fun W=>rnumber_any lsn W)
 have H2:=Hq (fun W=>rnumber_any prev W)
 have H3:=Hq (fun W=>rnumber_any txn W)
 have HNO:=Hq (show ¬ (Rc.num lsn∧Rc.num prev∧Rc.num txn)→z=false from fun h=>HZ.out.trans (Rc.rightB_no fun hr=>h (Rc.r_nums hr)))
 by_cases h1:Rc.num lsn
 rotate_left
 ·rw[decide_eq_false h1]at H1
  have HZ2:=Hq (HNO.out (fun h=>h1 h.1))
  clear h1
  go_wp2_with (go_at_call 152;(with_reducible refine(H1.out _).mono ?_);rintro e w1 ⟨rfl,hb1⟩;have hc1:=blkCell (blkOld HX0.out hb1))
  go_ret
  exact⟨by rw[HZ2.out];rfl,joinB HB0.out hb1⟩
 by_cases h2:Rc.num prev
 rotate_left
 ·rw[decide_eq_true h1]at H1
  rw[decide_eq_false h2]at H2
  have HZ2:=Hq (HNO.out (fun h=>h2 h.2.1))
  clear h1 h2
  go_wp2_with (first|(go_at_call 152;(with_reducible refine(H1.out _).mono ?_);rintro e w1 ⟨rfl,hb1⟩;have hc1:=blkCell (blkOld HX0.out hb1))|(go_at_call 152;(with_reducible refine(H2.out _).mono ?_);rintro e w2 ⟨rfl,hb2⟩;have hc2:=blkCell (blkOld (blkOld HX0.out hb1) hb2)))
  go_ret
  exact⟨by rw[HZ2.out];rfl,joinB HB0.out (joinB hb1 hb2)⟩
 by_cases h3:Rc.num txn
 rotate_left
 ·rw[decide_eq_true h1]at H1
  rw[decide_eq_true h2]at H2
  rw[decide_eq_false h3]at H3
  have HZ2:=Hq (HNO.out (fun h=>h3 h.2.2))
  clear h1 h2 h3
  go_wp2_with (first|(go_at_call 152;(with_reducible refine(H1.out _).mono ?_);rintro e w1 ⟨rfl,hb1⟩;have hc1:=blkCell (blkOld HX0.out hb1))|(go_at_call 152;(with_reducible refine(H2.out _).mono ?_);rintro e w2 ⟨rfl,hb2⟩;have hc2:=blkCell (blkOld (blkOld HX0.out hb1) hb2))|(go_at_call 152;(with_reducible refine(H3.out _).mono ?_);rintro e w3 ⟨rfl,hb3⟩))
  go_ret
  exact⟨by rw[HZ2.out];rfl,joinB HB0.out (joinB (joinB hb1 hb2) hb3)⟩
 rw[decide_eq_true h1]at H1
 rw[decide_eq_true h2]at H2
 rw[decide_eq_true h3]at H3
 have HN3:=Hq (And.intro h1 (And.intro h2 h3))
 clear h1 h2 h3 HNO
 have HBA:=Hq (fun W=>rbare_any ⟨lsn,prev,txn,kind,page,next,nu,⟨ok,os,oo,on⟩,how,root,⟨ek,ep,es⟩,ts,ds⟩ (.slice A ts.length c) (.slice B ds.length d) W)
 dsimp only[recV,recA,Rc.bare,Rc.noOp,Rc.noKey]at HBA
 go_upto_region 4 with(first|(go_at_call 152;(with_reducible refine(H1.out _).mono ?_);rintro e w1 ⟨rfl,hb1⟩;have hc1:=blkCell (blkOld HX0.out hb1))|(go_at_call 152;(with_reducible refine(H2.out _).mono ?_);rintro e w2 ⟨rfl,hb2⟩;have hc2:=blkCell (blkOld (blkOld HX0.out hb1) hb2))|(go_at_call 152;(with_reducible refine(H3.out _).mono ?_);rintro e w3 ⟨rfl,hb3⟩)|(with_reducible refine lL (blkOld HX0.out (joinB (joinB hb1 hb2) hb3)) Tryz.underlying47 ?_)|(go_at_call 153;(with_reducible refine(HBA.out _).mono ?_);rintro e w4 ⟨rfl,hb4⟩)|(with_reducible refine sN (rcA lsn prev txn kind 0 0 0 0 0 ⟨#[]⟩ ⟨#[]⟩ 0 0 ⟨#[]⟩ 0 0 (.slice none 0 0) (.slice none 0 0)) ?_))
 have HB5:=Hq (joinB (joinB (joinB (joinB HB0.out hb1) hb2) hb3) (pastAlloc (o:=.cells (rcA lsn prev txn kind 0 0 0 0 0 ⟨#[]⟩ ⟨#[]⟩ 0 0 ⟨#[]⟩ 0 0 (.slice none 0 0) (.slice none 0 0)) 47) hb4))
 have HX5:=Hq (blkOld HX0.out (joinB (joinB (joinB hb1 hb2) hb3) (pastAlloc (o:=.cells (rcA lsn prev txn kind 0 0 0 0 0 ⟨#[]⟩ ⟨#[]⟩ 0 0 ⟨#[]⟩ 0 0 (.slice none 0 0) (.slice none 0 0)) 47) hb4)))
 have HG5:=Hq (heap_alloc_new w4 (.cells (rcA lsn prev txn kind 0 0 0 0 0 ⟨#[]⟩ ⟨#[]⟩ 0 0 ⟨#[]⟩ 0 0 (.slice none 0 0) (.slice none 0 0)) 47))
 have hgx:g<w4.heap.size:=Nat.lt_of_lt_of_le (heapLt HX0.out) (joinB (joinB (joinB hb1 hb2) hb3) hb4).size
 have hgw:w.heap.size≤w4.heap.size:=(joinB (joinB (joinB (joinB HB0.out hb1) hb2) hb3) hb4).size
 obtain⟨gx,hge⟩:=ex w4.heap.size
 obtain⟨W5,hW5⟩:=ex (w4.alloc (.cells (rcA lsn prev txn kind 0 0 0 0 0 ⟨#[]⟩ ⟨#[]⟩ 0 0 ⟨#[]⟩ 0 0 (.slice none 0 0) (.slice none 0 0)) 47))
 rw[← hge,← hW5]at HG5
 rw[← hW5]at HB5 HX5
 rw[← hge]at hgx hgw
 rw[← hge,← hW5]
 clear hge hW5 hb1 hb2 hb3 hb4 hc1 hc2 hcg HBA H1 H2 H3 HX0
 by_cases hk9:1≤kind∧kind≤9
 rotate_left
 ·have HZ2:=Hq (show z=false from HZ.out.trans (Rc.rightB_no (Rc.r_other hk9)))
  have k1:(kind==1)=false:=by simp;omega
  have k2:(kind==2)=false:=by simp;omega
  have k3:(kind==3)=false:=by simp;omega
  have k4:(kind==4)=false:=by simp;omega
  have k5:(kind==5)=false:=by simp;omega
  have k6:(kind==6)=false:=by simp;omega
  have k7:(kind==7)=false:=by simp;omega
  have k8:(kind==8)=false:=by simp;omega
  have k9:(kind==9)=false:=by simp;omega
  clear hk9
  have hcg:=blkCell HX5.out
  go_wp2_with fail
  go_ret
  exact⟨by rw[HZ2.out];rfl,HB5.out⟩
 have h9:(kind=1∨kind=5∨kind=6∨kind=7)∨kind=2∨kind=3∨kind=4∨kind=8∨kind=9:=by omega
 clear hk9
 rcases h9 with h9|rfl|rfl|rfl|rfl|rfl
 ·rcases h9 with rfl|rfl|rfl|rfl
  ·obtain⟨h1,h2,h3⟩:=HN3.out
   have HIF:=Hq (show z=decide ((⟨lsn,prev,txn,1,0,0,0,⟨0,0,⟨#[]⟩,⟨#[]⟩⟩,0,0,⟨⟨#[]⟩,0,0⟩,[],[]⟩:Rc.Rec)=⟨lsn,prev,txn,1,page,next,nu,⟨ok,os,oo,on⟩,how,root,⟨ek,ep,es⟩,ts,ds⟩)from HZ.out.trans (Rc.rightB_of ((Rc.r_small (by omega) ⟨h1,h2,h3⟩).trans decide_eq_true_iff.symm)))
   clear h1 h2 h3
   have hcg:=blkCell HX5.out
   have HX6:=HX5
   have HG6:=HG5
   have HB6:=HB5
   obtain⟨W6,hW6⟩:=ex W5
   rw[← hW6]at HX6 HG6 HB6
   rw[← hW6]
   clear hW6 HX5 HG5 HB5 hcg
   have hcg:=blkCell HX6.out
   have HSA:=Hq (rsame_any (⟨lsn,prev,txn,1,0,0,0,⟨0,0,⟨#[]⟩,⟨#[]⟩⟩,0,0,⟨⟨#[]⟩,0,0⟩,[],[]⟩:Rc.Rec) ⟨lsn,prev,txn,1,page,next,nu,⟨ok,os,oo,on⟩,how,root,⟨ek,ep,es⟩,ts,ds⟩ none A none B 0 c 0 d W6 (recR_nilq _ _ rfl rfl) (HRR.out _ HB6.out))
   dsimp only[recV,recA,List.length_nil]at HSA
   generalize decide ((⟨lsn,prev,txn,1,0,0,0,⟨0,0,⟨#[]⟩,⟨#[]⟩⟩,0,0,⟨⟨#[]⟩,0,0⟩,[],[]⟩:Rc.Rec)=⟨lsn,prev,txn,1,page,next,nu,⟨ok,os,oo,on⟩,how,root,⟨ek,ep,es⟩,ts,ds⟩)=q at HSA HIF
   go_wp2_with (first|(with_reducible refine lL HG6.out Tryz.underlying47 ?_)|(with_reducible refine lL HX6.out Tryz.underlying47 ?_)|(go_at_call 154;(with_reducible refine HSA.out.mono ?_);rintro e w7 ⟨rfl,hb7⟩;have hc7:=blkCell (blkOld HX6.out hb7);have B7:=joinB HB6.out hb7))
   go_ret
   exact⟨by rw[HIF.out];rfl,B7⟩
  ·obtain⟨h1,h2,h3⟩:=HN3.out
   have HIF:=Hq (show z=decide ((⟨lsn,prev,txn,5,0,0,0,⟨0,0,⟨#[]⟩,⟨#[]⟩⟩,0,0,⟨⟨#[]⟩,0,0⟩,[],[]⟩:Rc.Rec)=⟨lsn,prev,txn,5,page,next,nu,⟨ok,os,oo,on⟩,how,root,⟨ek,ep,es⟩,ts,ds⟩)from HZ.out.trans (Rc.rightB_of ((Rc.r_small (by omega) ⟨h1,h2,h3⟩).trans decide_eq_true_iff.symm)))
   clear h1 h2 h3
   have hcg:=blkCell HX5.out
   have HX6:=HX5
   have HG6:=HG5
   have HB6:=HB5
   obtain⟨W6,hW6⟩:=ex W5
   rw[← hW6]at HX6 HG6 HB6
   rw[← hW6]
   clear hW6 HX5 HG5 HB5 hcg
   have hcg:=blkCell HX6.out
   have HSA:=Hq (rsame_any (⟨lsn,prev,txn,5,0,0,0,⟨0,0,⟨#[]⟩,⟨#[]⟩⟩,0,0,⟨⟨#[]⟩,0,0⟩,[],[]⟩:Rc.Rec) ⟨lsn,prev,txn,5,page,next,nu,⟨ok,os,oo,on⟩,how,root,⟨ek,ep,es⟩,ts,ds⟩ none A none B 0 c 0 d W6 (recR_nilq _ _ rfl rfl) (HRR.out _ HB6.out))
   dsimp only[recV,recA,List.length_nil]at HSA
   generalize decide ((⟨lsn,prev,txn,5,0,0,0,⟨0,0,⟨#[]⟩,⟨#[]⟩⟩,0,0,⟨⟨#[]⟩,0,0⟩,[],[]⟩:Rc.Rec)=⟨lsn,prev,txn,5,page,next,nu,⟨ok,os,oo,on⟩,how,root,⟨ek,ep,es⟩,ts,ds⟩)=q at HSA HIF
   go_wp2_with (first|(with_reducible refine lL HG6.out Tryz.underlying47 ?_)|(with_reducible refine lL HX6.out Tryz.underlying47 ?_)|(go_at_call 154;(with_reducible refine HSA.out.mono ?_);rintro e w7 ⟨rfl,hb7⟩;have hc7:=blkCell (blkOld HX6.out hb7);have B7:=joinB HB6.out hb7))
   go_ret
   exact⟨by rw[HIF.out];rfl,B7⟩
  ·obtain⟨h1,h2,h3⟩:=HN3.out
   have HIF:=Hq (show z=decide ((⟨lsn,prev,txn,6,0,0,0,⟨0,0,⟨#[]⟩,⟨#[]⟩⟩,0,0,⟨⟨#[]⟩,0,0⟩,[],[]⟩:Rc.Rec)=⟨lsn,prev,txn,6,page,next,nu,⟨ok,os,oo,on⟩,how,root,⟨ek,ep,es⟩,ts,ds⟩)from HZ.out.trans (Rc.rightB_of ((Rc.r_small (by omega) ⟨h1,h2,h3⟩).trans decide_eq_true_iff.symm)))
   clear h1 h2 h3
   have hcg:=blkCell HX5.out
   have HX6:=HX5
   have HG6:=HG5
   have HB6:=HB5
   obtain⟨W6,hW6⟩:=ex W5
   rw[← hW6]at HX6 HG6 HB6
   rw[← hW6]
   clear hW6 HX5 HG5 HB5 hcg
   have hcg:=blkCell HX6.out
   have HSA:=Hq (rsame_any (⟨lsn,prev,txn,6,0,0,0,⟨0,0,⟨#[]⟩,⟨#[]⟩⟩,0,0,⟨⟨#[]⟩,0,0⟩,[],[]⟩:Rc.Rec) ⟨lsn,prev,txn,6,page,next,nu,⟨ok,os,oo,on⟩,how,root,⟨ek,ep,es⟩,ts,ds⟩ none A none B 0 c 0 d W6 (recR_nilq _ _ rfl rfl) (HRR.out _ HB6.out))
   dsimp only[recV,recA,List.length_nil]at HSA
   generalize decide ((⟨lsn,prev,txn,6,0,0,0,⟨0,0,⟨#[]⟩,⟨#[]⟩⟩,0,0,⟨⟨#[]⟩,0,0⟩,[],[]⟩:Rc.Rec)=⟨lsn,prev,txn,6,page,next,nu,⟨ok,os,oo,on⟩,how,root,⟨ek,ep,es⟩,ts,ds⟩)=q at HSA HIF
   go_wp2_with (first|(with_reducible refine lL HG6.out Tryz.underlying47 ?_)|(with_reducible refine lL HX6.out Tryz.underlying47 ?_)|(go_at_call 154;(with_reducible refine HSA.out.mono ?_);rintro e w7 ⟨rfl,hb7⟩;have hc7:=blkCell (blkOld HX6.out hb7);have B7:=joinB HB6.out hb7))
   go_ret
   exact⟨by rw[HIF.out];rfl,B7⟩
  ·obtain⟨h1,h2,h3⟩:=HN3.out
   have HIF:=Hq (show z=decide ((⟨lsn,prev,txn,7,0,0,0,⟨0,0,⟨#[]⟩,⟨#[]⟩⟩,0,0,⟨⟨#[]⟩,0,0⟩,[],[]⟩:Rc.Rec)=⟨lsn,prev,txn,7,page,next,nu,⟨ok,os,oo,on⟩,how,root,⟨ek,ep,es⟩,ts,ds⟩)from HZ.out.trans (Rc.rightB_of ((Rc.r_small (by omega) ⟨h1,h2,h3⟩).trans decide_eq_true_iff.symm)))
   clear h1 h2 h3
   have hcg:=blkCell HX5.out
   have HX6:=HX5
   have HG6:=HG5
   have HB6:=HB5
   obtain⟨W6,hW6⟩:=ex W5
   rw[← hW6]at HX6 HG6 HB6
   rw[← hW6]
   clear hW6 HX5 HG5 HB5 hcg
   have hcg:=blkCell HX6.out
   have HSA:=Hq (rsame_any (⟨lsn,prev,txn,7,0,0,0,⟨0,0,⟨#[]⟩,⟨#[]⟩⟩,0,0,⟨⟨#[]⟩,0,0⟩,[],[]⟩:Rc.Rec) ⟨lsn,prev,txn,7,page,next,nu,⟨ok,os,oo,on⟩,how,root,⟨ek,ep,es⟩,ts,ds⟩ none A none B 0 c 0 d W6 (recR_nilq _ _ rfl rfl) (HRR.out _ HB6.out))
   dsimp only[recV,recA,List.length_nil]at HSA
   generalize decide ((⟨lsn,prev,txn,7,0,0,0,⟨0,0,⟨#[]⟩,⟨#[]⟩⟩,0,0,⟨⟨#[]⟩,0,0⟩,[],[]⟩:Rc.Rec)=⟨lsn,prev,txn,7,page,next,nu,⟨ok,os,oo,on⟩,how,root,⟨ek,ep,es⟩,ts,ds⟩)=q at HSA HIF
   go_wp2_with (first|(with_reducible refine lL HG6.out Tryz.underlying47 ?_)|(with_reducible refine lL HX6.out Tryz.underlying47 ?_)|(go_at_call 154;(with_reducible refine HSA.out.mono ?_);rintro e w7 ⟨rfl,hb7⟩;have hc7:=blkCell (blkOld HX6.out hb7);have B7:=joinB HB6.out hb7))
   go_ret
   exact⟨by rw[HIF.out];rfl,B7⟩
 ·obtain⟨h1,h2,h3⟩:=HN3.out
  have HIF:=Hq (show z=(decide ((⟨lsn,prev,txn,2,page,0,0,⟨ok,os,oo,on⟩,how,root,⟨ek,ep,es⟩,[],[]⟩:Rc.Rec)=⟨lsn,prev,txn,2,page,next,nu,⟨ok,os,oo,on⟩,how,root,⟨ek,ep,es⟩,ts,ds⟩)&&(decide (Rc.pg page∧Rc.opR ⟨ok,os,oo,on⟩∧Rc.treeR ⟨lsn,prev,txn,2,page,next,nu,⟨ok,os,oo,on⟩,how,root,⟨ek,ep,es⟩,ts,ds⟩)))from HZ.out.trans (Rc.rightB_of ((Rc.r_2 ⟨h1,h2,h3⟩).trans (by simp only[Bool.and_eq_true,decide_eq_true_eq];(try exact Iff.rfl)))))
  clear h1 h2 h3
  have hcg:=blkCell HX5.out
  go_upto_region 11 with fail
  have X0:=blkOld HX5.out (Below.refl _ W5).drew
  have G0:=blkOld HG5.out (Below.refl _ W5).drew
  have BB0:=joinB HB5.out (Below.refl _ W5).drew
  refine rgH (S:=(fun u=>u.heap[g]? =some (.cells (rcA lsn prev txn 2 page next nu ok os oo on how root ek ep es (.slice A ts.length c) (.slice B ds.length d)) 47 (0,0)))) (fun hHeld=>?_)
  generalize W5.drew=V0 at hHeld X0 G0 BB0 ⊢
  refine tkP 0 ?_;refine tkP 1 ?_;refine tkP 2 ?_;refine tkP 3 ?_;refine tkP 4 ?_;refine tkP 5 ?_;refine tkP 6 ?_;refine tkP 7 ?_;refine tkP 8 ?_;refine tkP 9 ?_;refine tkP 10 ?_
  refine rdP 11 fun K hK=>?_
  have hcx0:=blkCell G0
  have hzx0:=blkFrozen G0
  go_simp
  have X1:=(keep_set (b:=gx) (j:=4) (v:=.int .i64 page) X0 (by omega))
  have G1:(V0.setCell ⟨gx,4,none⟩ (.int .i64 page)).heap[gx]? =some (.cells (rcA lsn prev txn 2 page 0 0 0 0 ⟨#[]⟩ ⟨#[]⟩ 0 0 ⟨#[]⟩ 0 0 (.slice none 0 0) (.slice none 0 0)) 47 (0,0)):=(by have h:=(blkSet 4 G0 (.int .i64 page));simpa using h)
  try clear hSn
  have hSn:=X1
  refine hKo hK (fun hHeld=>?_)
  clear hK K
  refine tkP 12 ?_
  refine rdP 13 fun K hK=>?_
  have hcx1:=blkCell G1
  have hzx1:=blkFrozen G1
  go_simp
  have X2:=(keep_set (b:=gx) (j:=10) (v:=.string on) (keep_set (b:=gx) (j:=9) (v:=.string oo) (keep_set (b:=gx) (j:=8) (v:=.int .i64 os) (keep_set (b:=gx) (j:=7) (v:=.int .i64 ok) X1 (by omega)) (by omega)) (by omega)) (by omega))
  have G2:(((((V0.setCell ⟨gx,4,none⟩ (.int .i64 page)).setCell ⟨gx,7,none⟩ (.int .i64 ok)).setCell ⟨gx,8,none⟩ (.int .i64 os)).setCell ⟨gx,9,none⟩ (.string oo)).setCell ⟨gx,10,none⟩ (.string on)).heap[gx]? =some (.cells (rcA lsn prev txn 2 page 0 0 ok os oo on 0 0 ⟨#[]⟩ 0 0 (.slice none 0 0) (.slice none 0 0)) 47 (0,0)):=(by have h:=(blkSet 10 (blkSet 9 (blkSet 8 (blkSet 7 G1 (.int .i64 ok)) (.int .i64 os)) (.string oo)) (.string on));simpa using h)
  try clear hSn
  have hSn:=X2
  refine hKo hK (fun hHeld=>?_)
  clear hK K
  refine tkP 14 ?_
  refine rdP 15 fun K hK=>?_
  have hcx2:=blkCell G2
  have hzx2:=blkFrozen G2
  go_simp
  have X3:=(keep_set (b:=gx) (j:=11) (v:=.int .i64 how) X2 (by omega))
  have G3:((((((V0.setCell ⟨gx,4,none⟩ (.int .i64 page)).setCell ⟨gx,7,none⟩ (.int .i64 ok)).setCell ⟨gx,8,none⟩ (.int .i64 os)).setCell ⟨gx,9,none⟩ (.string oo)).setCell ⟨gx,10,none⟩ (.string on)).setCell ⟨gx,11,none⟩ (.int .i64 how)).heap[gx]? =some (.cells (rcA lsn prev txn 2 page 0 0 ok os oo on how 0 ⟨#[]⟩ 0 0 (.slice none 0 0) (.slice none 0 0)) 47 (0,0)):=(by have h:=(blkSet 11 G2 (.int .i64 how));simpa using h)
  try clear hSn
  have hSn:=X3
  refine hKo hK (fun hHeld=>?_)
  clear hK K
  refine tkP 16 ?_
  refine rdP 17 fun K hK=>?_
  have hcx3:=blkCell G3
  have hzx3:=blkFrozen G3
  go_simp
  have X4:=(keep_set (b:=gx) (j:=12) (v:=.int .i64 root) X3 (by omega))
  have G4:(((((((V0.setCell ⟨gx,4,none⟩ (.int .i64 page)).setCell ⟨gx,7,none⟩ (.int .i64 ok)).setCell ⟨gx,8,none⟩ (.int .i64 os)).setCell ⟨gx,9,none⟩ (.string oo)).setCell ⟨gx,10,none⟩ (.string on)).setCell ⟨gx,11,none⟩ (.int .i64 how)).setCell ⟨gx,12,none⟩ (.int .i64 root)).heap[gx]? =some (.cells (rcA lsn prev txn 2 page 0 0 ok os oo on how root ⟨#[]⟩ 0 0 (.slice none 0 0) (.slice none 0 0)) 47 (0,0)):=(by have h:=(blkSet 12 G3 (.int .i64 root));simpa using h)
  try clear hSn
  have hSn:=X4
  refine hKo hK (fun hHeld=>?_)
  clear hK K
  refine tkP 18 ?_
  refine rdP 19 fun K hK=>?_
  have hcx4:=blkCell G4
  have hzx4:=blkFrozen G4
  go_simp
  have X5:=(keep_set (b:=gx) (j:=15) (v:=.int .i64 es) (keep_set (b:=gx) (j:=14) (v:=.int .i64 ep) (keep_set (b:=gx) (j:=13) (v:=.string ek) X4 (by omega)) (by omega)) (by omega))
  have G5:((((((((((V0.setCell ⟨gx,4,none⟩ (.int .i64 page)).setCell ⟨gx,7,none⟩ (.int .i64 ok)).setCell ⟨gx,8,none⟩ (.int .i64 os)).setCell ⟨gx,9,none⟩ (.string oo)).setCell ⟨gx,10,none⟩ (.string on)).setCell ⟨gx,11,none⟩ (.int .i64 how)).setCell ⟨gx,12,none⟩ (.int .i64 root)).setCell ⟨gx,13,none⟩ (.string ek)).setCell ⟨gx,14,none⟩ (.int .i64 ep)).setCell ⟨gx,15,none⟩ (.int .i64 es)).heap[gx]? =some (.cells (rcA lsn prev txn 2 page 0 0 ok os oo on how root ek ep es (.slice none 0 0) (.slice none 0 0)) 47 (0,0)):=(by have h:=(blkSet 15 (blkSet 14 (blkSet 13 G4 (.string ek)) (.int .i64 ep)) (.int .i64 es));simpa using h)
  try clear hSn
  have hSn:=X5
  refine hKo hK (fun hHeld=>?_)
  clear hK K
  refine wpAnyH_done Kr ?_ _
  clear hHeld hSn
  have HX6:=Hq (show((((((((((V0.setCell ⟨gx,4,none⟩ (.int .i64 page)).setCell ⟨gx,7,none⟩ (.int .i64 ok)).setCell ⟨gx,8,none⟩ (.int .i64 os)).setCell ⟨gx,9,none⟩ (.string oo)).setCell ⟨gx,10,none⟩ (.string on)).setCell ⟨gx,11,none⟩ (.int .i64 how)).setCell ⟨gx,12,none⟩ (.int .i64 root)).setCell ⟨gx,13,none⟩ (.string ek)).setCell ⟨gx,14,none⟩ (.int .i64 ep)).setCell ⟨gx,15,none⟩ (.int .i64 es)).heap[g]? =some (.cells (rcA lsn prev txn 2 page next nu ok os oo on how root ek ep es (.slice A ts.length c) (.slice B ds.length d)) 47 (0,0))from X5)
  have HG6:=Hq (show((((((((((V0.setCell ⟨gx,4,none⟩ (.int .i64 page)).setCell ⟨gx,7,none⟩ (.int .i64 ok)).setCell ⟨gx,8,none⟩ (.int .i64 os)).setCell ⟨gx,9,none⟩ (.string oo)).setCell ⟨gx,10,none⟩ (.string on)).setCell ⟨gx,11,none⟩ (.int .i64 how)).setCell ⟨gx,12,none⟩ (.int .i64 root)).setCell ⟨gx,13,none⟩ (.string ek)).setCell ⟨gx,14,none⟩ (.int .i64 ep)).setCell ⟨gx,15,none⟩ (.int .i64 es)).heap[gx]? =some (.cells (rcA lsn prev txn 2 page 0 0 ok os oo on how root ek ep es (.slice none 0 0) (.slice none 0 0)) 47 (0,0))from by have h:=G5;simpa using h)
  have HB6:=Hq (show Below w.heap.size w ((((((((((V0.setCell ⟨gx,4,none⟩ (.int .i64 page)).setCell ⟨gx,7,none⟩ (.int .i64 ok)).setCell ⟨gx,8,none⟩ (.int .i64 os)).setCell ⟨gx,9,none⟩ (.string oo)).setCell ⟨gx,10,none⟩ (.string on)).setCell ⟨gx,11,none⟩ (.int .i64 how)).setCell ⟨gx,12,none⟩ (.int .i64 root)).setCell ⟨gx,13,none⟩ (.string ek)).setCell ⟨gx,14,none⟩ (.int .i64 ep)).setCell ⟨gx,15,none⟩ (.int .i64 es))from((((((((((BB0.setCell (p:=⟨gx,4,none⟩) (by show _≤gx;omega) (.int .i64 page)).setCell (p:=⟨gx,7,none⟩) (by show _≤gx;omega) (.int .i64 ok)).setCell (p:=⟨gx,8,none⟩) (by show _≤gx;omega) (.int .i64 os)).setCell (p:=⟨gx,9,none⟩) (by show _≤gx;omega) (.string oo)).setCell (p:=⟨gx,10,none⟩) (by show _≤gx;omega) (.string on)).setCell (p:=⟨gx,11,none⟩) (by show _≤gx;omega) (.int .i64 how)).setCell (p:=⟨gx,12,none⟩) (by show _≤gx;omega) (.int .i64 root)).setCell (p:=⟨gx,13,none⟩) (by show _≤gx;omega) (.string ek)).setCell (p:=⟨gx,14,none⟩) (by show _≤gx;omega) (.int .i64 ep)).setCell (p:=⟨gx,15,none⟩) (by show _≤gx;omega) (.int .i64 es)))
  obtain⟨W6,hW6⟩:=ex ((((((((((V0.setCell ⟨gx,4,none⟩ (.int .i64 page)).setCell ⟨gx,7,none⟩ (.int .i64 ok)).setCell ⟨gx,8,none⟩ (.int .i64 os)).setCell ⟨gx,9,none⟩ (.string oo)).setCell ⟨gx,10,none⟩ (.string on)).setCell ⟨gx,11,none⟩ (.int .i64 how)).setCell ⟨gx,12,none⟩ (.int .i64 root)).setCell ⟨gx,13,none⟩ (.string ek)).setCell ⟨gx,14,none⟩ (.int .i64 ep)).setCell ⟨gx,15,none⟩ (.int .i64 es))
  rw[← hW6]at HX6 HG6 HB6
  rw[← hW6]
  clear hW6 HX5 HG5 HB5 hcg X0 G0 BB0 X1 G1 hcx0 hzx0 X2 G2 hcx1 hzx1 X3 G3 hcx2 hzx2 X4 G4 hcx3 hzx3 X5 G5 hcx4 hzx4
  have hcg:=blkCell HX6.out
  have HSA:=Hq (rsame_any (⟨lsn,prev,txn,2,page,0,0,⟨ok,os,oo,on⟩,how,root,⟨ek,ep,es⟩,[],[]⟩:Rc.Rec) ⟨lsn,prev,txn,2,page,next,nu,⟨ok,os,oo,on⟩,how,root,⟨ek,ep,es⟩,ts,ds⟩ none A none B 0 c 0 d W6 (recR_nilq _ _ rfl rfl) (HRR.out _ HB6.out))
  dsimp only[recV,recA,List.length_nil]at HSA
  generalize decide ((⟨lsn,prev,txn,2,page,0,0,⟨ok,os,oo,on⟩,how,root,⟨ek,ep,es⟩,[],[]⟩:Rc.Rec)=⟨lsn,prev,txn,2,page,next,nu,⟨ok,os,oo,on⟩,how,root,⟨ek,ep,es⟩,ts,ds⟩)=q at HSA HIF
  cases q with
  |false=>
   have HZ2:=Hq (show z=false from HIF.out.trans (Bool.false_and _))
   go_wp2_with (first|(with_reducible refine lL HG6.out Tryz.underlying47 ?_)|(with_reducible refine lL HX6.out Tryz.underlying47 ?_)|(go_at_call 154;(with_reducible refine HSA.out.mono ?_);rintro e w7 ⟨rfl,hb7⟩;have hc7:=blkCell (blkOld HX6.out hb7);have B7:=joinB HB6.out hb7))
   go_ret
   exact⟨by rw[HZ2.out];rfl,B7⟩
  |true=>
   have HIF0:=Hq (HIF.out.trans (Bool.true_and _))
   clear HIF
   have HCH:=Hq (fun W=>rchange_any ⟨lsn,prev,txn,2,page,next,nu,⟨ok,os,oo,on⟩,how,root,⟨ek,ep,es⟩,ts,ds⟩ (.slice A ts.length c) (.slice B ds.length d) W)
   (try dsimp only[recV,recA,opV]at HCH)
   generalize decide (Rc.pg page∧Rc.opR ⟨ok,os,oo,on⟩∧Rc.treeR ⟨lsn,prev,txn,2,page,next,nu,⟨ok,os,oo,on⟩,how,root,⟨ek,ep,es⟩,ts,ds⟩)=p0 at HCH HIF0
   go_wp2_with (first|(with_reducible refine lL HG6.out Tryz.underlying47 ?_)|(with_reducible refine lL HX6.out Tryz.underlying47 ?_)|(go_at_call 154;(with_reducible refine HSA.out.mono ?_);rintro e w7 ⟨rfl,hb7⟩;have hc7:=blkCell (blkOld HX6.out hb7);have B7:=joinB HB6.out hb7)|(with_reducible refine lL (blkOld HX6.out hb7) Tryz.underlying47 ?_)|(go_at_call 155;(with_reducible refine(HCH.out _).mono ?_);rintro e w8 ⟨rfl,hb8⟩;have hc8:=blkCell (blkOld (blkOld HX6.out hb7) hb8);have B8:=joinB B7 hb8))
   go_ret
   exact⟨by rw[HIF0.out];simp,B8⟩
 ·obtain⟨h1,h2,h3⟩:=HN3.out
  have HIF:=Hq (show z=(decide ((⟨lsn,prev,txn,3,page,next,0,⟨ok,os,oo,on⟩,0,0,⟨⟨#[]⟩,0,0⟩,[],[]⟩:Rc.Rec)=⟨lsn,prev,txn,3,page,next,nu,⟨ok,os,oo,on⟩,how,root,⟨ek,ep,es⟩,ts,ds⟩)&&(decide (Rc.pg page)&&(decide (Rc.opR ⟨ok,os,oo,on⟩)&&(decide (Rc.num next)))))from HZ.out.trans (Rc.rightB_of ((Rc.r_3 ⟨h1,h2,h3⟩).trans (by simp only[Bool.and_eq_true,decide_eq_true_eq];(try exact Iff.rfl)))))
  clear h1 h2 h3
  have hcg:=blkCell HX5.out
  go_upto_region 14 with fail
  have X0:=blkOld HX5.out (Below.refl _ W5).drew
  have G0:=blkOld HG5.out (Below.refl _ W5).drew
  have BB0:=joinB HB5.out (Below.refl _ W5).drew
  refine rgH (S:=(fun u=>u.heap[g]? =some (.cells (rcA lsn prev txn 3 page next nu ok os oo on how root ek ep es (.slice A ts.length c) (.slice B ds.length d)) 47 (0,0)))) (fun hHeld=>?_)
  generalize W5.drew=V0 at hHeld X0 G0 BB0 ⊢
  refine tkP 0 ?_;refine tkP 1 ?_;refine tkP 2 ?_;refine tkP 3 ?_;refine tkP 4 ?_;refine tkP 5 ?_;refine tkP 6 ?_
  refine rdP 7 fun K hK=>?_
  have hcx0:=blkCell G0
  have hzx0:=blkFrozen G0
  go_simp
  have X1:=(keep_set (b:=gx) (j:=4) (v:=.int .i64 page) X0 (by omega))
  have G1:(V0.setCell ⟨gx,4,none⟩ (.int .i64 page)).heap[gx]? =some (.cells (rcA lsn prev txn 3 page 0 0 0 0 ⟨#[]⟩ ⟨#[]⟩ 0 0 ⟨#[]⟩ 0 0 (.slice none 0 0) (.slice none 0 0)) 47 (0,0)):=(by have h:=(blkSet 4 G0 (.int .i64 page));simpa using h)
  try clear hSn
  have hSn:=X1
  refine hKo hK (fun hHeld=>?_)
  clear hK K
  refine tkP 8 ?_
  refine rdP 9 fun K hK=>?_
  have hcx1:=blkCell G1
  have hzx1:=blkFrozen G1
  go_simp
  have X2:=(keep_set (b:=gx) (j:=10) (v:=.string on) (keep_set (b:=gx) (j:=9) (v:=.string oo) (keep_set (b:=gx) (j:=8) (v:=.int .i64 os) (keep_set (b:=gx) (j:=7) (v:=.int .i64 ok) X1 (by omega)) (by omega)) (by omega)) (by omega))
  have G2:(((((V0.setCell ⟨gx,4,none⟩ (.int .i64 page)).setCell ⟨gx,7,none⟩ (.int .i64 ok)).setCell ⟨gx,8,none⟩ (.int .i64 os)).setCell ⟨gx,9,none⟩ (.string oo)).setCell ⟨gx,10,none⟩ (.string on)).heap[gx]? =some (.cells (rcA lsn prev txn 3 page 0 0 ok os oo on 0 0 ⟨#[]⟩ 0 0 (.slice none 0 0) (.slice none 0 0)) 47 (0,0)):=(by have h:=(blkSet 10 (blkSet 9 (blkSet 8 (blkSet 7 G1 (.int .i64 ok)) (.int .i64 os)) (.string oo)) (.string on));simpa using h)
  try clear hSn
  have hSn:=X2
  refine hKo hK (fun hHeld=>?_)
  clear hK K
  refine tkP 10 ?_
  refine rdP 11 fun K hK=>?_
  have hcx2:=blkCell G2
  have hzx2:=blkFrozen G2
  go_simp
  have X3:=(keep_set (b:=gx) (j:=5) (v:=.int .i64 next) X2 (by omega))
  have G3:((((((V0.setCell ⟨gx,4,none⟩ (.int .i64 page)).setCell ⟨gx,7,none⟩ (.int .i64 ok)).setCell ⟨gx,8,none⟩ (.int .i64 os)).setCell ⟨gx,9,none⟩ (.string oo)).setCell ⟨gx,10,none⟩ (.string on)).setCell ⟨gx,5,none⟩ (.int .i64 next)).heap[gx]? =some (.cells (rcA lsn prev txn 3 page next 0 ok os oo on 0 0 ⟨#[]⟩ 0 0 (.slice none 0 0) (.slice none 0 0)) 47 (0,0)):=(by have h:=(blkSet 5 G2 (.int .i64 next));simpa using h)
  try clear hSn
  have hSn:=X3
  refine hKo hK (fun hHeld=>?_)
  clear hK K
  refine wpAnyH_done Kr ?_ _
  clear hHeld hSn
  have HX6:=Hq (show((((((V0.setCell ⟨gx,4,none⟩ (.int .i64 page)).setCell ⟨gx,7,none⟩ (.int .i64 ok)).setCell ⟨gx,8,none⟩ (.int .i64 os)).setCell ⟨gx,9,none⟩ (.string oo)).setCell ⟨gx,10,none⟩ (.string on)).setCell ⟨gx,5,none⟩ (.int .i64 next)).heap[g]? =some (.cells (rcA lsn prev txn 3 page next nu ok os oo on how root ek ep es (.slice A ts.length c) (.slice B ds.length d)) 47 (0,0))from X3)
  have HG6:=Hq (show((((((V0.setCell ⟨gx,4,none⟩ (.int .i64 page)).setCell ⟨gx,7,none⟩ (.int .i64 ok)).setCell ⟨gx,8,none⟩ (.int .i64 os)).setCell ⟨gx,9,none⟩ (.string oo)).setCell ⟨gx,10,none⟩ (.string on)).setCell ⟨gx,5,none⟩ (.int .i64 next)).heap[gx]? =some (.cells (rcA lsn prev txn 3 page next 0 ok os oo on 0 0 ⟨#[]⟩ 0 0 (.slice none 0 0) (.slice none 0 0)) 47 (0,0))from by have h:=G3;simpa using h)
  have HB6:=Hq (show Below w.heap.size w ((((((V0.setCell ⟨gx,4,none⟩ (.int .i64 page)).setCell ⟨gx,7,none⟩ (.int .i64 ok)).setCell ⟨gx,8,none⟩ (.int .i64 os)).setCell ⟨gx,9,none⟩ (.string oo)).setCell ⟨gx,10,none⟩ (.string on)).setCell ⟨gx,5,none⟩ (.int .i64 next))from((((((BB0.setCell (p:=⟨gx,4,none⟩) (by show _≤gx;omega) (.int .i64 page)).setCell (p:=⟨gx,7,none⟩) (by show _≤gx;omega) (.int .i64 ok)).setCell (p:=⟨gx,8,none⟩) (by show _≤gx;omega) (.int .i64 os)).setCell (p:=⟨gx,9,none⟩) (by show _≤gx;omega) (.string oo)).setCell (p:=⟨gx,10,none⟩) (by show _≤gx;omega) (.string on)).setCell (p:=⟨gx,5,none⟩) (by show _≤gx;omega) (.int .i64 next)))
  obtain⟨W6,hW6⟩:=ex ((((((V0.setCell ⟨gx,4,none⟩ (.int .i64 page)).setCell ⟨gx,7,none⟩ (.int .i64 ok)).setCell ⟨gx,8,none⟩ (.int .i64 os)).setCell ⟨gx,9,none⟩ (.string oo)).setCell ⟨gx,10,none⟩ (.string on)).setCell ⟨gx,5,none⟩ (.int .i64 next))
  rw[← hW6]at HX6 HG6 HB6
  rw[← hW6]
  clear hW6 HX5 HG5 HB5 hcg X0 G0 BB0 X1 G1 hcx0 hzx0 X2 G2 hcx1 hzx1 X3 G3 hcx2 hzx2
  have hcg:=blkCell HX6.out
  have HSA:=Hq (rsame_any (⟨lsn,prev,txn,3,page,next,0,⟨ok,os,oo,on⟩,0,0,⟨⟨#[]⟩,0,0⟩,[],[]⟩:Rc.Rec) ⟨lsn,prev,txn,3,page,next,nu,⟨ok,os,oo,on⟩,how,root,⟨ek,ep,es⟩,ts,ds⟩ none A none B 0 c 0 d W6 (recR_nilq _ _ rfl rfl) (HRR.out _ HB6.out))
  dsimp only[recV,recA,List.length_nil]at HSA
  generalize decide ((⟨lsn,prev,txn,3,page,next,0,⟨ok,os,oo,on⟩,0,0,⟨⟨#[]⟩,0,0⟩,[],[]⟩:Rc.Rec)=⟨lsn,prev,txn,3,page,next,nu,⟨ok,os,oo,on⟩,how,root,⟨ek,ep,es⟩,ts,ds⟩)=q at HSA HIF
  cases q with
  |false=>
   have HZ2:=Hq (show z=false from HIF.out.trans (Bool.false_and _))
   go_wp2_with (first|(with_reducible refine lL HG6.out Tryz.underlying47 ?_)|(with_reducible refine lL HX6.out Tryz.underlying47 ?_)|(go_at_call 154;(with_reducible refine HSA.out.mono ?_);rintro e w7 ⟨rfl,hb7⟩;have hc7:=blkCell (blkOld HX6.out hb7);have B7:=joinB HB6.out hb7))
   go_ret
   exact⟨by rw[HZ2.out];rfl,B7⟩
  |true=>
   have HIF0:=Hq (HIF.out.trans (Bool.true_and _))
   clear HIF
   have HPG:=Hq (fun W=>rpage_any page W)
   (try dsimp only[recV,recA,opV]at HPG)
   generalize decide (Rc.pg page)=p0 at HPG HIF0
   cases p0 with
   |false=>
    have HZ2:=Hq (show z=false from HIF0.out.trans (Bool.false_and _))
    go_wp2_with (first|(with_reducible refine lL HG6.out Tryz.underlying47 ?_)|(with_reducible refine lL HX6.out Tryz.underlying47 ?_)|(go_at_call 154;(with_reducible refine HSA.out.mono ?_);rintro e w7 ⟨rfl,hb7⟩;have hc7:=blkCell (blkOld HX6.out hb7);have B7:=joinB HB6.out hb7)|(go_at_call 156;(with_reducible refine(HPG.out _).mono ?_);rintro e w8 ⟨rfl,hb8⟩;have hc8:=blkCell (blkOld (blkOld HX6.out hb7) hb8);have B8:=joinB B7 hb8))
    go_ret
    exact⟨by rw[HZ2.out];rfl,B8⟩
   |true=>
   have HIF1:=Hq (HIF0.out.trans (Bool.true_and _))
   have HOP:=Hq (fun W=>rop_any ⟨ok,os,oo,on⟩ W)
   (try dsimp only[recV,recA,opV]at HOP)
   generalize decide (Rc.opR ⟨ok,os,oo,on⟩)=p1 at HOP HIF1
   cases p1 with
   |false=>
    have HZ2:=Hq (show z=false from HIF1.out.trans (Bool.false_and _))
    go_wp2_with (first|(with_reducible refine lL HG6.out Tryz.underlying47 ?_)|(with_reducible refine lL HX6.out Tryz.underlying47 ?_)|(go_at_call 154;(with_reducible refine HSA.out.mono ?_);rintro e w7 ⟨rfl,hb7⟩;have hc7:=blkCell (blkOld HX6.out hb7);have B7:=joinB HB6.out hb7)|(go_at_call 156;(with_reducible refine(HPG.out _).mono ?_);rintro e w8 ⟨rfl,hb8⟩;have hc8:=blkCell (blkOld (blkOld HX6.out hb7) hb8);have B8:=joinB B7 hb8)|(go_at_call 157;(with_reducible refine(HOP.out _).mono ?_);rintro e w9 ⟨rfl,hb9⟩;have hc9:=blkCell (blkOld (blkOld (blkOld HX6.out hb7) hb8) hb9);have B9:=joinB B8 hb9))
    go_ret
    exact⟨by rw[HZ2.out];rfl,B9⟩
   |true=>
   have HIF2:=Hq (HIF1.out.trans (Bool.true_and _))
   have HNX:=Hq (fun W=>rnumber_any next W)
   (try dsimp only[recV,recA,opV]at HNX)
   generalize decide (Rc.num next)=p2 at HNX HIF2
   go_wp2_with (first|(with_reducible refine lL HG6.out Tryz.underlying47 ?_)|(with_reducible refine lL HX6.out Tryz.underlying47 ?_)|(go_at_call 154;(with_reducible refine HSA.out.mono ?_);rintro e w7 ⟨rfl,hb7⟩;have hc7:=blkCell (blkOld HX6.out hb7);have B7:=joinB HB6.out hb7)|(go_at_call 156;(with_reducible refine(HPG.out _).mono ?_);rintro e w8 ⟨rfl,hb8⟩;have hc8:=blkCell (blkOld (blkOld HX6.out hb7) hb8);have B8:=joinB B7 hb8)|(go_at_call 157;(with_reducible refine(HOP.out _).mono ?_);rintro e w9 ⟨rfl,hb9⟩;have hc9:=blkCell (blkOld (blkOld (blkOld HX6.out hb7) hb8) hb9);have B9:=joinB B8 hb9)|(go_at_call 152;(with_reducible refine(HNX.out _).mono ?_);rintro e w10 ⟨rfl,hb10⟩;have hc10:=blkCell (blkOld (blkOld (blkOld (blkOld HX6.out hb7) hb8) hb9) hb10);have B10:=joinB B9 hb10))
   go_ret
   exact⟨by rw[HIF2.out];simp,B10⟩
 ·obtain⟨h1,h2,h3⟩:=HN3.out
  have HIF:=Hq (show z=(decide ((⟨lsn,prev,txn,4,0,next,0,⟨0,0,⟨#[]⟩,⟨#[]⟩⟩,0,0,⟨⟨#[]⟩,0,0⟩,[],[]⟩:Rc.Rec)=⟨lsn,prev,txn,4,page,next,nu,⟨ok,os,oo,on⟩,how,root,⟨ek,ep,es⟩,ts,ds⟩)&&(decide (Rc.num next)))from HZ.out.trans (Rc.rightB_of ((Rc.r_4 ⟨h1,h2,h3⟩).trans (by simp only[Bool.and_eq_true,decide_eq_true_eq];(try exact Iff.rfl)))))
  clear h1 h2 h3
  have hcg:=blkCell HX5.out
  have hcx:=blkCell HG5.out
  have hzx:=blkFrozen HG5.out
  go_upto_region 18 with fail
  have HX6:=Hq (show(W5.setCell ⟨gx,5,none⟩ (.int .i64 next)).heap[g]? =some (.cells (rcA lsn prev txn 4 page next nu ok os oo on how root ek ep es (.slice A ts.length c) (.slice B ds.length d)) 47 (0,0))from keep_set (b:=gx) HX5.out (by omega))
  have HG6:=Hq (show(W5.setCell ⟨gx,5,none⟩ (.int .i64 next)).heap[gx]? =some (.cells (rcA lsn prev txn 4 0 next 0 0 0 ⟨#[]⟩ ⟨#[]⟩ 0 0 ⟨#[]⟩ 0 0 (.slice none 0 0) (.slice none 0 0)) 47 (0,0))from by have h:=blkSet 5 HG5.out (.int .i64 next);simpa using h)
  have HB6:=Hq (show Below w.heap.size w (W5.setCell ⟨gx,5,none⟩ (.int .i64 next))from HB5.out.setCell (p:=⟨gx,5,none⟩) (by show _≤gx;omega) (.int .i64 next))
  obtain⟨W6,hW6⟩:=ex (W5.setCell ⟨gx,5,none⟩ (.int .i64 next))
  rw[← hW6]at HX6 HG6 HB6
  rw[← hW6]
  clear hW6 HX5 HG5 HB5 hcg hcx hzx
  have hcg:=blkCell HX6.out
  have HSA:=Hq (rsame_any (⟨lsn,prev,txn,4,0,next,0,⟨0,0,⟨#[]⟩,⟨#[]⟩⟩,0,0,⟨⟨#[]⟩,0,0⟩,[],[]⟩:Rc.Rec) ⟨lsn,prev,txn,4,page,next,nu,⟨ok,os,oo,on⟩,how,root,⟨ek,ep,es⟩,ts,ds⟩ none A none B 0 c 0 d W6 (recR_nilq _ _ rfl rfl) (HRR.out _ HB6.out))
  dsimp only[recV,recA,List.length_nil]at HSA
  generalize decide ((⟨lsn,prev,txn,4,0,next,0,⟨0,0,⟨#[]⟩,⟨#[]⟩⟩,0,0,⟨⟨#[]⟩,0,0⟩,[],[]⟩:Rc.Rec)=⟨lsn,prev,txn,4,page,next,nu,⟨ok,os,oo,on⟩,how,root,⟨ek,ep,es⟩,ts,ds⟩)=q at HSA HIF
  cases q with
  |false=>
   have HZ2:=Hq (show z=false from HIF.out.trans (Bool.false_and _))
   go_wp2_with (first|(with_reducible refine lL HG6.out Tryz.underlying47 ?_)|(with_reducible refine lL HX6.out Tryz.underlying47 ?_)|(go_at_call 154;(with_reducible refine HSA.out.mono ?_);rintro e w7 ⟨rfl,hb7⟩;have hc7:=blkCell (blkOld HX6.out hb7);have B7:=joinB HB6.out hb7))
   go_ret
   exact⟨by rw[HZ2.out];rfl,B7⟩
  |true=>
   have HIF0:=Hq (HIF.out.trans (Bool.true_and _))
   clear HIF
   have HNX:=Hq (fun W=>rnumber_any next W)
   (try dsimp only[recV,recA,opV]at HNX)
   generalize decide (Rc.num next)=p0 at HNX HIF0
   go_wp2_with (first|(with_reducible refine lL HG6.out Tryz.underlying47 ?_)|(with_reducible refine lL HX6.out Tryz.underlying47 ?_)|(go_at_call 154;(with_reducible refine HSA.out.mono ?_);rintro e w7 ⟨rfl,hb7⟩;have hc7:=blkCell (blkOld HX6.out hb7);have B7:=joinB HB6.out hb7)|(go_at_call 152;(with_reducible refine(HNX.out _).mono ?_);rintro e w8 ⟨rfl,hb8⟩;have hc8:=blkCell (blkOld (blkOld HX6.out hb7) hb8);have B8:=joinB B7 hb8))
   go_ret
   exact⟨by rw[HIF0.out];simp,B8⟩
 ·obtain⟨h1,h2,h3⟩:=HN3.out
  have HIF:=Hq (show z=(decide ((⟨lsn,prev,txn,8,page,0,0,⟨ok,os,oo,on⟩,0,0,⟨⟨#[]⟩,0,0⟩,[],[]⟩:Rc.Rec)=⟨lsn,prev,txn,8,page,next,nu,⟨ok,os,oo,on⟩,how,root,⟨ek,ep,es⟩,ts,ds⟩)&&(decide (Rc.pg page)&&(decide (Rc.opR ⟨ok,os,oo,on⟩))))from HZ.out.trans (Rc.rightB_of ((Rc.r_8 ⟨h1,h2,h3⟩).trans (by simp only[Bool.and_eq_true,decide_eq_true_eq];(try exact Iff.rfl)))))
  clear h1 h2 h3
  have hcg:=blkCell HX5.out
  go_upto_region 20 with fail
  have X0:=blkOld HX5.out (Below.refl _ W5).drew
  have G0:=blkOld HG5.out (Below.refl _ W5).drew
  have BB0:=joinB HB5.out (Below.refl _ W5).drew
  refine rgH (S:=(fun u=>u.heap[g]? =some (.cells (rcA lsn prev txn 8 page next nu ok os oo on how root ek ep es (.slice A ts.length c) (.slice B ds.length d)) 47 (0,0)))) (fun hHeld=>?_)
  generalize W5.drew=V0 at hHeld X0 G0 BB0 ⊢
  refine tkP 0 ?_;refine tkP 1 ?_;refine tkP 2 ?_;refine tkP 3 ?_;refine tkP 4 ?_
  refine rdP 5 fun K hK=>?_
  have hcx0:=blkCell G0
  have hzx0:=blkFrozen G0
  go_simp
  have X1:=(keep_set (b:=gx) (j:=4) (v:=.int .i64 page) X0 (by omega))
  have G1:(V0.setCell ⟨gx,4,none⟩ (.int .i64 page)).heap[gx]? =some (.cells (rcA lsn prev txn 8 page 0 0 0 0 ⟨#[]⟩ ⟨#[]⟩ 0 0 ⟨#[]⟩ 0 0 (.slice none 0 0) (.slice none 0 0)) 47 (0,0)):=(by have h:=(blkSet 4 G0 (.int .i64 page));simpa using h)
  try clear hSn
  have hSn:=X1
  refine hKo hK (fun hHeld=>?_)
  clear hK K
  refine tkP 6 ?_
  refine rdP 7 fun K hK=>?_
  have hcx1:=blkCell G1
  have hzx1:=blkFrozen G1
  go_simp
  have X2:=(keep_set (b:=gx) (j:=10) (v:=.string on) (keep_set (b:=gx) (j:=9) (v:=.string oo) (keep_set (b:=gx) (j:=8) (v:=.int .i64 os) (keep_set (b:=gx) (j:=7) (v:=.int .i64 ok) X1 (by omega)) (by omega)) (by omega)) (by omega))
  have G2:(((((V0.setCell ⟨gx,4,none⟩ (.int .i64 page)).setCell ⟨gx,7,none⟩ (.int .i64 ok)).setCell ⟨gx,8,none⟩ (.int .i64 os)).setCell ⟨gx,9,none⟩ (.string oo)).setCell ⟨gx,10,none⟩ (.string on)).heap[gx]? =some (.cells (rcA lsn prev txn 8 page 0 0 ok os oo on 0 0 ⟨#[]⟩ 0 0 (.slice none 0 0) (.slice none 0 0)) 47 (0,0)):=(by have h:=(blkSet 10 (blkSet 9 (blkSet 8 (blkSet 7 G1 (.int .i64 ok)) (.int .i64 os)) (.string oo)) (.string on));simpa using h)
  try clear hSn
  have hSn:=X2
  refine hKo hK (fun hHeld=>?_)
  clear hK K
  refine wpAnyH_done Kr ?_ _
  clear hHeld hSn
  have HX6:=Hq (show(((((V0.setCell ⟨gx,4,none⟩ (.int .i64 page)).setCell ⟨gx,7,none⟩ (.int .i64 ok)).setCell ⟨gx,8,none⟩ (.int .i64 os)).setCell ⟨gx,9,none⟩ (.string oo)).setCell ⟨gx,10,none⟩ (.string on)).heap[g]? =some (.cells (rcA lsn prev txn 8 page next nu ok os oo on how root ek ep es (.slice A ts.length c) (.slice B ds.length d)) 47 (0,0))from X2)
  have HG6:=Hq (show(((((V0.setCell ⟨gx,4,none⟩ (.int .i64 page)).setCell ⟨gx,7,none⟩ (.int .i64 ok)).setCell ⟨gx,8,none⟩ (.int .i64 os)).setCell ⟨gx,9,none⟩ (.string oo)).setCell ⟨gx,10,none⟩ (.string on)).heap[gx]? =some (.cells (rcA lsn prev txn 8 page 0 0 ok os oo on 0 0 ⟨#[]⟩ 0 0 (.slice none 0 0) (.slice none 0 0)) 47 (0,0))from by have h:=G2;simpa using h)
  have HB6:=Hq (show Below w.heap.size w (((((V0.setCell ⟨gx,4,none⟩ (.int .i64 page)).setCell ⟨gx,7,none⟩ (.int .i64 ok)).setCell ⟨gx,8,none⟩ (.int .i64 os)).setCell ⟨gx,9,none⟩ (.string oo)).setCell ⟨gx,10,none⟩ (.string on))from(((((BB0.setCell (p:=⟨gx,4,none⟩) (by show _≤gx;omega) (.int .i64 page)).setCell (p:=⟨gx,7,none⟩) (by show _≤gx;omega) (.int .i64 ok)).setCell (p:=⟨gx,8,none⟩) (by show _≤gx;omega) (.int .i64 os)).setCell (p:=⟨gx,9,none⟩) (by show _≤gx;omega) (.string oo)).setCell (p:=⟨gx,10,none⟩) (by show _≤gx;omega) (.string on)))
  obtain⟨W6,hW6⟩:=ex (((((V0.setCell ⟨gx,4,none⟩ (.int .i64 page)).setCell ⟨gx,7,none⟩ (.int .i64 ok)).setCell ⟨gx,8,none⟩ (.int .i64 os)).setCell ⟨gx,9,none⟩ (.string oo)).setCell ⟨gx,10,none⟩ (.string on))
  rw[← hW6]at HX6 HG6 HB6
  rw[← hW6]
  clear hW6 HX5 HG5 HB5 hcg X0 G0 BB0 X1 G1 hcx0 hzx0 X2 G2 hcx1 hzx1
  have hcg:=blkCell HX6.out
  have HSA:=Hq (rsame_any (⟨lsn,prev,txn,8,page,0,0,⟨ok,os,oo,on⟩,0,0,⟨⟨#[]⟩,0,0⟩,[],[]⟩:Rc.Rec) ⟨lsn,prev,txn,8,page,next,nu,⟨ok,os,oo,on⟩,how,root,⟨ek,ep,es⟩,ts,ds⟩ none A none B 0 c 0 d W6 (recR_nilq _ _ rfl rfl) (HRR.out _ HB6.out))
  dsimp only[recV,recA,List.length_nil]at HSA
  generalize decide ((⟨lsn,prev,txn,8,page,0,0,⟨ok,os,oo,on⟩,0,0,⟨⟨#[]⟩,0,0⟩,[],[]⟩:Rc.Rec)=⟨lsn,prev,txn,8,page,next,nu,⟨ok,os,oo,on⟩,how,root,⟨ek,ep,es⟩,ts,ds⟩)=q at HSA HIF
  cases q with
  |false=>
   have HZ2:=Hq (show z=false from HIF.out.trans (Bool.false_and _))
   go_wp2_with (first|(with_reducible refine lL HG6.out Tryz.underlying47 ?_)|(with_reducible refine lL HX6.out Tryz.underlying47 ?_)|(go_at_call 154;(with_reducible refine HSA.out.mono ?_);rintro e w7 ⟨rfl,hb7⟩;have hc7:=blkCell (blkOld HX6.out hb7);have B7:=joinB HB6.out hb7))
   go_ret
   exact⟨by rw[HZ2.out];rfl,B7⟩
  |true=>
   have HIF0:=Hq (HIF.out.trans (Bool.true_and _))
   clear HIF
   have HPG:=Hq (fun W=>rpage_any page W)
   (try dsimp only[recV,recA,opV]at HPG)
   generalize decide (Rc.pg page)=p0 at HPG HIF0
   cases p0 with
   |false=>
    have HZ2:=Hq (show z=false from HIF0.out.trans (Bool.false_and _))
    go_wp2_with (first|(with_reducible refine lL HG6.out Tryz.underlying47 ?_)|(with_reducible refine lL HX6.out Tryz.underlying47 ?_)|(go_at_call 154;(with_reducible refine HSA.out.mono ?_);rintro e w7 ⟨rfl,hb7⟩;have hc7:=blkCell (blkOld HX6.out hb7);have B7:=joinB HB6.out hb7)|(go_at_call 156;(with_reducible refine(HPG.out _).mono ?_);rintro e w8 ⟨rfl,hb8⟩;have hc8:=blkCell (blkOld (blkOld HX6.out hb7) hb8);have B8:=joinB B7 hb8))
    go_ret
    exact⟨by rw[HZ2.out];rfl,B8⟩
   |true=>
   have HIF1:=Hq (HIF0.out.trans (Bool.true_and _))
   have HOP:=Hq (fun W=>rop_any ⟨ok,os,oo,on⟩ W)
   (try dsimp only[recV,recA,opV]at HOP)
   generalize decide (Rc.opR ⟨ok,os,oo,on⟩)=p1 at HOP HIF1
   go_wp2_with (first|(with_reducible refine lL HG6.out Tryz.underlying47 ?_)|(with_reducible refine lL HX6.out Tryz.underlying47 ?_)|(go_at_call 154;(with_reducible refine HSA.out.mono ?_);rintro e w7 ⟨rfl,hb7⟩;have hc7:=blkCell (blkOld HX6.out hb7);have B7:=joinB HB6.out hb7)|(go_at_call 156;(with_reducible refine(HPG.out _).mono ?_);rintro e w8 ⟨rfl,hb8⟩;have hc8:=blkCell (blkOld (blkOld HX6.out hb7) hb8);have B8:=joinB B7 hb8)|(go_at_call 157;(with_reducible refine(HOP.out _).mono ?_);rintro e w9 ⟨rfl,hb9⟩;have hc9:=blkCell (blkOld (blkOld (blkOld HX6.out hb7) hb8) hb9);have B9:=joinB B8 hb9))
   go_ret
   exact⟨by rw[HIF1.out];simp,B9⟩
 ·obtain⟨h1,h2,h3⟩:=HN3.out
  have HIF:=Hq (show z=(decide ((⟨lsn,prev,txn,9,0,0,nu,⟨0,0,⟨#[]⟩,⟨#[]⟩⟩,0,0,⟨⟨#[]⟩,0,0⟩,ts,ds⟩:Rc.Rec)=⟨lsn,prev,txn,9,page,next,nu,⟨ok,os,oo,on⟩,how,root,⟨ek,ep,es⟩,ts,ds⟩)&&(decide (Rc.num nu)&&(decide (Rc.listsR ⟨lsn,prev,txn,9,page,next,nu,⟨ok,os,oo,on⟩,how,root,⟨ek,ep,es⟩,ts,ds⟩))))from HZ.out.trans (Rc.rightB_of ((Rc.r_9 ⟨h1,h2,h3⟩).trans (by simp only[Bool.and_eq_true,decide_eq_true_eq];(try exact Iff.rfl)))))
  clear h1 h2 h3
  have hcg:=blkCell HX5.out
  go_upto_region 23 with fail
  have X0:=blkOld HX5.out (Below.refl _ W5).drew
  have G0:=blkOld HG5.out (Below.refl _ W5).drew
  have BB0:=joinB HB5.out (Below.refl _ W5).drew
  refine rgH (S:=(fun u=>u.heap[g]? =some (.cells (rcA lsn prev txn 9 page next nu ok os oo on how root ek ep es (.slice A ts.length c) (.slice B ds.length d)) 47 (0,0)))) (fun hHeld=>?_)
  generalize W5.drew=V0 at hHeld X0 G0 BB0 ⊢
  refine tkP 0 ?_;refine tkP 1 ?_;refine tkP 2 ?_;refine tkP 3 ?_;refine tkP 4 ?_;refine tkP 5 ?_;refine tkP 6 ?_
  refine rdP 7 fun K hK=>?_
  have hcx0:=blkCell G0
  have hzx0:=blkFrozen G0
  go_simp
  have X1:=(keep_set (b:=gx) (j:=6) (v:=.int .i64 nu) X0 (by omega))
  have G1:(V0.setCell ⟨gx,6,none⟩ (.int .i64 nu)).heap[gx]? =some (.cells (rcA lsn prev txn 9 0 0 nu 0 0 ⟨#[]⟩ ⟨#[]⟩ 0 0 ⟨#[]⟩ 0 0 (.slice none 0 0) (.slice none 0 0)) 47 (0,0)):=(by have h:=(blkSet 6 G0 (.int .i64 nu));simpa using h)
  try clear hSn
  have hSn:=X1
  refine hKo hK (fun hHeld=>?_)
  clear hK K
  refine tkP 8 ?_
  refine rdP 9 fun K hK=>?_
  have hcx1:=blkCell G1
  have hzx1:=blkFrozen G1
  go_simp
  have X2:=(keep_set (b:=gx) (j:=16) (v:=.slice A ts.length c) X1 (by omega))
  have G2:((V0.setCell ⟨gx,6,none⟩ (.int .i64 nu)).setCell ⟨gx,16,none⟩ (.slice A ts.length c)).heap[gx]? =some (.cells (rcA lsn prev txn 9 0 0 nu 0 0 ⟨#[]⟩ ⟨#[]⟩ 0 0 ⟨#[]⟩ 0 0 (.slice A ts.length c) (.slice none 0 0)) 47 (0,0)):=(by have h:=(blkSet 16 G1 (.slice A ts.length c));simpa using h)
  try clear hSn
  have hSn:=X2
  refine hKo hK (fun hHeld=>?_)
  clear hK K
  refine tkP 10 ?_
  refine rdP 11 fun K hK=>?_
  have hcx2:=blkCell G2
  have hzx2:=blkFrozen G2
  go_simp
  have X3:=(keep_set (b:=gx) (j:=17) (v:=.slice B ds.length d) X2 (by omega))
  have G3:(((V0.setCell ⟨gx,6,none⟩ (.int .i64 nu)).setCell ⟨gx,16,none⟩ (.slice A ts.length c)).setCell ⟨gx,17,none⟩ (.slice B ds.length d)).heap[gx]? =some (.cells (rcA lsn prev txn 9 0 0 nu 0 0 ⟨#[]⟩ ⟨#[]⟩ 0 0 ⟨#[]⟩ 0 0 (.slice A ts.length c) (.slice B ds.length d)) 47 (0,0)):=(by have h:=(blkSet 17 G2 (.slice B ds.length d));simpa using h)
  try clear hSn
  have hSn:=X3
  refine hKo hK (fun hHeld=>?_)
  clear hK K
  refine wpAnyH_done Kr ?_ _
  clear hHeld hSn
  have HX6:=Hq (show(((V0.setCell ⟨gx,6,none⟩ (.int .i64 nu)).setCell ⟨gx,16,none⟩ (.slice A ts.length c)).setCell ⟨gx,17,none⟩ (.slice B ds.length d)).heap[g]? =some (.cells (rcA lsn prev txn 9 page next nu ok os oo on how root ek ep es (.slice A ts.length c) (.slice B ds.length d)) 47 (0,0))from X3)
  have HG6:=Hq (show(((V0.setCell ⟨gx,6,none⟩ (.int .i64 nu)).setCell ⟨gx,16,none⟩ (.slice A ts.length c)).setCell ⟨gx,17,none⟩ (.slice B ds.length d)).heap[gx]? =some (.cells (rcA lsn prev txn 9 0 0 nu 0 0 ⟨#[]⟩ ⟨#[]⟩ 0 0 ⟨#[]⟩ 0 0 (.slice A ts.length c) (.slice B ds.length d)) 47 (0,0))from by have h:=G3;simpa using h)
  have HB6:=Hq (show Below w.heap.size w (((V0.setCell ⟨gx,6,none⟩ (.int .i64 nu)).setCell ⟨gx,16,none⟩ (.slice A ts.length c)).setCell ⟨gx,17,none⟩ (.slice B ds.length d))from(((BB0.setCell (p:=⟨gx,6,none⟩) (by show _≤gx;omega) (.int .i64 nu)).setCell (p:=⟨gx,16,none⟩) (by show _≤gx;omega) (.slice A ts.length c)).setCell (p:=⟨gx,17,none⟩) (by show _≤gx;omega) (.slice B ds.length d)))
  obtain⟨W6,hW6⟩:=ex (((V0.setCell ⟨gx,6,none⟩ (.int .i64 nu)).setCell ⟨gx,16,none⟩ (.slice A ts.length c)).setCell ⟨gx,17,none⟩ (.slice B ds.length d))
  rw[← hW6]at HX6 HG6 HB6
  rw[← hW6]
  clear hW6 HX5 HG5 HB5 hcg X0 G0 BB0 X1 G1 hcx0 hzx0 X2 G2 hcx1 hzx1 X3 G3 hcx2 hzx2
  have hcg:=blkCell HX6.out
  have HSA:=Hq (rsame_any (⟨lsn,prev,txn,9,0,0,nu,⟨0,0,⟨#[]⟩,⟨#[]⟩⟩,0,0,⟨⟨#[]⟩,0,0⟩,ts,ds⟩:Rc.Rec) ⟨lsn,prev,txn,9,page,next,nu,⟨ok,os,oo,on⟩,how,root,⟨ek,ep,es⟩,ts,ds⟩ A A B B c c d d W6 ⟨(HRR.out _ HB6.out).txns,(HRR.out _ HB6.out).dirty,(HRR.out _ HB6.out).small⟩ (HRR.out _ HB6.out))
  dsimp only[recV,recA,List.length_nil]at HSA
  generalize decide ((⟨lsn,prev,txn,9,0,0,nu,⟨0,0,⟨#[]⟩,⟨#[]⟩⟩,0,0,⟨⟨#[]⟩,0,0⟩,ts,ds⟩:Rc.Rec)=⟨lsn,prev,txn,9,page,next,nu,⟨ok,os,oo,on⟩,how,root,⟨ek,ep,es⟩,ts,ds⟩)=q at HSA HIF
  cases q with
  |false=>
   have HZ2:=Hq (show z=false from HIF.out.trans (Bool.false_and _))
   go_wp2_with (first|(with_reducible refine lL HG6.out Tryz.underlying47 ?_)|(with_reducible refine lL HX6.out Tryz.underlying47 ?_)|(go_at_call 154;(with_reducible refine HSA.out.mono ?_);rintro e w7 ⟨rfl,hb7⟩;have hc7:=blkCell (blkOld HX6.out hb7);have B7:=joinB HB6.out hb7))
   go_ret
   exact⟨by rw[HZ2.out];rfl,B7⟩
  |true=>
   have HIF0:=Hq (HIF.out.trans (Bool.true_and _))
   clear HIF
   have HNU:=Hq (fun W=>rnumber_any nu W)
   (try dsimp only[recV,recA,opV]at HNU)
   generalize decide (Rc.num nu)=p0 at HNU HIF0
   cases p0 with
   |false=>
    have HZ2:=Hq (show z=false from HIF0.out.trans (Bool.false_and _))
    go_wp2_with (first|(with_reducible refine lL HG6.out Tryz.underlying47 ?_)|(with_reducible refine lL HX6.out Tryz.underlying47 ?_)|(go_at_call 154;(with_reducible refine HSA.out.mono ?_);rintro e w7 ⟨rfl,hb7⟩;have hc7:=blkCell (blkOld HX6.out hb7);have B7:=joinB HB6.out hb7)|(go_at_call 152;(with_reducible refine(HNU.out _).mono ?_);rintro e w8 ⟨rfl,hb8⟩;have hc8:=blkCell (blkOld (blkOld HX6.out hb7) hb8);have B8:=joinB B7 hb8))
    go_ret
    exact⟨by rw[HZ2.out];rfl,B8⟩
   |true=>
   have HIF1:=Hq (HIF0.out.trans (Bool.true_and _))
   have HLI:=Hq (fun W (hb:Below w.heap.size w W)=>rlists_any ⟨lsn,prev,txn,9,page,next,nu,⟨ok,os,oo,on⟩,how,root,⟨ek,ep,es⟩,ts,ds⟩ A B c d W (HRR.out W hb))
   (try dsimp only[recV,recA,opV]at HLI)
   generalize decide (Rc.listsR ⟨lsn,prev,txn,9,page,next,nu,⟨ok,os,oo,on⟩,how,root,⟨ek,ep,es⟩,ts,ds⟩)=p1 at HLI HIF1
   go_wp2_with (first|(with_reducible refine lL HG6.out Tryz.underlying47 ?_)|(with_reducible refine lL HX6.out Tryz.underlying47 ?_)|(go_at_call 154;(with_reducible refine HSA.out.mono ?_);rintro e w7 ⟨rfl,hb7⟩;have hc7:=blkCell (blkOld HX6.out hb7);have B7:=joinB HB6.out hb7)|(go_at_call 152;(with_reducible refine(HNU.out _).mono ?_);rintro e w8 ⟨rfl,hb8⟩;have hc8:=blkCell (blkOld (blkOld HX6.out hb7) hb8);have B8:=joinB B7 hb8)|(with_reducible refine lL (blkOld (blkOld HX6.out hb7) hb8) Tryz.underlying47 ?_)|(go_at_call 158;(with_reducible refine(HLI.out _ B8).mono ?_);rintro e w9 ⟨rfl,hb9⟩;have hc9:=blkCell (blkOld (blkOld (blkOld HX6.out hb7) hb8) hb9);have B9:=joinB B8 hb9))
   go_ret
   exact⟨by rw[HIF1.out];simp,B9⟩
end Go.Proofs.YtdfkambdagoojaaGreatDoor
