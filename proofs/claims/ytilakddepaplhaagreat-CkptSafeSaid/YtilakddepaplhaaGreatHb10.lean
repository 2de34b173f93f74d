import Derived.Test.YtilakddepaplhaaGreatHb00
import Derived.Test.YtilakddepaplhaaGreatHb09
import Derived.Test.YtilakddepaplhaaGreatHb05
import Derived.BigRegion
set_option maxRecDepth 100000
set_option maxHeartbeats 16000000
set_option linter.unusedSimpArgs false
namespace Go.Proofs.YtilakddepaplhaaGreat
open Go.RowKit
theorem keep_set {w:World}{g b j:Nat}{v:Value}{o:Obj}(h:w.heap[g]? =some o)(hne:g≠b):(w.setCell ⟨b,j,none⟩ v).heap[g]? =some o:=(Below.heap_setCell _ _ _ _ hne).trans h
theorem recR_nil (r:Rc.Rec)(w:World)(h1:r.txns=[])(h2:r.dirty=[]):RecR w r none 0 none 0:=by
 refine⟨?_,?_,by rw[h1,h2];exact⟨Nat.zero_le _,Nat.zero_le _⟩⟩
 ·rw[h1];exact Reads.none_ _ _ _ _
 ·rw[h2];exact Reads.none_ _ _ _ _
theorem rright_any (r:Rc.Rec)(A B:Option Addr)(c d:Nat)(w:World)(hr:RecR w r A c B d):
 Calls Tryz.prog 109 #[recV r (.slice A r.txns.length c) (.slice B r.dirty.length d)] w fun e w'=>e= .returned (.bool (Rc.rightB r))∧Below w.heap.size w w':=by
 obtain⟨lsn,prev,txn,kind,page,next,nu,⟨ok,os,oo,on⟩,how,root,⟨ek,ep,es⟩,ts,ds⟩:=r
 dsimp only[recV,recA]
 obtain⟨z,hz⟩:=ex (Rc.rightB ⟨lsn,prev,txn,kind,page,next,nu,⟨ok,os,oo,on⟩,how,root,⟨ek,ep,es⟩,ts,ds⟩)
 rw[← hz]
 have HZ:=Hq hz
 clear hz
 obtain⟨w0,hw0⟩:=ex (w.alloc (.cells (rcA lsn prev txn kind page next nu ok os oo on how root ek ep es (.slice A ts.length c) (.slice B ds.length d)) 55))
 have HB0:=Hq (show Below w.heap.size w w0 from by rw[hw0];exact allocB _ _)
 have HX0:=Hq (show w0.heap[w.heap.size]? =some (.cells (rcA lsn prev txn kind page next nu ok os oo on how root ek ep es (.slice A ts.length c) (.slice B ds.length d)) 55 (0,0))from by rw[hw0];exact heap_alloc_new _ _)
 have HRR:=Hq (fun W (hb:Below w.heap.size w W)=>hr.below hb)
 clear hr
 go_enter Tryz.func109,Tryz.ntmps109
 go_upto_region 1 with fail
 rw[← hw0]
 clear hw0
 obtain⟨g,hg⟩:=ex w.heap.size
 rw[← hg]at HX0
 rw[← hg]
 clear hg
 have hcg:=blkCell HX0.out
 have H1:=Hq (fun W=>rnumber_any lsn W)
 have H2:=Hq (fun W=>rnumber_any prev W)
 have H3:=Hq (fun W=>rnumber_any txn W)
 have HNO:=Hq (show ¬ (Rc.num lsn∧Rc.num prev∧Rc.num txn)→z=false from fun h=>HZ.out.trans (Rc.rightB_no fun hr=>h (Rc.r_nums hr)))
 by_cases h1:Rc.num lsn
 rotate_left
 ·rw[decide_eq_false h1]at H1
  have HZ2:=Hq (HNO.out (fun h=>h1 h.1))
  clear h1
  go_wp2_with (go_at_call 166;(with_reducible refine(H1.out _).mono ?_);rintro e w1 ⟨rfl,hb1⟩;have hc1:=blkCell (blkOld HX0.out hb1))
  go_ret
  exact⟨by rw[HZ2.out];rfl,joinB HB0.out hb1⟩
 by_cases h2:Rc.num prev
 rotate_left
 ·rw[decide_eq_true h1]at H1
  rw[decide_eq_false h2]at H2
  have HZ2:=Hq (HNO.out (fun h=>h2 h.2.1))
  clear h1 h2
  go_wp2_with (first|(go_at_call 166;(with_reducible refine(H1.out _).mono ?_);rintro e w1 ⟨rfl,hb1⟩;have hc1:=blkCell (blkOld HX0.out hb1))|(go_at_call 166;(with_reducible refine(H2.out _).mono ?_);rintro e w2 ⟨rfl,hb2⟩;have hc2:=blkCell (blkOld (blkOld HX0.out hb1) hb2)))
  go_ret
  exact⟨by rw[HZ2.out];rfl,joinB HB0.out (joinB hb1 hb2)⟩
 by_cases h3:Rc.num txn
 rotate_left
 ·rw[decide_eq_true h1]at H1
  rw[decide_eq_true h2]at H2
  rw[decide_eq_false h3]at H3
  have HZ2:=Hq (HNO.out (fun h=>h3 h.2.2))
  clear h1 h2 h3
  go_wp2_with (first|(go_at_call 166;(with_reducible refine(H1.out _).mono ?_);rintro e w1 ⟨rfl,hb1⟩;have hc1:=blkCell (blkOld HX0.out hb1))|(go_at_call 166;(with_reducible refine(H2.out _).mono ?_);rintro e w2 ⟨rfl,hb2⟩;have hc2:=blkCell (blkOld (blkOld HX0.out hb1) hb2))|(go_at_call 166;(with_reducible refine(H3.out _).mono ?_);rintro e w3 ⟨rfl,hb3⟩))
  go_ret
  exact⟨by rw[HZ2.out];rfl,joinB HB0.out (joinB (joinB hb1 hb2) hb3)⟩
 rw[decide_eq_true h1]at H1
 rw[decide_eq_true h2]at H2
 rw[decide_eq_true h3]at H3
 have HN3:=Hq (And.intro h1 (And.intro h2 h3))
 clear h1 h2 h3 HNO
 have HBA:=Hq (fun W=>rbare_any ⟨lsn,prev,txn,kind,page,next,nu,⟨ok,os,oo,on⟩,how,root,⟨ek,ep,es⟩,ts,ds⟩ (.slice A ts.length c) (.slice B ds.length d) W)
 dsimp only[recV,recA,Rc.bare,Rc.noOp,Rc.noKey]at HBA
 go_upto_region 4 with(first|(go_at_call 166;(with_reducible refine(H1.out _).mono ?_);rintro e w1 ⟨rfl,hb1⟩;have hc1:=blkCell (blkOld HX0.out hb1))|(go_at_call 166;(with_reducible refine(H2.out _).mono ?_);rintro e w2 ⟨rfl,hb2⟩;have hc2:=blkCell (blkOld (blkOld HX0.out hb1) hb2))|(go_at_call 166;(with_reducible refine(H3.out _).mono ?_);rintro e w3 ⟨rfl,hb3⟩)|(with_reducible refine lL (blkOld HX0.out (joinB (joinB hb1 hb2) hb3)) Tryz.underlying55 ?_)|(go_at_call 167;(with_reducible refine(HBA.out _).mono ?_);rintro e w4 ⟨rfl,hb4⟩)|(with_reducible refine sN (rcA lsn prev txn kind 0 0 0 0 0 ⟨#[]⟩ ⟨#[]⟩ 0 0 ⟨#[]⟩ 0 0 (.slice none 0 0) (.slice none 0 0)) ?_))
 have HB5:=Hq (joinB (joinB (joinB (joinB HB0.out hb1) hb2) hb3) (pastAlloc (o:=.cells (rcA lsn prev txn kind 0 0 0 0 0 ⟨#[]⟩ ⟨#[]⟩ 0 0 ⟨#[]⟩ 0 0 (.slice none 0 0) (.slice none 0 0)) 55) hb4))
 have HX5:=Hq (blkOld HX0.out (joinB (joinB (joinB hb1 hb2) hb3) (pastAlloc (o:=.cells (rcA lsn prev txn kind 0 0 0 0 0 ⟨#[]⟩ ⟨#[]⟩ 0 0 ⟨#[]⟩ 0 0 (.slice none 0 0) (.slice none 0 0)) 55) hb4)))
 have HG5:=Hq (heap_alloc_new w4 (.cells (rcA lsn prev txn kind 0 0 0 0 0 ⟨#[]⟩ ⟨#[]⟩ 0 0 ⟨#[]⟩ 0 0 (.slice none 0 0) (.slice none 0 0)) 55))
 have hgx:g<w4.heap.size:=Nat.lt_of_lt_of_le (heapLt HX0.out) (joinB (joinB (joinB hb1 hb2) hb3) hb4).size
 have hgw:w.heap.size≤w4.heap.size:=(joinB (joinB (joinB (joinB HB0.out hb1) hb2) hb3) hb4).size
 obtain⟨gx,hge⟩:=ex w4.heap.size
 obtain⟨W5,hW5⟩:=ex (w4.alloc (.cells (rcA lsn prev txn kind 0 0 0 0 0 ⟨#[]⟩ ⟨#[]⟩ 0 0 ⟨#[]⟩ 0 0 (.slice none 0 0) (.slice none 0 0)) 55))
 rw[← hge,← hW5]at HG5
 rw[← hW5]at HB5 HX5
 rw[← hge]at hgx hgw
 rw[← hge,← hW5]
 clear hge hW5 hb1 hb2 hb3 hb4 hc1 hc2 hcg HBA H1 H2 H3 HX0
 by_cases hk9:1≤kind∧kind≤9
 rotate_left
 ·have HZ2:=Hq (show z=false from HZ.out.trans (Rc.rightB_no (Rc.r_other hk9)))
  have k1:(kind==1)=false:=by simp;omega
  have k2:(kind==2)=false:=by simp;omega
  have k3:(kind==3)=false:=by simp;omega
  have k4:(kind==4)=false:=by simp;omega
  have k5:(kind==5)=false:=by simp;omega
  have k6:(kind==6)=false:=by simp;omega
  have k7:(kind==7)=false:=by simp;omega
  have k8:(kind==8)=false:=by simp;omega
  have k9:(kind==9)=false:=by simp;omega
  clear hk9
  have hcg:=blkCell HX5.out
  go_wp2_with fail
  go_ret
  exact⟨by rw[HZ2.out];rfl,HB5.out⟩
 have h9:(kind=1∨kind=5∨kind=6∨kind=7)∨kind=2∨kind=3∨kind=4∨kind=8∨kind=9:=by omega
 clear hk9
 rcases h9 with h9|rfl|rfl|rfl|rfl|rfl
 ·rcases h9 with rfl|rfl|rfl|rfl
  ·obtain⟨h1,h2,h3⟩:=HN3.out
   have HIF:=Hq (show z=decide ((⟨lsn,prev,txn,1,0,0,0,⟨0,0,⟨#[]⟩,⟨#[]⟩⟩,0,0,⟨⟨#[]⟩,0,0⟩,[],[]⟩:Rc.Rec)=⟨lsn,prev,txn,1,page,next,nu,⟨ok,os,oo,on⟩,how,root,⟨ek,ep,es⟩,ts,ds⟩)from HZ.out.trans (Rc.rightB_of ((Rc.r_small (by omega) ⟨h1,h2,h3⟩).trans decide_eq_true_iff.symm)))
   clear h1 h2 h3
   have hcg:=blkCell HX5.out
   have HX6:=HX5
   have HG6:=HG5
   have HB6:=HB5
   obtain⟨W6,hW6⟩:=ex W5
   rw[← hW6]at HX6 HG6 HB6
   rw[← hW6]
   clear hW6 HX5 HG5 HB5 hcg
   have hcg:=blkCell HX6.out
   have HSA:=Hq (rsame_any (⟨lsn,prev,txn,1,0,0,0,⟨0,0,⟨#[]⟩,⟨#[]⟩⟩,0,0,⟨⟨#[]⟩,0,0⟩,[],[]⟩:Rc.Rec) ⟨lsn,prev,txn,1,page,next,nu,⟨ok,os,oo,on⟩,how,root,⟨ek,ep,es⟩,ts,ds⟩ none A none B 0 c 0 d W6 (recR_nil _ _ rfl rfl) (HRR.out _ HB6.out))
   dsimp only[recV,recA,List.length_nil]at HSA
   generalize decide ((⟨lsn,prev,txn,1,0,0,0,⟨0,0,⟨#[]⟩,⟨#[]⟩⟩,0,0,⟨⟨#[]⟩,0,0⟩,[],[]⟩:Rc.Rec)=⟨lsn,prev,txn,1,page,next,nu,⟨ok,os,oo,on⟩,how,root,⟨ek,ep,es⟩,ts,ds⟩)=q at HSA HIF
   go_wp2_with (first|(with_reducible refine lL HG6.out Tryz.underlying55 ?_)|(with_reducible refine lL HX6.out Tryz.underlying55 ?_)|(go_at_call 168;(with_reducible refine HSA.out.mono ?_);rintro e w7 ⟨rfl,hb7⟩;have hc7:=blkCell (blkOld HX6.out hb7);have B7:=joinB HB6.out hb7))
   go_ret
   exact⟨by rw[HIF.out];rfl,B7⟩
  ·obtain⟨h1,h2,h3⟩:=HN3.out
   have HIF:=Hq (show z=decide ((⟨lsn,prev,txn,5,0,0,0,⟨0,0,⟨#[]⟩,⟨#[]⟩⟩,0,0,⟨⟨#[]⟩,0,0⟩,[],[]⟩:Rc.Rec)=⟨lsn,prev,txn,5,page,next,nu,⟨ok,os,oo,on⟩,how,root,⟨ek,ep,es⟩,ts,ds⟩)from HZ.out.trans (Rc.rightB_of ((Rc.r_small (by omega) ⟨h1,h2,h3⟩).trans decide_eq_true_iff.symm)))
   clear h1 h2 h3
   have hcg:=blkCell HX5.out
   have HX6:=HX5
   have HG6:=HG5
   have HB6:=HB5
   obtain⟨W6,hW6⟩:=ex W5
   rw[← hW6]at HX6 HG6 HB6
   rw[← hW6]
   clear hW6 HX5 HG5 HB5 hcg
   have hcg:=blkCell HX6.out
   have HSA:=Hq (rsame_any (⟨lsn,prev,txn,5,0,0,0,⟨0,0,⟨#[]⟩,⟨#[]⟩⟩,0,0,⟨⟨#[]⟩,0,0⟩,[],[]⟩:Rc.Rec) ⟨lsn,prev,txn,5,page,next,nu,⟨ok,os,oo,on⟩,how,root,⟨ek,ep,es⟩,ts,ds⟩ none A none B 0 c 0 d W6 (recR_nil _ _ rfl rfl) (HRR.out _ HB6.out))
   dsimp only[recV,recA,List.length_nil]at HSA
   generalize decide ((⟨lsn,prev,txn,5,0,0,0,⟨0,0,⟨#[]⟩,⟨#[]⟩⟩,0,0,⟨⟨#[]⟩,0,0⟩,[],[]⟩:Rc.Rec)=⟨lsn,prev,txn,5,page,next,nu,⟨ok,os,oo,on⟩,how,root,⟨ek,ep,es⟩,ts,ds⟩)=q at HSA HIF
   go_wp2_with (first|(with_reducible refine lL HG6.out Tryz.underlying55 ?_)|(with_reducible refine lL HX6.out Tryz.underlying55 ?_)|(go_at_call 168;(with_reducible refine HSA.out.mono ?_);rintro e w7 ⟨rfl,hb7⟩;have hc7:=blkCell (blkOld HX6.out hb7);have B7:=joinB HB6.out hb7))
   go_ret
   exact⟨by rw[HIF.out];rfl,B7⟩
  ·obtain⟨h1,h2,h3⟩:=HN3.out
   have HIF:=Hq (show z=decide ((⟨lsn,prev,txn,6,0,0,0,⟨0,0,⟨#[]⟩,⟨#[]⟩⟩,0,0,⟨⟨#[]⟩,0,0⟩,[],[]⟩:Rc.Rec)=⟨lsn,prev,txn,6,page,next,nu,⟨ok,os,oo,on⟩,how,root,⟨ek,ep,es⟩,ts,ds⟩)from HZ.out.trans (Rc.rightB_of ((Rc.r_small (by omega) ⟨h1,h2,h3⟩).trans decide_eq_true_iff.symm)))
   clear h1 h2 h3
   have hcg:=blkCell HX5.out
   have HX6:=HX5
   have HG6:=HG5
   have HB6:=HB5
   obtain⟨W6,hW6⟩:=ex W5
   rw[← hW6]at HX6 HG6 HB6
   rw[← hW6]
   clear hW6 HX5 HG5 HB5 hcg
   have hcg:=blkCell HX6.out
   have HSA:=Hq (rsame_any (⟨lsn,prev,txn,6,0,0,0,⟨0,0,⟨#[]⟩,⟨#[]⟩⟩,0,0,⟨⟨#[]⟩,0,0⟩,[],[]⟩:Rc.Rec) ⟨lsn,prev,txn,6,page,next,nu,⟨ok,os,oo,on⟩,how,root,⟨ek,ep,es⟩,ts,ds⟩ none A none B 0 c 0 d W6 (recR_nil _ _ rfl rfl) (HRR.out _ HB6.out))
   dsimp only[recV,recA,List.length_nil]at HSA
   generalize decide ((⟨lsn,prev,txn,6,0,0,0,⟨0,0,⟨#[]⟩,⟨#[]⟩⟩,0,0,⟨⟨#[]⟩,0,0⟩,[],[]⟩:Rc.Rec)=⟨lsn,prev,txn,6,page,next,nu,⟨ok,os,oo,on⟩,how,root,⟨ek,ep,es⟩,ts,ds⟩)=q at HSA HIF
   go_wp2_with (first|(with_reducible refine lL HG6.out Tryz.underlying55 ?_)|(with_reducible refine lL HX6.out Tryz.underlying55 ?_)|(go_at_call 168;(with_reducible refine HSA.out.mono ?_);rintro e w7 ⟨rfl,hb7⟩;have hc7:=blkCell (blkOld HX6.out hb7);have B7:=joinB HB6.out hb7))
   go_ret
   exact⟨by rw[HIF.out];rfl,B7⟩
  ·obtain⟨h1,h2,h3⟩:=HN3.out
   have HIF:=Hq (show z=decide ((⟨lsn,prev,txn,7,0,0,0,⟨0,0,⟨#[]⟩,⟨#[]⟩⟩,0,0,⟨⟨#[]⟩,0,0⟩,[],[]⟩:Rc.Rec)=⟨lsn,prev,txn,7,page,next,nu,⟨ok,os,oo,on⟩,how,root,⟨ek,ep,es⟩,ts,ds⟩)from HZ.out.trans (Rc.rightB_of ((Rc.r_small (by omega) ⟨h1,h2,h3⟩).trans decide_eq_true_iff.symm)))
   clear h1 h2 h3
   have hcg:=blkCell HX5.out
   have HX6:=HX5
   have HG6:=HG5
   have HB6:=HB5
   obtain⟨W6,hW6⟩:=ex W5
   rw[← hW6]at HX6 HG6 HB6
   rw[← hW6]
   clear hW6 HX5 HG5 HB5 hcg
   have hcg:=blkCell HX6.out
   have HSA:=Hq (rsame_any (⟨lsn,prev,txn,7,0,0,0,⟨0,0,⟨#[]⟩,⟨#[]⟩⟩,0,0,⟨⟨#[]⟩,0,0⟩,[],[]⟩:Rc.Rec) ⟨lsn,prev,txn,7,page,next,nu,⟨ok,os,oo,on⟩,how,root,⟨ek,ep,es⟩,ts,ds⟩ none A none B 0 c 0 d W6 (recR_nil _ _ rfl rfl) (HRR.out _ HB6.out))
   dsimp only[recV,recA,List.length_nil]at HSA
   generalize decide ((⟨lsn,prev,txn,7,0,0,0,⟨0,0,⟨#[]⟩,⟨#[]⟩⟩,0,0,⟨⟨#[]⟩,0,0⟩,[],[]⟩:Rc.Rec)=⟨lsn,prev,txn,7,page,next,nu,⟨ok,os,oo,on⟩,how,root,⟨ek,ep,es⟩,ts,ds⟩)=q at HSA HIF
   go_wp2_with (first|(with_reducible refine lL HG6.out Tryz.underlying55 ?_)|(with_reducible refine lL HX6.out Tryz.underlying55 ?_)|(go_at_call 168;(with_reducible refine HSA.out.mono ?_);rintro e w7 ⟨rfl,hb7⟩;have hc7:=blkCell (blkOld HX6.out hb7);have B7:=joinB HB6.out hb7))
   go_ret
   exact⟨by rw[HIF.out];rfl,B7⟩
 ·obtain⟨h1,h2,h3⟩:=HN3.out
  have HIF:=Hq (show z=(decide ((⟨lsn,prev,txn,2,page,0,0,⟨ok,os,oo,on⟩,how,root,⟨ek,ep,es⟩,[],[]⟩:Rc.Rec)=⟨lsn,prev,txn,2,page,next,nu,⟨ok,os,oo,on⟩,how,root,⟨ek,ep,es⟩,ts,ds⟩)&&(decide (Rc.pg page∧Rc.opR ⟨ok,os,oo,on⟩∧Rc.treeR ⟨lsn,prev,txn,2,page,next,nu,⟨ok,os,oo,on⟩,how,root,⟨ek,ep,es⟩,ts,ds⟩)))from HZ.out.trans (Rc.rightB_of ((Rc.r_2 ⟨h1,h2,h3⟩).trans (by simp only[Bool.and_eq_true,decide_eq_true_eq];(try exact Iff.rfl)))))
  clear h1 h2 h3
  have hcg:=blkCell HX5.out
  go_upto_region 11 with fail
  have X0:=blkOld HX5.out (Below.refl _ W5).drew
  have G0:=blkOld HG5.out (Below.refl _ W5).drew
  have BB0:=joinB HB5.out (Below.refl _ W5).drew
  refine rgH (S:=(fun u=>u.heap[g]? =some (.cells (rcA lsn prev txn 2 page next nu ok os oo on how root ek ep es (.slice A ts.length c) (.slice B ds.length d)) 55 (0,0)))) (fun hHeld=>?_)
  generalize W5.drew=V0 at hHeld X0 G0 BB0 ⊢
  refine tkP 0 ?_;refine tkP 1 ?_;refine tkP 2 ?_;refine tkP 3 ?_;refine tkP 4 ?_;refine tkP 5 ?_;refine tkP 6 ?_;refine tkP 7 ?_;refine tkP 8 ?_;refine tkP 9 ?_;refine tkP 10 ?_
  refine rdP 11 fun K hK=>?_
  have hcx0:=blkCell G0
  have hzx0:=blkFrozen G0
  go_simp
  have X1:=(keep_set (b:=gx) (j:=4) (v:=.int .i64 page) X0 (by omega))
  have G1:(V0.setCell ⟨gx,4,none⟩ (.int .i64 page)).heap[gx]? =some (.cells (rcA lsn prev txn 2 page 0 0 0 0 ⟨#[]⟩ ⟨#[]⟩ 0 0 ⟨#[]⟩ 0 0 (.slice none 0 0) (.slice none 0 0)) 55 (0,0)):=(by have h:=(blkSet 4 G0 (.int .i64 page));simpa using h)
  try clear hSn
  have hSn:=X1
  refine hKo hK (fun hHeld=>?_)
  clear hK K
  refine tkP 12 ?_
  refine rdP 13 fun K hK=>?_
  have hcx1:=blkCell G1
  have hzx1:=blkFrozen G1
  go_simp
  have X2:=(keep_set (b:=gx) (j:=10) (v:=.string on) (keep_set (b:=gx) (j:=9) (v:=.string oo) (keep_set (b:=gx) (j:=8) (v:=.int .i64 os) (keep_set (b:=gx) (j:=7) (v:=.int .i64 ok) X1 (by omega)) (by omega)) (by omega)) (by omega))
  have G2:(((((V0.setCell ⟨gx,4,none⟩ (.int .i64 page)).setCell ⟨gx,7,none⟩ (.int .i64 ok)).setCell ⟨gx,8,none⟩ (.int .i64 os)).setCell ⟨gx,9,none⟩ (.string oo)).setCell ⟨gx,10,none⟩ (.string on)).heap[gx]? =some (.cells (rcA lsn prev txn 2 page 0 0 ok os oo on 0 0 ⟨#[]⟩ 0 0 (.slice none 0 0) (.slice none 0 0)) 55 (0,0)):=(by have h:=(blkSet 10 (blkSet 9 (blkSet 8 (blkSet 7 G1 (.int .i64 ok)) (.int .i64 os)) (.string oo)) (.string on));simpa using h)
  try clear hSn
  have hSn:=X2
  refine hKo hK (fun hHeld=>?_)
  clear hK K
  refine tkP 14 ?_
  refine rdP 15 fun K hK=>?_
  have hcx2:=blkCell G2
  have hzx2:=blkFrozen G2
  go_simp
  have X3:=(keep_set (b:=gx) (j:=11) (v:=.int .i64 how) X2 (by omega))
  have G3:((((((V0.setCell ⟨gx,4,none⟩ (.int .i64 page)).setCell ⟨gx,7,none⟩ (.int .i64 ok)).setCell ⟨gx,8,none⟩ (.int .i64 os)).setCell ⟨gx,9,none⟩ (.string oo)).setCell ⟨gx,10,none⟩ (.string on)).setCell ⟨gx,11,none⟩ (.int .i64 how)).heap[gx]? =some (.cells (rcA lsn prev txn 2 page 0 0 ok os oo on how 0 ⟨#[]⟩ 0 0 (.slice none 0 0) (.slice none 0 0)) 55 (0,0)):=(by have h:=(blkSet 11 G2 (.int .i64 how));simpa using h)
  try clear hSn
  have hSn:=X3
  refine hKo hK (fun hHeld=>?_)
  clear hK K
  refine tkP 16 ?_
  refine rdP 17 fun K hK=>?_
  have hcx3:=blkCell G3
  have hzx3:=blkFrozen G3
  go_simp
  have X4:=(keep_set (b:=gx) (j:=12) (v:=.int .i64 root) X3 (by omega))
  have G4:(((((((V0.setCell ⟨gx,4,none⟩ (.int .i64 page)).setCell ⟨gx,7,none⟩ (.int .i64 ok)).setCell ⟨gx,8,none⟩ (.int .i64 os)).setCell ⟨gx,9,none⟩ (.string oo)).setCell ⟨gx,10,none⟩ (.string on)).setCell ⟨gx,11,none⟩ (.int .i64 how)).setCell ⟨gx,12,none⟩ (.int .i64 root)).heap[gx]? =some (.cells (rcA lsn prev txn 2 page 0 0 ok os oo on how root ⟨#[]⟩ 0 0 (.slice none 0 0) (.slice none 0 0)) 55 (0,0)):=(by have h:=(blkSet 12 G3 (.int .i64 root));simpa using h)
  try clear hSn
  have hSn:=X4
  refine hKo hK (fun hHeld=>?_)
  clear hK K
  refine tkP 18 ?_
  refine rdP 19 fun K hK=>?_
  have hcx4:=blkCell G4
  have hzx4:=blkFrozen G4
  go_simp
  have X5:=(keep_set (b:=gx) (j:=15) (v:=.int .i64 es) (keep_set (b:=gx) (j:=14) (v:=.int .i64 ep) (keep_set (b:=gx) (j:=13) (v:=.string ek) X4 (by omega)) (by omega)) (by omega))
  have G5:((((((((((V0.setCell ⟨gx,4,none⟩ (.int .i64 page)).setCell ⟨gx,7,none⟩ (.int .i64 ok)).setCell ⟨gx,8,none⟩ (.int .i64 os)).setCell ⟨gx,9,none⟩ (.string oo)).setCell ⟨gx,10,none⟩ (.string on)).setCell ⟨gx,11,none⟩ (.int .i64 how)).setCell ⟨gx,12,none⟩ (.int .i64 root)).setCell ⟨gx,13,none⟩ (.string ek)).setCell ⟨gx,14,none⟩ (.int .i64 ep)).setCell ⟨gx,15,none⟩ (.int .i64 es)).heap[gx]? =some (.cells (rcA lsn prev txn 2 page 0 0 ok os oo on how root ek ep es (.slice none 0 0) (.slice none 0 0)) 55 (0,0)):=(by have h:=(blkSet 15 (blkSet 14 (blkSet 13 G4 (.string ek)) (.int .i64 ep)) (.int .i64 es));simpa using h)
  try clear hSn
  have hSn:=X5
  refine hKo hK (fun hHeld=>?_)
  clear hK K
  refine wpAnyH_done Kr ?_ _
  clear hHeld hSn
  have HX6:=Hq (show((((((((((V0.setCell ⟨gx,4,none⟩ (.int .i64 page)).setCell ⟨gx,7,none⟩ (.int .i64 ok)).setCell ⟨gx,8,none⟩ (.int .i64 os)).setCell ⟨gx,9,none⟩ (.string oo)).setCell ⟨gx,10,none⟩ (.string on)).setCell ⟨gx,11,none⟩ (.int .i64 how)).setCell ⟨gx,12,none⟩ (.int .i64 root)).setCell ⟨gx,13,none⟩ (.string ek)).setCell ⟨gx,14,none⟩ (.int .i64 ep)).setCell ⟨gx,15,none⟩ (.int .i64 es)).heap[g]? =some (.cells (rcA lsn prev txn 2 page next nu ok os oo on how root ek ep es (.slice A ts.length c) (.slice B ds.length d)) 55 (0,0))from X5)
  have HG6:=Hq (show((((((((((V0.setCell ⟨gx,4,none⟩ (.int .i64 page)).setCell ⟨gx,7,none⟩ (.int .i64 ok)).setCell ⟨gx,8,none⟩ (.int .i64 os)).setCell ⟨gx,9,none⟩ (.string oo)).setCell ⟨gx,10,none⟩ (.string on)).setCell ⟨gx,11,none⟩ (.int .i64 how)).setCell ⟨gx,12,none⟩ (.int .i64 root)).setCell ⟨gx,13,none⟩ (.string ek)).setCell ⟨gx,14,none⟩ (.int .i64 ep)).setCell ⟨gx,15,none⟩ (.int .i64 es)).heap[gx]? =some (.cells (rcA lsn prev txn 2 page 0 0 ok os oo on how root ek ep es (.slice none 0 0) (.slice none 0 0)) 55 (0,0))from by have h:=G5;simpa using h)
  have HB6:=Hq (show Below w.heap.size w ((((((((((V0.setCell ⟨gx,4,none⟩ (.int .i64 page)).setCell ⟨gx,7,none⟩ (.int .i64 ok)).setCell ⟨gx,8,none⟩ (.int .i64 os)).setCell ⟨gx,9,none⟩ (.string oo)).setCell ⟨gx,10,none⟩ (.string on)).setCell ⟨gx,11,none⟩ (.int .i64 how)).setCell ⟨gx,12,none⟩ (.int .i64 root)).setCell ⟨gx,13,none⟩ (.string ek)).setCell ⟨gx,14,none⟩ (.int .i64 ep)).setCell ⟨gx,15,none⟩ (.int .i64 es))from((((((((((BB0.setCell (p:=⟨gx,4,none⟩) (by show _≤gx;omega) (.int .i64 page)).setCell (p:=⟨gx,7,none⟩) (by show _≤gx;omega) (.int .i64 ok)).setCell (p:=⟨gx,8,none⟩) (by show _≤gx;omega) (.int .i64 os)).setCell (p:=⟨gx,9,none⟩) (by show _≤gx;omega) (.string oo)).setCell (p:=⟨gx,10,none⟩) (by show _≤gx;omega) (.string on)).setCell (p:=⟨gx,11,none⟩) (by show _≤gx;omega) (.int .i64 how)).setCell (p:=⟨gx,12,none⟩) (by show _≤gx;omega) (.int .i64 root)).setCell (p:=⟨gx,13,none⟩) (by show _≤gx;omega) (.string ek)).setCell (p:=⟨gx,14,none⟩) (by show _≤gx;omega) (.int .i64 ep)).setCell (p:=⟨gx,15,none⟩) (by show _≤gx;omega) (.int .i64 es)))
  obtain⟨W6,hW6⟩:=ex ((((((((((V0.setCell ⟨gx,4,none⟩ (.int .i64 page)).setCell ⟨gx,7,none⟩ (.int .i64 ok)).setCell ⟨gx,8,none⟩ (.int .i64 os)).setCell ⟨gx,9,none⟩ (.string oo)).setCell ⟨gx,10,none⟩ (.string on)).setCell ⟨gx,11,none⟩ (.int .i64 how)).setCell ⟨gx,12,none⟩ (.int .i64 root)).setCell ⟨gx,13,none⟩ (.string ek)).setCell ⟨gx,14,none⟩ (.int .i64 ep)).setCell ⟨gx,15,none⟩ (.int .i64 es))
  rw[← hW6]at HX6 HG6 HB6
  rw[← hW6]
  clear hW6 HX5 HG5 HB5 hcg X0 G0 BB0 X1 G1 hcx0 hzx0 X2 G2 hcx1 hzx1 X3 G3 hcx2 hzx2 X4 G4 hcx3 hzx3 X5 G5 hcx4 hzx4
  have hcg:=blkCell HX6.out
  have HSA:=Hq (rsame_any (⟨lsn,prev,txn,2,page,0,0,⟨ok,os,oo,on⟩,how,root,⟨ek,ep,es⟩,[],[]⟩:Rc.Rec) ⟨lsn,prev,txn,2,page,next,nu,⟨ok,os,oo,on⟩,how,root,⟨ek,ep,es⟩,ts,ds⟩ none A none B 0 c 0 d W6 (recR_nil _ _ rfl rfl) (HRR.out _ HB6.out))
  dsimp only[recV,recA,List.length_nil]at HSA
  generalize decide ((⟨lsn,prev,txn,2,page,0,0,⟨ok,os,oo,on⟩,how,root,⟨ek,ep,es⟩,[],[]⟩:Rc.Rec)=⟨lsn,prev,txn,2,page,next,nu,⟨ok,os,oo,on⟩,how,root,⟨ek,ep,es⟩,ts,ds⟩)=q at HSA HIF
  cases q with
  |false=>
   have HZ2:=Hq (show z=false from HIF.out.trans (Bool.false_and _))
   go_wp2_with (first|(with_reducible refine lL HG6.out Tryz.underlying55 ?_)|(with_reducible refine lL HX6.out Tryz.underlying55 ?_)|(go_at_call 168;(with_reducible refine HSA.out.mono ?_);rintro e w7 ⟨rfl,hb7⟩;have hc7:=blkCell (blkOld HX6.out hb7);have B7:=joinB HB6.out hb7))
   go_ret
   exact⟨by rw[HZ2.out];rfl,B7⟩
  |true=>
   have HIF0:=Hq (HIF.out.trans (Bool.true_and _))
   clear HIF
   have HCH:=Hq (fun W=>rchange_any ⟨lsn,prev,txn,2,page,next,nu,⟨ok,os,oo,on⟩,how,root,⟨ek,ep,es⟩,ts,ds⟩ (.slice A ts.length c) (.slice B ds.length d) W)
   (try dsimp only[recV,recA,opV]at HCH)
   generalize decide (Rc.pg page∧Rc.opR ⟨ok,os,oo,on⟩∧Rc.treeR ⟨lsn,prev,txn,2,page,next,nu,⟨ok,os,oo,on⟩,how,root,⟨ek,ep,es⟩,ts,ds⟩)=p0 at HCH HIF0
   go_wp2_with (first|(with_reducible refine lL HG6.out Tryz.underlying55 ?_)|(with_reducible refine lL HX6.out Tryz.underlying55 ?_)|(go_at_call 168;(with_reducible refine HSA.out.mono ?_);rintro e w7 ⟨rfl,hb7⟩;have hc7:=blkCell (blkOld HX6.out hb7);have B7:=joinB HB6.out hb7)|(with_reducible refine lL (blkOld HX6.out hb7) Tryz.underlying55 ?_)|(go_at_call 169;(with_reducible refine(HCH.out _).mono ?_);rintro e w8 ⟨rfl,hb8⟩;have hc8:=blkCell (blkOld (blkOld HX6.out hb7) hb8);have B8:=joinB B7 hb8))
   go_ret
   exact⟨by rw[HIF0.out];simp,B8⟩
 ·obtain⟨h1,h2,h3⟩:=HN3.out
  have HIF:=Hq (show z=(decide ((⟨lsn,prev,txn,3,page,next,0,⟨ok,os,oo,on⟩,0,0,⟨⟨#[]⟩,0,0⟩,[],[]⟩:Rc.Rec)=⟨lsn,prev,txn,3,page,next,nu,⟨ok,os,oo,on⟩,how,root,⟨ek,ep,es⟩,ts,ds⟩)&&(decide (Rc.pg page)&&(decide (Rc.opR ⟨ok,os,oo,on⟩)&&(decide (Rc.num next)))))from HZ.out.trans (Rc.rightB_of ((Rc.r_3 ⟨h1,h2,h3⟩).trans (by simp only[Bool.and_eq_true,decide_eq_true_eq];(try exact Iff.rfl)))))
  clear h1 h2 h3
  have hcg:=blkCell HX5.out
  go_upto_region 14 with fail
  have X0:=blkOld HX5.out (Below.refl _ W5).drew
  have G0:=blkOld HG5.out (Below.refl _ W5).drew
  have BB0:=joinB HB5.out (Below.refl _ W5).drew
  refine rgH (S:=(fun u=>u.heap[g]? =some (.cells (rcA lsn prev txn 3 page next nu ok os oo on how root ek ep es (.slice A ts.length c) (.slice B ds.length d)) 55 (0,0)))) (fun hHeld=>?_)
  generalize W5.drew=V0 at hHeld X0 G0 BB0 ⊢
  refine tkP 0 ?_;refine tkP 1 ?_;refine tkP 2 ?_;refine tkP 3 ?_;refine tkP 4 ?_;refine tkP 5 ?_;refine tkP 6 ?_
  refine rdP 7 fun K hK=>?_
  have hcx0:=blkCell G0
  have hzx0:=blkFrozen G0
  go_simp
  have X1:=(keep_set (b:=gx) (j:=4) (v:=.int .i64 page) X0 (by omega))
  have G1:(V0.setCell ⟨gx,4,none⟩ (.int .i64 page)).heap[gx]? =some (.cells (rcA lsn prev txn 3 page 0 0 0 0 ⟨#[]⟩ ⟨#[]⟩ 0 0 ⟨#[]⟩ 0 0 (.slice none 0 0) (.slice none 0 0)) 55 (0,0)):=(by have h:=(blkSet 4 G0 (.int .i64 page));simpa using h)
  try clear hSn
  have hSn:=X1
  refine hKo hK (fun hHeld=>?_)
  clear hK K
  refine tkP 8 ?_
  refine rdP 9 fun K hK=>?_
  have hcx1:=blkCell G1
  have hzx1:=blkFrozen G1
  go_simp
  have X2:=(keep_set (b:=gx) (j:=10) (v:=.string on) (keep_set (b:=gx) (j:=9) (v:=.string oo) (keep_set (b:=gx) (j:=8) (v:=.int .i64 os) (keep_set (b:=gx) (j:=7) (v:=.int .i64 ok) X1 (by omega)) (by omega)) (by omega)) (by omega))
  have G2:(((((V0.setCell ⟨gx,4,none⟩ (.int .i64 page)).setCell ⟨gx,7,none⟩ (.int .i64 ok)).setCell ⟨gx,8,none⟩ (.int .i64 os)).setCell ⟨gx,9,none⟩ (.string oo)).setCell ⟨gx,10,none⟩ (.string on)).heap[gx]? =some (.cells (rcA lsn prev txn 3 page 0 0 ok os oo on 0 0 ⟨#[]⟩ 0 0 (.slice none 0 0) (.slice none 0 0)) 55 (0,0)):=(by have h:=(blkSet 10 (blkSet 9 (blkSet 8 (blkSet 7 G1 (.int .i64 ok)) (.int .i64 os)) (.string oo)) (.string on));simpa using h)
  try clear hSn
  have hSn:=X2
  refine hKo hK (fun hHeld=>?_)
  clear hK K
  refine tkP 10 ?_
  refine rdP 11 fun K hK=>?_
  have hcx2:=blkCell G2
  have hzx2:=blkFrozen G2
  go_simp
  have X3:=(keep_set (b:=gx) (j:=5) (v:=.int .i64 next) X2 (by omega))
  have G3:((((((V0.setCell ⟨gx,4,none⟩ (.int .i64 page)).setCell ⟨gx,7,none⟩ (.int .i64 ok)).setCell ⟨gx,8,none⟩ (.int .i64 os)).setCell ⟨gx,9,none⟩ (.string oo)).setCell ⟨gx,10,none⟩ (.string on)).setCell ⟨gx,5,none⟩ (.int .i64 next)).heap[gx]? =some (.cells (rcA lsn prev txn 3 page next 0 ok os oo on 0 0 ⟨#[]⟩ 0 0 (.slice none 0 0) (.slice none 0 0)) 55 (0,0)):=(by have h:=(blkSet 5 G2 (.int .i64 next));simpa using h)
  try clear hSn
  have hSn:=X3
  refine hKo hK (fun hHeld=>?_)
  clear hK K
  refine wpAnyH_done Kr ?_ _
  clear hHeld hSn
  have HX6:=Hq (show((((((V0.setCell ⟨gx,4,none⟩ (.int .i64 page)).setCell ⟨gx,7,none⟩ (.int .i64 ok)).setCell ⟨gx,8,none⟩ (.int .i64 os)).setCell ⟨gx,9,none⟩ (.string oo)).setCell ⟨gx,10,none⟩ (.string on)).setCell ⟨gx,5,none⟩ (.int .i64 next)).heap[g]? =some (.cells (rcA lsn prev txn 3 page next nu ok os oo on how root ek ep es (.slice A ts.length c) (.slice B ds.length d)) 55 (0,0))from X3)
  have HG6:=Hq (show((((((V0.setCell ⟨gx,4,none⟩ (.int .i64 page)).setCell ⟨gx,7,none⟩ (.int .i64 ok)).setCell ⟨gx,8,none⟩ (.int .i64 os)).setCell ⟨gx,9,none⟩ (.string oo)).setCell ⟨gx,10,none⟩ (.string on)).setCell ⟨gx,5,none⟩ (.int .i64 next)).heap[gx]? =some (.cells (rcA lsn prev txn 3 page next 0 ok os oo on 0 0 ⟨#[]⟩ 0 0 (.slice none 0 0) (.slice none 0 0)) 55 (0,0))from by have h:=G3;simpa using h)
  have HB6:=Hq (show Below w.heap.size w ((((((V0.setCell ⟨gx,4,none⟩ (.int .i64 page)).setCell ⟨gx,7,none⟩ (.int .i64 ok)).setCell ⟨gx,8,none⟩ (.int .i64 os)).setCell ⟨gx,9,none⟩ (.string oo)).setCell ⟨gx,10,none⟩ (.string on)).setCell ⟨gx,5,none⟩ (.int .i64 next))from((((((BB0.setCell (p:=⟨gx,4,none⟩) (by show _≤gx;omega) (.int .i64 page)).setCell (p:=⟨gx,7,none⟩) (by show _≤gx;omega) (.int .i64 ok)).setCell (p:=⟨gx,8,none⟩) (by show _≤gx;omega) (.int .i64 os)).setCell (p:=⟨gx,9,none⟩) (by show _≤gx;omega) (.string oo)).setCell (p:=⟨gx,10,none⟩) (by show _≤gx;omega) (.string on)).setCell (p:=⟨gx,5,none⟩) (by show _≤gx;omega) (.int .i64 next)))
  obtain⟨W6,hW6⟩:=ex ((((((V0.setCell ⟨gx,4,none⟩ (.int .i64 page)).setCell ⟨gx,7,none⟩ (.int .i64 ok)).setCell ⟨gx,8,none⟩ (.int .i64 os)).setCell ⟨gx,9,none⟩ (.string oo)).setCell ⟨gx,10,none⟩ (.string on)).setCell ⟨gx,5,none⟩ (.int .i64 next))
  rw[← hW6]at HX6 HG6 HB6
  rw[← hW6]
  clear hW6 HX5 HG5 HB5 hcg X0 G0 BB0 X1 G1 hcx0 hzx0 X2 G2 hcx1 hzx1 X3 G3 hcx2 hzx2
  have hcg:=blkCell HX6.out
  have HSA:=Hq (rsame_any (⟨lsn,prev,txn,3,page,next,0,⟨ok,os,oo,on⟩,0,0,⟨⟨#[]⟩,0,0⟩,[],[]⟩:Rc.Rec) ⟨lsn,prev,txn,3,page,next,nu,⟨ok,os,oo,on⟩,how,root,⟨ek,ep,es⟩,ts,ds⟩ none A none B 0 c 0 d W6 (recR_nil _ _ rfl rfl) (HRR.out _ HB6.out))
  dsimp only[recV,recA,List.length_nil]at HSA
  generalize decide ((⟨lsn,prev,txn,3,page,next,0,⟨ok,os,oo,on⟩,0,0,⟨⟨#[]⟩,0,0⟩,[],[]⟩:Rc.Rec)=⟨lsn,prev,txn,3,page,next,nu,⟨ok,os,oo,on⟩,how,root,⟨ek,ep,es⟩,ts,ds⟩)=q at HSA HIF
  cases q with
  |false=>
   have HZ2:=Hq (show z=false from HIF.out.trans (Bool.false_and _))
   go_wp2_with (first|(with_reducible refine lL HG6.out Tryz.underlying55 ?_)|(with_reducible refine lL HX6.out Tryz.underlying55 ?_)|(go_at_call 168;(with_reducible refine HSA.out.mono ?_);rintro e w7 ⟨rfl,hb7⟩;have hc7:=blkCell (blkOld HX6.out hb7);have B7:=joinB HB6.out hb7))
   go_ret
   exact⟨by rw[HZ2.out];rfl,B7⟩
  |true=>
   have HIF0:=Hq (HIF.out.trans (Bool.true_and _))
   clear HIF
   have HPG:=Hq (fun W=>rpage_any page W)
   (try dsimp only[recV,recA,opV]at HPG)
   generalize decide (Rc.pg page)=p0 at HPG HIF0
   cases p0 with
   |false=>
    have HZ2:=Hq (show z=false from HIF0.out.trans (Bool.false_and _))
    go_wp2_with (first|(with_reducible refine lL HG6.out Tryz.underlying55 ?_)|(with_reducible refine lL HX6.out Tryz.underlying55 ?_)|(go_at_call 168;(with_reducible refine HSA.out.mono ?_);rintro e w7 ⟨rfl,hb7⟩;have hc7:=blkCell (blkOld HX6.out hb7);have B7:=joinB HB6.out hb7)|(go_at_call 170;(with_reducible refine(HPG.out _).mono ?_);rintro e w8 ⟨rfl,hb8⟩;have hc8:=blkCell (blkOld (blkOld HX6.out hb7) hb8);have B8:=joinB B7 hb8))
    go_ret
    exact⟨by rw[HZ2.out];rfl,B8⟩
   |true=>
   have HIF1:=Hq (HIF0.out.trans (Bool.true_and _))
   have HOP:=Hq (fun W=>rop_any ⟨ok,os,oo,on⟩ W)
   (try dsimp only[recV,recA,opV]at HOP)
   generalize decide (Rc.opR ⟨ok,os,oo,on⟩)=p1 at HOP HIF1
   cases p1 with
   |false=>
    have HZ2:=Hq (show z=false from HIF1.out.trans (Bool.false_and _))
    go_wp2_with (first|(with_reducible refine lL HG6.out Tryz.underlying55 ?_)|(with_reducible refine lL HX6.out Tryz.underlying55 ?_)|(go_at_call 168;(with_reducible refine HSA.out.mono ?_);rintro e w7 ⟨rfl,hb7⟩;have hc7:=blkCell (blkOld HX6.out hb7);have B7:=joinB HB6.out hb7)|(go_at_call 170;(with_reducible refine(HPG.out _).mono ?_);rintro e w8 ⟨rfl,hb8⟩;have hc8:=blkCell (blkOld (blkOld HX6.out hb7) hb8);have B8:=joinB B7 hb8)|(go_at_call 171;(with_reducible refine(HOP.out _).mono ?_);rintro e w9 ⟨rfl,hb9⟩;have hc9:=blkCell (blkOld (blkOld (blkOld HX6.out hb7) hb8) hb9);have B9:=joinB B8 hb9))
    go_ret
    exact⟨by rw[HZ2.out];rfl,B9⟩
   |true=>
   have HIF2:=Hq (HIF1.out.trans (Bool.true_and _))
   have HNX:=Hq (fun W=>rnumber_any next W)
   (try dsimp only[recV,recA,opV]at HNX)
   generalize decide (Rc.num next)=p2 at HNX HIF2
   go_wp2_with (first|(with_reducible refine lL HG6.out Tryz.underlying55 ?_)|(with_reducible refine lL HX6.out Tryz.underlying55 ?_)|(go_at_call 168;(with_reducible refine HSA.out.mono ?_);rintro e w7 ⟨rfl,hb7⟩;have hc7:=blkCell (blkOld HX6.out hb7);have B7:=joinB HB6.out hb7)|(go_at_call 170;(with_reducible refine(HPG.out _).mono ?_);rintro e w8 ⟨rfl,hb8⟩;have hc8:=blkCell (blkOld (blkOld HX6.out hb7) hb8);have B8:=joinB B7 hb8)|(go_at_call 171;(with_reducible refine(HOP.out _).mono ?_);rintro e w9 ⟨rfl,hb9⟩;have hc9:=blkCell (blkOld (blkOld (blkOld HX6.out hb7) hb8) hb9);have B9:=joinB B8 hb9)|(go_at_call 166;(with_reducible refine(HNX.out _).mono ?_);rintro e w10 ⟨rfl,hb10⟩;have hc10:=blkCell (blkOld (blkOld (blkOld (blkOld HX6.out hb7) hb8) hb9) hb10);have B10:=joinB B9 hb10))
   go_ret
   exact⟨by rw[HIF2.out];simp,B10⟩
 ·obtain⟨h1,h2,h3⟩:=HN3.out
  have HIF:=Hq (show z=(decide ((⟨lsn,prev,txn,4,0,next,0,⟨0,0,⟨#[]⟩,⟨#[]⟩⟩,0,0,⟨⟨#[]⟩,0,0⟩,[],[]⟩:Rc.Rec)=⟨lsn,prev,txn,4,page,next,nu,⟨ok,os,oo,on⟩,how,root,⟨ek,ep,es⟩,ts,ds⟩)&&(decide (Rc.num next)))from HZ.out.trans (Rc.rightB_of ((Rc.r_4 ⟨h1,h2,h3⟩).trans (by simp only[Bool.and_eq_true,decide_eq_true_eq];(try exact Iff.rfl)))))
  clear h1 h2 h3
  have hcg:=blkCell HX5.out
  have hcx:=blkCell HG5.out
  have hzx:=blkFrozen HG5.out
  go_upto_region 18 with fail
  have HX6:=Hq (show(W5.setCell ⟨gx,5,none⟩ (.int .i64 next)).heap[g]? =some (.cells (rcA lsn prev txn 4 page next nu ok os oo on how root ek ep es (.slice A ts.length c) (.slice B ds.length d)) 55 (0,0))from keep_set (b:=gx) HX5.out (by omega))
  have HG6:=Hq (show(W5.setCell ⟨gx,5,none⟩ (.int .i64 next)).heap[gx]? =some (.cells (rcA lsn prev txn 4 0 next 0 0 0 ⟨#[]⟩ ⟨#[]⟩ 0 0 ⟨#[]⟩ 0 0 (.slice none 0 0) (.slice none 0 0)) 55 (0,0))from by have h:=blkSet 5 HG5.out (.int .i64 next);simpa using h)
  have HB6:=Hq (show Below w.heap.size w (W5.setCell ⟨gx,5,none⟩ (.int .i64 next))from HB5.out.setCell (p:=⟨gx,5,none⟩) (by show _≤gx;omega) (.int .i64 next))
  obtain⟨W6,hW6⟩:=ex (W5.setCell ⟨gx,5,none⟩ (.int .i64 next))
  rw[← hW6]at HX6 HG6 HB6
  rw[← hW6]
  clear hW6 HX5 HG5 HB5 hcg hcx hzx
  have hcg:=blkCell HX6.out
  have HSA:=Hq (rsame_any (⟨lsn,prev,txn,4,0,next,0,⟨0,0,⟨#[]⟩,⟨#[]⟩⟩,0,0,⟨⟨#[]⟩,0,0⟩,[],[]⟩:Rc.Rec) ⟨lsn,prev,txn,4,page,next,nu,⟨ok,os,oo,on⟩,how,root,⟨ek,ep,es⟩,ts,ds⟩ none A none B 0 c 0 d W6 (recR_nil _ _ rfl rfl) (HRR.out _ HB6.out))
  dsimp only[recV,recA,List.length_nil]at HSA
  generalize decide ((⟨lsn,prev,txn,4,0,next,0,⟨0,0,⟨#[]⟩,⟨#[]⟩⟩,0,0,⟨⟨#[]⟩,0,0⟩,[],[]⟩:Rc.Rec)=⟨lsn,prev,txn,4,page,next,nu,⟨ok,os,oo,on⟩,how,root,⟨ek,ep,es⟩,ts,ds⟩)=q at HSA HIF
  cases q with
  |false=>
   have HZ2:=Hq (show z=false from HIF.out.trans (Bool.false_and _))
   go_wp2_with (first|(with_reducible refine lL HG6.out Tryz.underlying55 ?_)|(with_reducible refine lL HX6.out Tryz.underlying55 ?_)|(go_at_call 168;(with_reducible refine HSA.out.mono ?_);rintro e w7 ⟨rfl,hb7⟩;have hc7:=blkCell (blkOld HX6.out hb7);have B7:=joinB HB6.out hb7))
   go_ret
   exact⟨by rw[HZ2.out];rfl,B7⟩
  |true=>
   have HIF0:=Hq (HIF.out.trans (Bool.true_and _))
   clear HIF
   have HNX:=Hq (fun W=>rnumber_any next W)
   (try dsimp only[recV,recA,opV]at HNX)
   generalize decide (Rc.num next)=p0 at HNX HIF0
   go_wp2_with (first|(with_reducible refine lL HG6.out Tryz.underlying55 ?_)|(with_reducible refine lL HX6.out Tryz.underlying55 ?_)|(go_at_call 168;(with_reducible refine HSA.out.mono ?_);rintro e w7 ⟨rfl,hb7⟩;have hc7:=blkCell (blkOld HX6.out hb7);have B7:=joinB HB6.out hb7)|(go_at_call 166;(with_reducible refine(HNX.out _).mono ?_);rintro e w8 ⟨rfl,hb8⟩;have hc8:=blkCell (blkOld (blkOld HX6.out hb7) hb8);have B8:=joinB B7 hb8))
   go_ret
   exact⟨by rw[HIF0.out];simp,B8⟩
 ·obtain⟨h1,h2,h3⟩:=HN3.out
  have HIF:=Hq (show z=(decide ((⟨lsn,prev,txn,8,page,0,0,⟨ok,os,oo,on⟩,0,0,⟨⟨#[]⟩,0,0⟩,[],[]⟩:Rc.Rec)=⟨lsn,prev,txn,8,page,next,nu,⟨ok,os,oo,on⟩,how,root,⟨ek,ep,es⟩,ts,ds⟩)&&(decide (Rc.pg page)&&(decide (Rc.opR ⟨ok,os,oo,on⟩))))from HZ.out.trans (Rc.rightB_of ((Rc.r_8 ⟨h1,h2,h3⟩).trans (by simp only[Bool.and_eq_true,decide_eq_true_eq];(try exact Iff.rfl)))))
  clear h1 h2 h3
  have hcg:=blkCell HX5.out
  go_upto_region 20 with fail
  have X0:=blkOld HX5.out (Below.refl _ W5).drew
  have G0:=blkOld HG5.out (Below.refl _ W5).drew
  have BB0:=joinB HB5.out (Below.refl _ W5).drew
  refine rgH (S:=(fun u=>u.heap[g]? =some (.cells (rcA lsn prev txn 8 page next nu ok os oo on how root ek ep es (.slice A ts.length c) (.slice B ds.length d)) 55 (0,0)))) (fun hHeld=>?_)
  generalize W5.drew=V0 at hHeld X0 G0 BB0 ⊢
  refine tkP 0 ?_;refine tkP 1 ?_;refine tkP 2 ?_;refine tkP 3 ?_;refine tkP 4 ?_
  refine rdP 5 fun K hK=>?_
  have hcx0:=blkCell G0
  have hzx0:=blkFrozen G0
  go_simp
  have X1:=(keep_set (b:=gx) (j:=4) (v:=.int .i64 page) X0 (by omega))
  have G1:(V0.setCell ⟨gx,4,none⟩ (.int .i64 page)).heap[gx]? =some (.cells (rcA lsn prev txn 8 page 0 0 0 0 ⟨#[]⟩ ⟨#[]⟩ 0 0 ⟨#[]⟩ 0 0 (.slice none 0 0) (.slice none 0 0)) 55 (0,0)):=(by have h:=(blkSet 4 G0 (.int .i64 page));simpa using h)
  try clear hSn
  have hSn:=X1
  refine hKo hK (fun hHeld=>?_)
  clear hK K
  refine tkP 6 ?_
  refine rdP 7 fun K hK=>?_
  have hcx1:=blkCell G1
  have hzx1:=blkFrozen G1
  go_simp
  have X2:=(keep_set (b:=gx) (j:=10) (v:=.string on) (keep_set (b:=gx) (j:=9) (v:=.string oo) (keep_set (b:=gx) (j:=8) (v:=.int .i64 os) (keep_set (b:=gx) (j:=7) (v:=.int .i64 ok) X1 (by omega)) (by omega)) (by omega)) (by omega))
  have G2:(((((V0.setCell ⟨gx,4,none⟩ (.int .i64 page)).setCell ⟨gx,7,none⟩ (.int .i64 ok)).setCell ⟨gx,8,none⟩ (.int .i64 os)).setCell ⟨gx,9,none⟩ (.string oo)).setCell ⟨gx,10,none⟩ (.string on)).heap[gx]? =some (.cells (rcA lsn prev txn 8 page 0 0 ok os oo on 0 0 ⟨#[]⟩ 0 0 (.slice none 0 0) (.slice none 0 0)) 55 (0,0)):=(by have h:=(blkSet 10 (blkSet 9 (blkSet 8 (blkSet 7 G1 (.int .i64 ok)) (.int .i64 os)) (.string oo)) (.string on));simpa using h)
  try clear hSn
  have hSn:=X2
  refine hKo hK (fun hHeld=>?_)
  clear hK K
  refine wpAnyH_done Kr ?_ _
  clear hHeld hSn
  have HX6:=Hq (show(((((V0.setCell ⟨gx,4,none⟩ (.int .i64 page)).setCell ⟨gx,7,none⟩ (.int .i64 ok)).setCell ⟨gx,8,none⟩ (.int .i64 os)).setCell ⟨gx,9,none⟩ (.string oo)).setCell ⟨gx,10,none⟩ (.string on)).heap[g]? =some (.cells (rcA lsn prev txn 8 page next nu ok os oo on how root ek ep es (.slice A ts.length c) (.slice B ds.length d)) 55 (0,0))from X2)
  have HG6:=Hq (show(((((V0.setCell ⟨gx,4,none⟩ (.int .i64 page)).setCell ⟨gx,7,none⟩ (.int .i64 ok)).setCell ⟨gx,8,none⟩ (.int .i64 os)).setCell ⟨gx,9,none⟩ (.string oo)).setCell ⟨gx,10,none⟩ (.string on)).heap[gx]? =some (.cells (rcA lsn prev txn 8 page 0 0 ok os oo on 0 0 ⟨#[]⟩ 0 0 (.slice none 0 0) (.slice none 0 0)) 55 (0,0))from by have h:=G2;simpa using h)
  have HB6:=Hq (show Below w.heap.size w (((((V0.setCell ⟨gx,4,none⟩ (.int .i64 page)).setCell ⟨gx,7,none⟩ (.int .i64 ok)).setCell ⟨gx,8,none⟩ (.int .i64 os)).setCell ⟨gx,9,none⟩ (.string oo)).setCell ⟨gx,10,none⟩ (.string on))from(((((BB0.setCell (p:=⟨gx,4,none⟩) (by show _≤gx;omega) (.int .i64 page)).setCell (p:=⟨gx,7,none⟩) (by show _≤gx;omega) (.int .i64 ok)).setCell (p:=⟨gx,8,none⟩) (by show _≤gx;omega) (.int .i64 os)).setCell (p:=⟨gx,9,none⟩) (by show _≤gx;omega) (.string oo)).setCell (p:=⟨gx,10,none⟩) (by show _≤gx;omega) (.string on)))
  obtain⟨W6,hW6⟩:=ex (((((V0.setCell ⟨gx,4,none⟩ (.int .i64 page)).setCell ⟨gx,7,none⟩ (.int .i64 ok)).setCell ⟨gx,8,none⟩ (.int .i64 os)).setCell ⟨gx,9,none⟩ (.string oo)).setCell ⟨gx,10,none⟩ (.string on))
  rw[← hW6]at HX6 HG6 HB6
  rw[← hW6]
  clear hW6 HX5 HG5 HB5 hcg X0 G0 BB0 X1 G1 hcx0 hzx0 X2 G2 hcx1 hzx1
  have hcg:=blkCell HX6.out
  have HSA:=Hq (rsame_any (⟨lsn,prev,txn,8,page,0,0,⟨ok,os,oo,on⟩,0,0,⟨⟨#[]⟩,0,0⟩,[],[]⟩:Rc.Rec) ⟨lsn,prev,txn,8,page,next,nu,⟨ok,os,oo,on⟩,how,root,⟨ek,ep,es⟩,ts,ds⟩ none A none B 0 c 0 d W6 (recR_nil _ _ rfl rfl) (HRR.out _ HB6.out))
  dsimp only[recV,recA,List.length_nil]at HSA
  generalize decide ((⟨lsn,prev,txn,8,page,0,0,⟨ok,os,oo,on⟩,0,0,⟨⟨#[]⟩,0,0⟩,[],[]⟩:Rc.Rec)=⟨lsn,prev,txn,8,page,next,nu,⟨ok,os,oo,on⟩,how,root,⟨ek,ep,es⟩,ts,ds⟩)=q at HSA HIF
  cases q with
  |false=>
   have HZ2:=Hq (show z=false from HIF.out.trans (Bool.false_and _))
   go_wp2_with (first|(with_reducible refine lL HG6.out Tryz.underlying55 ?_)|(with_reducible refine lL HX6.out Tryz.underlying55 ?_)|(go_at_call 168;(with_reducible refine HSA.out.mono ?_);rintro e w7 ⟨rfl,hb7⟩;have hc7:=blkCell (blkOld HX6.out hb7);have B7:=joinB HB6.out hb7))
   go_ret
   exact⟨by rw[HZ2.out];rfl,B7⟩
  |true=>
   have HIF0:=Hq (HIF.out.trans (Bool.true_and _))
   clear HIF
   have HPG:=Hq (fun W=>rpage_any page W)
   (try dsimp only[recV,recA,opV]at HPG)
   generalize decide (Rc.pg page)=p0 at HPG HIF0
   cases p0 with
   |false=>
    have HZ2:=Hq (show z=false from HIF0.out.trans (Bool.false_and _))
    go_wp2_with (first|(with_reducible refine lL HG6.out Tryz.underlying55 ?_)|(with_reducible refine lL HX6.out Tryz.underlying55 ?_)|(go_at_call 168;(with_reducible refine HSA.out.mono ?_);rintro e w7 ⟨rfl,hb7⟩;have hc7:=blkCell (blkOld HX6.out hb7);have B7:=joinB HB6.out hb7)|(go_at_call 170;(with_reducible refine(HPG.out _).mono ?_);rintro e w8 ⟨rfl,hb8⟩;have hc8:=blkCell (blkOld (blkOld HX6.out hb7) hb8);have B8:=joinB B7 hb8))
    go_ret
    exact⟨by rw[HZ2.out];rfl,B8⟩
   |true=>
   have HIF1:=Hq (HIF0.out.trans (Bool.true_and _))
   have HOP:=Hq (fun W=>rop_any ⟨ok,os,oo,on⟩ W)
   (try dsimp only[recV,recA,opV]at HOP)
   generalize decide (Rc.opR ⟨ok,os,oo,on⟩)=p1 at HOP HIF1
   go_wp2_with (first|(with_reducible refine lL HG6.out Tryz.underlying55 ?_)|(with_reducible refine lL HX6.out Tryz.underlying55 ?_)|(go_at_call 168;(with_reducible refine HSA.out.mono ?_);rintro e w7 ⟨rfl,hb7⟩;have hc7:=blkCell (blkOld HX6.out hb7);have B7:=joinB HB6.out hb7)|(go_at_call 170;(with_reducible refine(HPG.out _).mono ?_);rintro e w8 ⟨rfl,hb8⟩;have hc8:=blkCell (blkOld (blkOld HX6.out hb7) hb8);have B8:=joinB B7 hb8)|(go_at_call 171;(with_reducible refine(HOP.out _).mono ?_);rintro e w9 ⟨rfl,hb9⟩;have hc9:=blkCell (blkOld (blkOld (blkOld HX6.out hb7) hb8) hb9);have B9:=joinB B8 hb9))
   go_ret
   exact⟨by rw[HIF1.out];simp,B9⟩
 ·obtain⟨h1,h2,h3⟩:=HN3.out
  have HIF:=Hq (show z=(decide ((⟨lsn,prev,txn,9,0,0,nu,⟨0,0,⟨#[]⟩,⟨#[]⟩⟩,0,0,⟨⟨#[]⟩,0,0⟩,ts,ds⟩:Rc.Rec)=⟨lsn,prev,txn,9,page,next,nu,⟨ok,os,oo,on⟩,how,root,⟨ek,ep,es⟩,ts,ds⟩)&&(decide (Rc.num nu)&&(decide (Rc.listsR ⟨lsn,prev,txn,9,page,next,nu,⟨ok,os,oo,on⟩,how,root,⟨ek,ep,es⟩,ts,ds⟩))))from HZ.out.trans (Rc.rightB_of ((Rc.r_9 ⟨h1,h2,h3⟩).trans (by simp only[Bool.and_eq_true,decide_eq_true_eq];(try exact Iff.rfl)))))
  clear h1 h2 h3
  have hcg:=blkCell HX5.out
  go_upto_region 23 with fail
  have X0:=blkOld HX5.out (Below.refl _ W5).drew
  have G0:=blkOld HG5.out (Below.refl _ W5).drew
  have BB0:=joinB HB5.out (Below.refl _ W5).drew
  refine rgH (S:=(fun u=>u.heap[g]? =some (.cells (rcA lsn prev txn 9 page next nu ok os oo on how root ek ep es (.slice A ts.length c) (.slice B ds.length d)) 55 (0,0)))) (fun hHeld=>?_)
  generalize W5.drew=V0 at hHeld X0 G0 BB0 ⊢
  refine tkP 0 ?_;refine tkP 1 ?_;refine tkP 2 ?_;refine tkP 3 ?_;refine tkP 4 ?_;refine tkP 5 ?_;refine tkP 6 ?_
  refine rdP 7 fun K hK=>?_
  have hcx0:=blkCell G0
  have hzx0:=blkFrozen G0
  go_simp
  have X1:=(keep_set (b:=gx) (j:=6) (v:=.int .i64 nu) X0 (by omega))
  have G1:(V0.setCell ⟨gx,6,none⟩ (.int .i64 nu)).heap[gx]? =some (.cells (rcA lsn prev txn 9 0 0 nu 0 0 ⟨#[]⟩ ⟨#[]⟩ 0 0 ⟨#[]⟩ 0 0 (.slice none 0 0) (.slice none 0 0)) 55 (0,0)):=(by have h:=(blkSet 6 G0 (.int .i64 nu));simpa using h)
  try clear hSn
  have hSn:=X1
  refine hKo hK (fun hHeld=>?_)
  clear hK K
  refine tkP 8 ?_
  refine rdP 9 fun K hK=>?_
  have hcx1:=blkCell G1
  have hzx1:=blkFrozen G1
  go_simp
  have X2:=(keep_set (b:=gx) (j:=16) (v:=.slice A ts.length c) X1 (by omega))
  have G2:((V0.setCell ⟨gx,6,none⟩ (.int .i64 nu)).setCell ⟨gx,16,none⟩ (.slice A ts.length c)).heap[gx]? =some (.cells (rcA lsn prev txn 9 0 0 nu 0 0 ⟨#[]⟩ ⟨#[]⟩ 0 0 ⟨#[]⟩ 0 0 (.slice A ts.length c) (.slice none 0 0)) 55 (0,0)):=(by have h:=(blkSet 16 G1 (.slice A ts.length c));simpa using h)
  try clear hSn
  have hSn:=X2
  refine hKo hK (fun hHeld=>?_)
  clear hK K
  refine tkP 10 ?_
  refine rdP 11 fun K hK=>?_
  have hcx2:=blkCell G2
  have hzx2:=blkFrozen G2
  go_simp
  have X3:=(keep_set (b:=gx) (j:=17) (v:=.slice B ds.length d) X2 (by omega))
  have G3:(((V0.setCell ⟨gx,6,none⟩ (.int .i64 nu)).setCell ⟨gx,16,none⟩ (.slice A ts.length c)).setCell ⟨gx,17,none⟩ (.slice B ds.length d)).heap[gx]? =some (.cells (rcA lsn prev txn 9 0 0 nu 0 0 ⟨#[]⟩ ⟨#[]⟩ 0 0 ⟨#[]⟩ 0 0 (.slice A ts.length c) (.slice B ds.length d)) 55 (0,0)):=(by have h:=(blkSet 17 G2 (.slice B ds.length d));simpa using h)
  try clear hSn
  have hSn:=X3
  refine hKo hK (fun hHeld=>?_)
  clear hK K
  refine wpAnyH_done Kr ?_ _
  clear hHeld hSn
  have HX6:=Hq (show(((V0.setCell ⟨gx,6,none⟩ (.int .i64 nu)).setCell ⟨gx,16,none⟩ (.slice A ts.length c)).setCell ⟨gx,17,none⟩ (.slice B ds.length d)).heap[g]? =some (.cells (rcA lsn prev txn 9 page next nu ok os oo on how root ek ep es (.slice A ts.length c) (.slice B ds.length d)) 55 (0,0))from X3)
  have HG6:=Hq (show(((V0.setCell ⟨gx,6,none⟩ (.int .i64 nu)).setCell ⟨gx,16,none⟩ (.slice A ts.length c)).setCell ⟨gx,17,none⟩ (.slice B ds.length d)).heap[gx]? =some (.cells (rcA lsn prev txn 9 0 0 nu 0 0 ⟨#[]⟩ ⟨#[]⟩ 0 0 ⟨#[]⟩ 0 0 (.slice A ts.length c) (.slice B ds.length d)) 55 (0,0))from by have h:=G3;simpa using h)
  have HB6:=Hq (show Below w.heap.size w (((V0.setCell ⟨gx,6,none⟩ (.int .i64 nu)).setCell ⟨gx,16,none⟩ (.slice A ts.length c)).setCell ⟨gx,17,none⟩ (.slice B ds.length d))from(((BB0.setCell (p:=⟨gx,6,none⟩) (by show _≤gx;omega) (.int .i64 nu)).setCell (p:=⟨gx,16,none⟩) (by show _≤gx;omega) (.slice A ts.length c)).setCell (p:=⟨gx,17,none⟩) (by show _≤gx;omega) (.slice B ds.length d)))
  obtain⟨W6,hW6⟩:=ex (((V0.setCell ⟨gx,6,none⟩ (.int .i64 nu)).setCell ⟨gx,16,none⟩ (.slice A ts.length c)).setCell ⟨gx,17,none⟩ (.slice B ds.length d))
  rw[← hW6]at HX6 HG6 HB6
  rw[← hW6]
  clear hW6 HX5 HG5 HB5 hcg X0 G0 BB0 X1 G1 hcx0 hzx0 X2 G2 hcx1 hzx1 X3 G3 hcx2 hzx2
  have hcg:=blkCell HX6.out
  have HSA:=Hq (rsame_any (⟨lsn,prev,txn,9,0,0,nu,⟨0,0,⟨#[]⟩,⟨#[]⟩⟩,0,0,⟨⟨#[]⟩,0,0⟩,ts,ds⟩:Rc.Rec) ⟨lsn,prev,txn,9,page,next,nu,⟨ok,os,oo,on⟩,how,root,⟨ek,ep,es⟩,ts,ds⟩ A A B B c c d d W6 ⟨(HRR.out _ HB6.out).txns,(HRR.out _ HB6.out).dirty,(HRR.out _ HB6.out).small⟩ (HRR.out _ HB6.out))
  dsimp only[recV,recA,List.length_nil]at HSA
  generalize decide ((⟨lsn,prev,txn,9,0,0,nu,⟨0,0,⟨#[]⟩,⟨#[]⟩⟩,0,0,⟨⟨#[]⟩,0,0⟩,ts,ds⟩:Rc.Rec)=⟨lsn,prev,txn,9,page,next,nu,⟨ok,os,oo,on⟩,how,root,⟨ek,ep,es⟩,ts,ds⟩)=q at HSA HIF
  cases q with
  |false=>
   have HZ2:=Hq (show z=false from HIF.out.trans (Bool.false_and _))
   go_wp2_with (first|(with_reducible refine lL HG6.out Tryz.underlying55 ?_)|(with_reducible refine lL HX6.out Tryz.underlying55 ?_)|(go_at_call 168;(with_reducible refine HSA.out.mono ?_);rintro e w7 ⟨rfl,hb7⟩;have hc7:=blkCell (blkOld HX6.out hb7);have B7:=joinB HB6.out hb7))
   go_ret
   exact⟨by rw[HZ2.out];rfl,B7⟩
  |true=>
   have HIF0:=Hq (HIF.out.trans (Bool.true_and _))
   clear HIF
   have HNU:=Hq (fun W=>rnumber_any nu W)
   (try dsimp only[recV,recA,opV]at HNU)
   generalize decide (Rc.num nu)=p0 at HNU HIF0
   cases p0 with
   |false=>
    have HZ2:=Hq (show z=false from HIF0.out.trans (Bool.false_and _))
    go_wp2_with (first|(with_reducible refine lL HG6.out Tryz.underlying55 ?_)|(with_reducible refine lL HX6.out Tryz.underlying55 ?_)|(go_at_call 168;(with_reducible refine HSA.out.mono ?_);rintro e w7 ⟨rfl,hb7⟩;have hc7:=blkCell (blkOld HX6.out hb7);have B7:=joinB HB6.out hb7)|(go_at_call 166;(with_reducible refine(HNU.out _).mono ?_);rintro e w8 ⟨rfl,hb8⟩;have hc8:=blkCell (blkOld (blkOld HX6.out hb7) hb8);have B8:=joinB B7 hb8))
    go_ret
    exact⟨by rw[HZ2.out];rfl,B8⟩
   |true=>
   have HIF1:=Hq (HIF0.out.trans (Bool.true_and _))
   have HLI:=Hq (fun W (hb:Below w.heap.size w W)=>rlists_any ⟨lsn,prev,txn,9,page,next,nu,⟨ok,os,oo,on⟩,how,root,⟨ek,ep,es⟩,ts,ds⟩ A B c d W (HRR.out W hb))
   (try dsimp only[recV,recA,opV]at HLI)
   generalize decide (Rc.listsR ⟨lsn,prev,txn,9,page,next,nu,⟨ok,os,oo,on⟩,how,root,⟨ek,ep,es⟩,ts,ds⟩)=p1 at HLI HIF1
   go_wp2_with (first|(with_reducible refine lL HG6.out Tryz.underlying55 ?_)|(with_reducible refine lL HX6.out Tryz.underlying55 ?_)|(go_at_call 168;(with_reducible refine HSA.out.mono ?_);rintro e w7 ⟨rfl,hb7⟩;have hc7:=blkCell (blkOld HX6.out hb7);have B7:=joinB HB6.out hb7)|(go_at_call 166;(with_reducible refine(HNU.out _).mono ?_);rintro e w8 ⟨rfl,hb8⟩;have hc8:=blkCell (blkOld (blkOld HX6.out hb7) hb8);have B8:=joinB B7 hb8)|(with_reducible refine lL (blkOld (blkOld HX6.out hb7) hb8) Tryz.underlying55 ?_)|(go_at_call 172;(with_reducible refine(HLI.out _ B8).mono ?_);rintro e w9 ⟨rfl,hb9⟩;have hc9:=blkCell (blkOld (blkOld (blkOld HX6.out hb7) hb8) hb9);have B9:=joinB B8 hb9))
   go_ret
   exact⟨by rw[HIF1.out];simp,B9⟩
theorem rbody_any (r:Rc.Rec)(hR0:Rc.Right r)(A B:Option Addr)(c d:Nat)(w:World)(hr:RecR w r A c B d):
 Calls Tryz.prog 110 #[recV r (.slice A r.txns.length c) (.slice B r.dirty.length d)] w fun e w'=>e= .returned (.string (Rc.mk (Rc.bodyB r)))∧Below w.heap.size w w':=by
 have HF:=Hq (Rc.form_of hR0)
 have HRR:=Hq hr
 clear hR0 hr
 obtain⟨lsn,prev,txn,kind,page,next,nu,⟨ok,os,oo,on⟩,how,root,⟨ek,ep,es⟩,ts,ds⟩:=r
 have hk:=HF.out.kind
 dsimp only at hk
 have h9:(kind=1∨kind=5∨kind=6∨kind=7)∨kind=2∨kind=3∨kind=4∨kind=8∨kind=9:=by omega
 have HK:=Hq h9
 clear hk h9
 dsimp only[recV,recA]
 obtain⟨w0,hw0⟩:=ex (w.alloc (.cells (rcA lsn prev txn kind page next nu ok os oo on how root ek ep es (.slice A ts.length c) (.slice B ds.length d)) 55))
 have HB0:=Hq (show Below w.heap.size w w0 from by rw[hw0];exact allocB _ _)
 have HX0:=Hq (show w0.heap[w.heap.size]? =some (.cells (rcA lsn prev txn kind page next nu ok os oo on how root ek ep es (.slice A ts.length c) (.slice B ds.length d)) 55 (0,0))from by rw[hw0];exact heap_alloc_new _ _)
 obtain⟨R,hR⟩:=ex (Rc.mk (Rc.bodyB ⟨lsn,prev,txn,kind,page,next,nu,⟨ok,os,oo,on⟩,how,root,⟨ek,ep,es⟩,ts,ds⟩))
 rw[← hR]
 have HR:=Hq hR
 clear hR
 obtain⟨B1,hB1⟩:=ex (Rc.mk (Rc.p kind 1))
 have hl1:((Rc.p kind 1)).length=1:=Rc.p_length _ _
 have HC1:=Hq (show ∀ W,Calls Tryz.prog 111 #[kind,.int .i64 1] W fun e w'=>e= .returned (.string B1)∧Below W.heap.size W w' from fun W=>by rw[hB1];exact rput_mk kind 1 (by omega) W)
 obtain⟨B2,hB2⟩:=ex (Rc.mk (Rc.p lsn 6))
 have hl2:((Rc.p lsn 6)).length=6:=Rc.p_length _ _
 have HC2:=Hq (show ∀ W,Calls Tryz.prog 111 #[lsn,.int .i64 6] W fun e w'=>e= .returned (.string B2)∧Below W.heap.size W w' from fun W=>by rw[hB2];exact rput_mk lsn 6 (by omega) W)
 obtain⟨S2,hS2⟩:=ex (Rc.mk ((Rc.p kind 1)++(Rc.p lsn 6)))
 have ha2:∀ W:World,(Op.stringOp .add B1 B2).run Tryz.prog W= .ok (.string S2) W:=fun W=>by rw[hB1,hB2,hS2];exact add_mk _ _ (by(try simp only[Rc.p_length]);omega) W
 obtain⟨B3,hB3⟩:=ex (Rc.mk (Rc.p prev 6))
 have hl3:((Rc.p prev 6)).length=6:=Rc.p_length _ _
 have HC3:=Hq (show ∀ W,Calls Tryz.prog 111 #[prev,.int .i64 6] W fun e w'=>e= .returned (.string B3)∧Below W.heap.size W w' from fun W=>by rw[hB3];exact rput_mk prev 6 (by omega) W)
 obtain⟨S3,hS3⟩:=ex (Rc.mk (((Rc.p kind 1)++(Rc.p lsn 6))++(Rc.p prev 6)))
 have ha3:∀ W:World,(Op.stringOp .add S2 B3).run Tryz.prog W= .ok (.string S3) W:=fun W=>by rw[hS2,hB3,hS3];exact add_mk _ _ (by(try simp only[List.length_append,Rc.p_length]);omega) W
 obtain⟨B4,hB4⟩:=ex (Rc.mk (Rc.p txn 6))
 have hl4:((Rc.p txn 6)).length=6:=Rc.p_length _ _
 have HC4:=Hq (show ∀ W,Calls Tryz.prog 111 #[txn,.int .i64 6] W fun e w'=>e= .returned (.string B4)∧Below W.heap.size W w' from fun W=>by rw[hB4];exact rput_mk txn 6 (by omega) W)
 obtain⟨S4,hS4⟩:=ex (Rc.mk ((((Rc.p kind 1)++(Rc.p lsn 6))++(Rc.p prev 6))++(Rc.p txn 6)))
 have ha4:∀ W:World,(Op.stringOp .add S3 B4).run Tryz.prog W= .ok (.string S4) W:=fun W=>by rw[hS3,hB4,hS4];exact add_mk _ _ (by(try simp only[List.length_append,Rc.p_length]);omega) W
 have HS4:=Hq hS4
 have hl0:((((Rc.p kind 1)++(Rc.p lsn 6))++(Rc.p prev 6))++(Rc.p txn 6)).length=19:=by simp only[List.length_append];omega
 have HL0:=Hq hl0
 clear hB1 hl1
 clear hB2 hl2
 clear hB3 hl3
 clear hB4 hl4
 clear hS2
 clear hS3
 clear hS4
 clear hl0
 go_enter Tryz.func110,Tryz.ntmps110
 go_upto_region 1 with fail
 rw[← hw0]
 clear hw0
 obtain⟨g,hg⟩:=ex w.heap.size
 rw[← hg]at HX0
 rw[← hg]
 have hg0:w.heap.size≤g:=Nat.le_of_eq hg.symm
 clear hg
 go_cut [3] (fun s3 wc=>s3= .string S4∧wc.heap[g]? =some (.cells (rcA lsn prev txn kind page next nu ok os oo on how root ek ep es (.slice A ts.length c) (.slice B ds.length d)) 55 (0,0))∧Below w.heap.size w wc)
 case first=>
  go_upto_region 1 with fail
  have Xb0:=blkOld HX0.out (Below.refl _ w0).drew
  have Yb0:=joinB HB0.out (Below.refl _ w0).drew
  refine rgH (S:=(fun u=>u.heap[g]? =some (.cells (rcA lsn prev txn kind page next nu ok os oo on how root ek ep es (.slice A ts.length c) (.slice B ds.length d)) 55 (0,0)))) (fun hHeld=>?_)
  refine tkP 0 ?_;refine tkP 1 ?_;refine tkP 3 ?_;refine tkP 4 ?_;refine tkP 7 ?_;refine tkP 8 ?_;refine tkP 11 ?_;refine tkP 12 ?_
  refine rdP 2 fun K hK=>?_
  go_simp
  refine(HC1.out _).mono ?_;rintro e vb1 ⟨rfl,hb⟩;have Xb1:=blkOld Xb0 hb;have Yb1:=joinB Yb0 hb;try clear hSn
  have hSn:=Xb1
  clear hb
  refine hKo hK (fun hHeld=>?_)
  clear hK K
  refine rdP 5 fun K hK=>?_
  go_simp
  refine(HC2.out _).mono ?_;rintro e vb2 ⟨rfl,hb⟩;have Xb2:=blkOld Xb1 hb;have Yb2:=joinB Yb1 hb;try clear hSn
  have hSn:=Xb2
  clear hb
  refine hKo hK (fun hHeld=>?_)
  clear hK K
  refine tkP 6 ?_
  refine rdP 9 fun K hK=>?_
  go_simp
  refine(HC3.out _).mono ?_;rintro e vb3 ⟨rfl,hb⟩;have Xb3:=blkOld Xb2 hb;have Yb3:=joinB Yb2 hb;try clear hSn
  have hSn:=Xb3
  clear hb
  refine hKo hK (fun hHeld=>?_)
  clear hK K
  refine tkP 10 ?_
  refine rdP 13 fun K hK=>?_
  go_simp
  refine(HC4.out _).mono ?_;rintro e vb4 ⟨rfl,hb⟩;have Xb4:=blkOld Xb3 hb;have Yb4:=joinB Yb3 hb;try clear hSn
  have hSn:=Xb4
  clear hb
  refine hKo hK (fun hHeld=>?_)
  clear hK K
  refine tkP 14 ?_;refine tkP 15 ?_
  refine wpAnyH_done Kr ?_ _
  have HX1:=Hq Xb4
  have HB1:=Hq Yb4
  clear hHeld hSn Xb0 Yb0 Xb1 Yb1 Xb2 Yb2 Xb3 Yb3 Xb4 Yb4
  go_wp2_with fail
  go_meet
  case rel=>exact⟨rfl,HX1.out,HB1.out⟩
 case rest=>
  obtain⟨rfl,hx1,hb1⟩:=hcut
  obtain⟨w1,rfl⟩:=ex wc
  have HX1:=Hq hx1
  have HB1:=Hq hb1
  clear hx1 hb1 HX0 HB0 HC1 HC2 HC3 HC4 ha2 ha3 ha4 hg0
  rcases HK.out with h9|rfl|rfl|rfl|rfl|rfl
  ·rcases h9 with rfl|rfl|rfl|rfl<;>(
   have hS4:=HS4.out
   have HE:=Hq (show S4=R from by rw[hS4,HR.out];(congr 1)<;>(unfold Rc.bodyB;rw[show Rc.restB _=[]from by unfold Rc.restB;rfl];unfold Rc.headB;simp only[List.append_assoc,List.append_nil]))
   have hcg1:=blkCell HX1.out
   clear hS4
   go_wp2_with fail
   go_ret
   exact⟨by rw[← HE.out];rfl,HB1.out⟩)
  ·have hS4:=HS4.out
   have hl0:=HL0.out
   have hcg1:=blkCell HX1.out
   obtain⟨-,-,-,h4,h5⟩:=(HF.out.change (by unfold Rc.hasChange;simp)).2
   dsimp only at h4 h5
   have hoo:oo.size≤65535:=by omega
   have hon:on.size≤65535:=by omega
   clear h4 h5
   obtain⟨B5,hB5⟩:=ex (Rc.mk (Rc.p page 3))
   have hl5:((Rc.p page 3)).length=3:=Rc.p_length _ _
   have HC5:=Hq (show ∀ W,Calls Tryz.prog 111 #[page,.int .i64 3] W fun e w'=>e= .returned (.string B5)∧Below W.heap.size W w' from fun W=>by rw[hB5];exact rput_mk page 3 (by omega) W)
   obtain⟨S5,hS5⟩:=ex (Rc.mk (((((Rc.p 2 1)++(Rc.p lsn 6))++(Rc.p prev 6))++(Rc.p txn 6))++(Rc.p page 3)))
   have ha5:∀ W:World,(Op.stringOp .add S4 B5).run Tryz.prog W= .ok (.string S5) W:=fun W=>by rw[hS4,hB5,hS5];exact add_mk _ _ (by(try simp only[List.length_append,Rc.p_length]);omega) W
   obtain⟨B6,hB6⟩:=ex (Rc.mk (Rc.opB ⟨ok,os,oo,on⟩))
   have hl6:((Rc.opB ⟨ok,os,oo,on⟩)).length≤140000:=by unfold Rc.opB;simp only[List.length_append,Rc.p_length,Rc.t_len];omega
   have HC6:=Hq (show ∀ W,Calls Tryz.prog 173 #[.agg #[ok,os,oo,on]] W fun e w'=>e= .returned (.string B6)∧Below W.heap.size W w' from fun W=>by rw[hB6];exact ropb_any ⟨ok,os,oo,on⟩ hoo hon W)
   obtain⟨S6,hS6⟩:=ex (Rc.mk ((((((Rc.p 2 1)++(Rc.p lsn 6))++(Rc.p prev 6))++(Rc.p txn 6))++(Rc.p page 3))++(Rc.opB ⟨ok,os,oo,on⟩)))
   have ha6:∀ W:World,(Op.stringOp .add S5 B6).run Tryz.prog W= .ok (.string S6) W:=fun W=>by rw[hS5,hB6,hS6];exact add_mk _ _ (by(try simp only[List.length_append,Rc.p_length]);omega) W
   obtain⟨B7,hB7⟩:=ex (Rc.mk (Rc.p how 1))
   have hl7:((Rc.p how 1)).length=1:=Rc.p_length _ _
   have HC7:=Hq (show ∀ W,Calls Tryz.prog 111 #[how,.int .i64 1] W fun e w'=>e= .returned (.string B7)∧Below W.heap.size W w' from fun W=>by rw[hB7];exact rput_mk how 1 (by omega) W)
   obtain⟨S7,hS7⟩:=ex (Rc.mk (((((((Rc.p 2 1)++(Rc.p lsn 6))++(Rc.p prev 6))++(Rc.p txn 6))++(Rc.p page 3))++(Rc.opB ⟨ok,os,oo,on⟩))++(Rc.p how 1)))
   have ha7:∀ W:World,(Op.stringOp .add S6 B7).run Tryz.prog W= .ok (.string S7) W:=fun W=>by rw[hS6,hB7,hS7];exact add_mk _ _ (by(try simp only[List.length_append,Rc.p_length]);omega) W
   by_cases hh:how=1
   ·have hh1:(how==1)=true:=by simpa using hh
    have HE:=Hq (show S7=R from by rw[hS7,HR.out];(congr 1)<;>(unfold Rc.bodyB;rw[Rc.restB_2 rfl];unfold Rc.headB;unfold Rc.treeB;rw[if_pos hh];simp only[List.append_assoc,List.append_nil]))
    clear hh hB5 hl5 hS5 hB6 hl6 hS6 hB7 hl7 hS7 hS4 hl0
    go_upto_region 4 with fail
    have Xc0:=blkOld HX1.out (Below.refl _ w1).drew
    have Yc0:=joinB HB1.out (Below.refl _ w1).drew
    refine rgH (S:=(fun u=>u.heap[g]? =some (.cells (rcA lsn prev txn 2 page next nu ok os oo on how root ek ep es (.slice A ts.length c) (.slice B ds.length d)) 55 (0,0)))) (fun hHeld=>?_)
    refine tkP 0 ?_;refine tkP 1 ?_;refine tkP 2 ?_;refine tkP 5 ?_;refine tkP 6 ?_;refine tkP 9 ?_;refine tkP 10 ?_
    refine rdP 3 fun K hK=>?_
    go_simp
    refine(HC5.out _).mono ?_;rintro e vc1 ⟨rfl,hb⟩;have Xc1:=blkOld Xc0 hb;have Yc1:=joinB Yc0 hb;try clear hSn
    have hSn:=Xc1
    clear hb
    refine hKo hK (fun hHeld=>?_)
    clear hK K
    refine tkP 4 ?_
    refine rdP 7 fun K hK=>?_
    go_simp
    refine(HC6.out _).mono ?_;rintro e vc2 ⟨rfl,hb⟩;have Xc2:=blkOld Xc1 hb;have Yc2:=joinB Yc1 hb;try clear hSn
    have hSn:=Xc2
    clear hb
    refine hKo hK (fun hHeld=>?_)
    clear hK K
    refine tkP 8 ?_
    refine rdP 11 fun K hK=>?_
    go_simp
    refine(HC7.out _).mono ?_;rintro e vc3 ⟨rfl,hb⟩;have Xc3:=blkOld Xc2 hb;have Yc3:=joinB Yc2 hb;try clear hSn
    have hSn:=Xc3
    clear hb
    refine hKo hK (fun hHeld=>?_)
    clear hK K
    refine tkP 12 ?_;refine tkP 13 ?_
    refine wpAnyH_done Kr ?_ _
    have HX2:=Hq Xc3
    have HB2:=Hq Yc3
    clear hHeld hSn Xc0 Yc0 Xc1 Yc1 Xc2 Yc2 Xc3 Yc3
    have hcg2:=blkCell HX2.out
    go_wp2_with fail
    go_ret
    exact⟨by rw[← HE.out];rfl,HB2.out⟩
   ·have hh1:(how==1)=false:=by simpa using hh
    have hek:ek.size≤65535:=by
     rcases HF.out.tree rfl with⟨h7,_⟩|⟨_,_,_,_,h8⟩
     ·exact absurd h7 hh
     ·dsimp only at h8;omega
    obtain⟨B8,hB8⟩:=ex (Rc.mk (Rc.p root 3))
    have hl8:((Rc.p root 3)).length=3:=Rc.p_length _ _
    have HC8:=Hq (show ∀ W,Calls Tryz.prog 111 #[root,.int .i64 3] W fun e w'=>e= .returned (.string B8)∧Below W.heap.size W w' from fun W=>by rw[hB8];exact rput_mk root 3 (by omega) W)
    obtain⟨S8,hS8⟩:=ex (Rc.mk ((((((((Rc.p 2 1)++(Rc.p lsn 6))++(Rc.p prev 6))++(Rc.p txn 6))++(Rc.p page 3))++(Rc.opB ⟨ok,os,oo,on⟩))++(Rc.p how 1))++(Rc.p root 3)))
    have ha8:∀ W:World,(Op.stringOp .add S7 B8).run Tryz.prog W= .ok (.string S8) W:=fun W=>by rw[hS7,hB8,hS8];exact add_mk _ _ (by(try simp only[List.length_append,Rc.p_length]);omega) W
    obtain⟨B9,hB9⟩:=ex (Rc.mk (Rc.p ep 3))
    have hl9:((Rc.p ep 3)).length=3:=Rc.p_length _ _
    have HC9:=Hq (show ∀ W,Calls Tryz.prog 111 #[ep,.int .i64 3] W fun e w'=>e= .returned (.string B9)∧Below W.heap.size W w' from fun W=>by rw[hB9];exact rput_mk ep 3 (by omega) W)
    obtain⟨S9,hS9⟩:=ex (Rc.mk (((((((((Rc.p 2 1)++(Rc.p lsn 6))++(Rc.p prev 6))++(Rc.p txn 6))++(Rc.p page 3))++(Rc.opB ⟨ok,os,oo,on⟩))++(Rc.p how 1))++(Rc.p root 3))++(Rc.p ep 3)))
    have ha9:∀ W:World,(Op.stringOp .add S8 B9).run Tryz.prog W= .ok (.string S9) W:=fun W=>by rw[hS8,hB9,hS9];exact add_mk _ _ (by(try simp only[List.length_append,Rc.p_length]);omega) W
    obtain⟨B10,hB10⟩:=ex (Rc.mk (Rc.p es 2))
    have hl10:((Rc.p es 2)).length=2:=Rc.p_length _ _
    have HC10:=Hq (show ∀ W,Calls Tryz.prog 111 #[es,.int .i64 2] W fun e w'=>e= .returned (.string B10)∧Below W.heap.size W w' from fun W=>by rw[hB10];exact rput_mk es 2 (by omega) W)
    obtain⟨S10,hS10⟩:=ex (Rc.mk ((((((((((Rc.p 2 1)++(Rc.p lsn 6))++(Rc.p prev 6))++(Rc.p txn 6))++(Rc.p page 3))++(Rc.opB ⟨ok,os,oo,on⟩))++(Rc.p how 1))++(Rc.p root 3))++(Rc.p ep 3))++(Rc.p es 2)))
    have ha10:∀ W:World,(Op.stringOp .add S9 B10).run Tryz.prog W= .ok (.string S10) W:=fun W=>by rw[hS9,hB10,hS10];exact add_mk _ _ (by(try simp only[List.length_append,Rc.p_length]);omega) W
    obtain⟨B11,hB11⟩:=ex (Rc.mk (Rc.t ek))
    have hl11:((Rc.t ek)).length≤70000:=by rw[Rc.t_len];omega
    have HC11:=Hq (show ∀ W,Calls Tryz.prog 174 #[ek] W fun e w'=>e= .returned (.string B11)∧Below W.heap.size W w' from fun W=>by rw[hB11];exact rputtext_any ek hek W)
    obtain⟨S11,hS11⟩:=ex (Rc.mk (((((((((((Rc.p 2 1)++(Rc.p lsn 6))++(Rc.p prev 6))++(Rc.p txn 6))++(Rc.p page 3))++(Rc.opB ⟨ok,os,oo,on⟩))++(Rc.p how 1))++(Rc.p root 3))++(Rc.p ep 3))++(Rc.p es 2))++(Rc.t ek)))
    have ha11:∀ W:World,(Op.stringOp .add S10 B11).run Tryz.prog W= .ok (.string S11) W:=fun W=>by rw[hS10,hB11,hS11];exact add_mk _ _ (by(try simp only[List.length_append,Rc.p_length]);omega) W
    have HE:=Hq (show S11=R from by rw[hS11,HR.out];(congr 1)<;>(unfold Rc.bodyB;rw[Rc.restB_2 rfl];unfold Rc.headB;unfold Rc.treeB;rw[if_neg hh];simp only[List.append_assoc]))
    clear hh hek
    clear hB5 hl5 hS5
    clear hB6 hl6 hS6
    clear hB7 hl7 hS7
    clear hB8 hl8 hS8
    clear hB9 hl9 hS9
    clear hB10 hl10 hS10
    clear hB11 hl11 hS11
    clear hS4 hl0
    go_upto_region 4 with fail
    have Xc0:=blkOld HX1.out (Below.refl _ w1).drew
    have Yc0:=joinB HB1.out (Below.refl _ w1).drew
    refine rgH (S:=(fun u=>u.heap[g]? =some (.cells (rcA lsn prev txn 2 page next nu ok os oo on how root ek ep es (.slice A ts.length c) (.slice B ds.length d)) 55 (0,0)))) (fun hHeld=>?_)
    refine tkP 0 ?_;refine tkP 1 ?_;refine tkP 2 ?_;refine tkP 5 ?_;refine tkP 6 ?_;refine tkP 9 ?_;refine tkP 10 ?_
    refine rdP 3 fun K hK=>?_
    go_simp
    refine(HC5.out _).mono ?_;rintro e vc1 ⟨rfl,hb⟩;have Xc1:=blkOld Xc0 hb;have Yc1:=joinB Yc0 hb;try clear hSn
    have hSn:=Xc1
    clear hb
    refine hKo hK (fun hHeld=>?_)
    clear hK K
    refine tkP 4 ?_
    refine rdP 7 fun K hK=>?_
    go_simp
    refine(HC6.out _).mono ?_;rintro e vc2 ⟨rfl,hb⟩;have Xc2:=blkOld Xc1 hb;have Yc2:=joinB Yc1 hb;try clear hSn
    have hSn:=Xc2
    clear hb
    refine hKo hK (fun hHeld=>?_)
    clear hK K
    refine tkP 8 ?_
    refine rdP 11 fun K hK=>?_
    go_simp
    refine(HC7.out _).mono ?_;rintro e vc3 ⟨rfl,hb⟩;have Xc3:=blkOld Xc2 hb;have Yc3:=joinB Yc2 hb;try clear hSn
    have hSn:=Xc3
    clear hb
    refine hKo hK (fun hHeld=>?_)
    clear hK K
    refine tkP 12 ?_;refine tkP 13 ?_
    refine wpAnyH_done Kr ?_ _
    have HX2:=Hq Xc3
    have HB2:=Hq Yc3
    clear hHeld hSn Xc0 Yc0 Xc1 Yc1 Xc2 Yc2 Xc3 Yc3
    have hcg2:=blkCell HX2.out
    go_upto_region 7 with fail
    have Xd0:=blkOld HX2.out (Below.refl _ vc3).drew
    have Yd0:=joinB HB2.out (Below.refl _ vc3).drew
    refine rgH (S:=(fun u=>u.heap[g]? =some (.cells (rcA lsn prev txn 2 page next nu ok os oo on how root ek ep es (.slice A ts.length c) (.slice B ds.length d)) 55 (0,0)))) (fun hHeld=>?_)
    refine tkP 0 ?_;refine tkP 1 ?_;refine tkP 2 ?_;refine tkP 5 ?_;refine tkP 6 ?_;refine tkP 7 ?_;refine tkP 8 ?_;refine tkP 11 ?_;refine tkP 12 ?_;refine tkP 13 ?_;refine tkP 14 ?_;refine tkP 17 ?_;refine tkP 18 ?_;refine tkP 19 ?_
    refine rdP 3 fun K hK=>?_
    go_simp
    refine(HC8.out _).mono ?_;rintro e vd1 ⟨rfl,hb⟩;have Xd1:=blkOld Xd0 hb;have Yd1:=joinB Yd0 hb;try clear hSn
    have hSn:=Xd1
    clear hb
    refine hKo hK (fun hHeld=>?_)
    clear hK K
    refine tkP 4 ?_
    refine rdP 9 fun K hK=>?_
    go_simp
    refine(HC9.out _).mono ?_;rintro e vd2 ⟨rfl,hb⟩;have Xd2:=blkOld Xd1 hb;have Yd2:=joinB Yd1 hb;try clear hSn
    have hSn:=Xd2
    clear hb
    refine hKo hK (fun hHeld=>?_)
    clear hK K
    refine tkP 10 ?_
    refine rdP 15 fun K hK=>?_
    go_simp
    refine(HC10.out _).mono ?_;rintro e vd3 ⟨rfl,hb⟩;have Xd3:=blkOld Xd2 hb;have Yd3:=joinB Yd2 hb;try clear hSn
    have hSn:=Xd3
    clear hb
    refine hKo hK (fun hHeld=>?_)
    clear hK K
    refine tkP 16 ?_
    refine rdP 20 fun K hK=>?_
    go_simp
    refine(HC11.out _).mono ?_;rintro e vd4 ⟨rfl,hb⟩;have Xd4:=blkOld Xd3 hb;have Yd4:=joinB Yd3 hb;try clear hSn
    have hSn:=Xd4
    clear hb
    refine hKo hK (fun hHeld=>?_)
    clear hK K
    refine tkP 21 ?_;refine tkP 22 ?_
    refine wpAnyH_done Kr ?_ _
    have HX3:=Hq Xd4
    have HB3:=Hq Yd4
    clear hHeld hSn Xd0 Yd0 Xd1 Yd1 Xd2 Yd2 Xd3 Yd3 Xd4 Yd4
    go_wp2_with fail
    go_ret
    exact⟨by rw[← HE.out];rfl,HB3.out⟩
  ·have hS4:=HS4.out
   have hl0:=HL0.out
   have hcg1:=blkCell HX1.out
   obtain⟨-,-,-,h4,h5⟩:=(HF.out.change (by unfold Rc.hasChange;simp)).2
   dsimp only at h4 h5
   have hoo:oo.size≤65535:=by omega
   have hon:on.size≤65535:=by omega
   clear h4 h5
   obtain⟨B5,hB5⟩:=ex (Rc.mk (Rc.p page 3))
   have hl5:((Rc.p page 3)).length=3:=Rc.p_length _ _
   have HC5:=Hq (show ∀ W,Calls Tryz.prog 111 #[page,.int .i64 3] W fun e w'=>e= .returned (.string B5)∧Below W.heap.size W w' from fun W=>by rw[hB5];exact rput_mk page 3 (by omega) W)
   obtain⟨S5,hS5⟩:=ex (Rc.mk (((((Rc.p 3 1)++(Rc.p lsn 6))++(Rc.p prev 6))++(Rc.p txn 6))++(Rc.p page 3)))
   have ha5:∀ W:World,(Op.stringOp .add S4 B5).run Tryz.prog W= .ok (.string S5) W:=fun W=>by rw[hS4,hB5,hS5];exact add_mk _ _ (by(try simp only[List.length_append,Rc.p_length]);omega) W
   obtain⟨B6,hB6⟩:=ex (Rc.mk (Rc.opB ⟨ok,os,oo,on⟩))
   have hl6:((Rc.opB ⟨ok,os,oo,on⟩)).length≤140000:=by unfold Rc.opB;simp only[List.length_append,Rc.p_length,Rc.t_len];omega
   have HC6:=Hq (show ∀ W,Calls Tryz.prog 173 #[.agg #[ok,os,oo,on]] W fun e w'=>e= .returned (.string B6)∧Below W.heap.size W w' from fun W=>by rw[hB6];exact ropb_any ⟨ok,os,oo,on⟩ hoo hon W)
   obtain⟨S6,hS6⟩:=ex (Rc.mk ((((((Rc.p 3 1)++(Rc.p lsn 6))++(Rc.p prev 6))++(Rc.p txn 6))++(Rc.p page 3))++(Rc.opB ⟨ok,os,oo,on⟩)))
   have ha6:∀ W:World,(Op.stringOp .add S5 B6).run Tryz.prog W= .ok (.string S6) W:=fun W=>by rw[hS5,hB6,hS6];exact add_mk _ _ (by(try simp only[List.length_append,Rc.p_length]);omega) W
   obtain⟨B7,hB7⟩:=ex (Rc.mk (Rc.p next 6))
   have hl7:((Rc.p next 6)).length=6:=Rc.p_length _ _
   have HC7:=Hq (show ∀ W,Calls Tryz.prog 111 #[next,.int .i64 6] W fun e w'=>e= .returned (.string B7)∧Below W.heap.size W w' from fun W=>by rw[hB7];exact rput_mk next 6 (by omega) W)
   obtain⟨S7,hS7⟩:=ex (Rc.mk (((((((Rc.p 3 1)++(Rc.p lsn 6))++(Rc.p prev 6))++(Rc.p txn 6))++(Rc.p page 3))++(Rc.opB ⟨ok,os,oo,on⟩))++(Rc.p next 6)))
   have ha7:∀ W:World,(Op.stringOp .add S6 B7).run Tryz.prog W= .ok (.string S7) W:=fun W=>by rw[hS6,hB7,hS7];exact add_mk _ _ (by(try simp only[List.length_append,Rc.p_length]);omega) W
   have HE:=Hq (show S7=R from by rw[hS7,HR.out];(congr 1)<;>(unfold Rc.bodyB;rw[Rc.restB_3 rfl];unfold Rc.headB;simp only[List.append_assoc]))
   clear hB5 hl5 hS5
   clear hB6 hl6 hS6
   clear hB7 hl7 hS7
   clear hS4 hl0
   go_upto_region 9 with fail
   have Xc0:=blkOld HX1.out (Below.refl _ w1).drew
   have Yc0:=joinB HB1.out (Below.refl _ w1).drew
   refine rgH (S:=(fun u=>u.heap[g]? =some (.cells (rcA lsn prev txn 3 page next nu ok os oo on how root ek ep es (.slice A ts.length c) (.slice B ds.length d)) 55 (0,0)))) (fun hHeld=>?_)
   refine tkP 0 ?_;refine tkP 1 ?_;refine tkP 2 ?_;refine tkP 5 ?_;refine tkP 6 ?_;refine tkP 9 ?_;refine tkP 10 ?_
   refine rdP 3 fun K hK=>?_
   go_simp
   refine(HC5.out _).mono ?_;rintro e vc1 ⟨rfl,hb⟩;have Xc1:=blkOld Xc0 hb;have Yc1:=joinB Yc0 hb;try clear hSn
   have hSn:=Xc1
   clear hb
   refine hKo hK (fun hHeld=>?_)
   clear hK K
   refine tkP 4 ?_
   refine rdP 7 fun K hK=>?_
   go_simp
   refine(HC6.out _).mono ?_;rintro e vc2 ⟨rfl,hb⟩;have Xc2:=blkOld Xc1 hb;have Yc2:=joinB Yc1 hb;try clear hSn
   have hSn:=Xc2
   clear hb
   refine hKo hK (fun hHeld=>?_)
   clear hK K
   refine tkP 8 ?_
   refine rdP 11 fun K hK=>?_
   go_simp
   refine(HC7.out _).mono ?_;rintro e vc3 ⟨rfl,hb⟩;have Xc3:=blkOld Xc2 hb;have Yc3:=joinB Yc2 hb;try clear hSn
   have hSn:=Xc3
   clear hb
   refine hKo hK (fun hHeld=>?_)
   clear hK K
   refine tkP 12 ?_;refine tkP 13 ?_
   refine wpAnyH_done Kr ?_ _
   have HX2:=Hq Xc3
   have HB2:=Hq Yc3
   clear hHeld hSn Xc0 Yc0 Xc1 Yc1 Xc2 Yc2 Xc3 Yc3
   go_wp2_with fail
   go_ret
   exact⟨by rw[← HE.out];rfl,HB2.out⟩
  ·have hS4:=HS4.out
   have hl0:=HL0.out
   have hcg1:=blkCell HX1.out
   obtain⟨B5,hB5⟩:=ex (Rc.mk (Rc.p next 6))
   have hl5:((Rc.p next 6)).length=6:=Rc.p_length _ _
   have HC5:=Hq (show ∀ W,Calls Tryz.prog 111 #[next,.int .i64 6] W fun e w'=>e= .returned (.string B5)∧Below W.heap.size W w' from fun W=>by rw[hB5];exact rput_mk next 6 (by omega) W)
   obtain⟨S5,hS5⟩:=ex (Rc.mk (((((Rc.p 4 1)++(Rc.p lsn 6))++(Rc.p prev 6))++(Rc.p txn 6))++(Rc.p next 6)))
   have ha5:∀ W:World,(Op.stringOp .add S4 B5).run Tryz.prog W= .ok (.string S5) W:=fun W=>by rw[hS4,hB5,hS5];exact add_mk _ _ (by(try simp only[List.length_append,Rc.p_length]);omega) W
   have HE:=Hq (show S5=R from by rw[hS5,HR.out];(congr 1)<;>(unfold Rc.bodyB;rw[Rc.restB_4 rfl];unfold Rc.headB;simp only[List.append_assoc]))
   clear hB5 hl5 hS5
   clear hS4 hl0
   go_wp2_with (go_at_call 111;(with_reducible refine(HC5.out _).mono ?_);rintro e w9 ⟨rfl,hb9⟩)
   go_ret
   exact⟨by rw[← HE.out];rfl,joinB HB1.out hb9⟩
  ·have hS4:=HS4.out
   have hl0:=HL0.out
   have hcg1:=blkCell HX1.out
   obtain⟨-,-,-,h4,h5⟩:=(HF.out.change (by unfold Rc.hasChange;simp)).2
   dsimp only at h4 h5
   have hoo:oo.size≤65535:=by omega
   have hon:on.size≤65535:=by omega
   clear h4 h5
   obtain⟨B5,hB5⟩:=ex (Rc.mk (Rc.p page 3))
   have hl5:((Rc.p page 3)).length=3:=Rc.p_length _ _
   have HC5:=Hq (show ∀ W,Calls Tryz.prog 111 #[page,.int .i64 3] W fun e w'=>e= .returned (.string B5)∧Below W.heap.size W w' from fun W=>by rw[hB5];exact rput_mk page 3 (by omega) W)
   obtain⟨S5,hS5⟩:=ex (Rc.mk (((((Rc.p 8 1)++(Rc.p lsn 6))++(Rc.p prev 6))++(Rc.p txn 6))++(Rc.p page 3)))
   have ha5:∀ W:World,(Op.stringOp .add S4 B5).run Tryz.prog W= .ok (.string S5) W:=fun W=>by rw[hS4,hB5,hS5];exact add_mk _ _ (by(try simp only[List.length_append,Rc.p_length]);omega) W
   obtain⟨B6,hB6⟩:=ex (Rc.mk (Rc.opB ⟨ok,os,oo,on⟩))
   have hl6:((Rc.opB ⟨ok,os,oo,on⟩)).length≤140000:=by unfold Rc.opB;simp only[List.length_append,Rc.p_length,Rc.t_len];omega
   have HC6:=Hq (show ∀ W,Calls Tryz.prog 173 #[.agg #[ok,os,oo,on]] W fun e w'=>e= .returned (.string B6)∧Below W.heap.size W w' from fun W=>by rw[hB6];exact ropb_any ⟨ok,os,oo,on⟩ hoo hon W)
   obtain⟨S6,hS6⟩:=ex (Rc.mk ((((((Rc.p 8 1)++(Rc.p lsn 6))++(Rc.p prev 6))++(Rc.p txn 6))++(Rc.p page 3))++(Rc.opB ⟨ok,os,oo,on⟩)))
   have ha6:∀ W:World,(Op.stringOp .add S5 B6).run Tryz.prog W= .ok (.string S6) W:=fun W=>by rw[hS5,hB6,hS6];exact add_mk _ _ (by(try simp only[List.length_append,Rc.p_length]);omega) W
   have HE:=Hq (show S6=R from by rw[hS6,HR.out];(congr 1)<;>(unfold Rc.bodyB;rw[Rc.restB_8 rfl];unfold Rc.headB;simp only[List.append_assoc]))
   clear hB5 hl5 hS5
   clear hB6 hl6 hS6
   clear hS4 hl0
   go_upto_region 13 with fail
   have Xc0:=blkOld HX1.out (Below.refl _ w1).drew
   have Yc0:=joinB HB1.out (Below.refl _ w1).drew
   refine rgH (S:=(fun u=>u.heap[g]? =some (.cells (rcA lsn prev txn 8 page next nu ok os oo on how root ek ep es (.slice A ts.length c) (.slice B ds.length d)) 55 (0,0)))) (fun hHeld=>?_)
   refine tkP 0 ?_;refine tkP 1 ?_;refine tkP 2 ?_;refine tkP 5 ?_;refine tkP 6 ?_
   refine rdP 3 fun K hK=>?_
   go_simp
   refine(HC5.out _).mono ?_;rintro e vc1 ⟨rfl,hb⟩;have Xc1:=blkOld Xc0 hb;have Yc1:=joinB Yc0 hb;try clear hSn
   have hSn:=Xc1
   clear hb
   refine hKo hK (fun hHeld=>?_)
   clear hK K
   refine tkP 4 ?_
   refine rdP 7 fun K hK=>?_
   go_simp
   refine(HC6.out _).mono ?_;rintro e vc2 ⟨rfl,hb⟩;have Xc2:=blkOld Xc1 hb;have Yc2:=joinB Yc1 hb;try clear hSn
   have hSn:=Xc2
   clear hb
   refine hKo hK (fun hHeld=>?_)
   clear hK K
   refine tkP 8 ?_;refine tkP 9 ?_
   refine wpAnyH_done Kr ?_ _
   have HX2:=Hq Xc2
   have HB2:=Hq Yc2
   clear hHeld hSn Xc0 Yc0 Xc1 Yc1 Xc2 Yc2
   go_wp2_with fail
   go_ret
   exact⟨by rw[← HE.out];rfl,HB2.out⟩
  ·have hS4:=HS4.out
   have hl0:=HL0.out
   have hcg1:=blkCell HX1.out
   have h6:=(HF.out.lists rfl).2
   obtain⟨B5,hB5⟩:=ex (Rc.mk (Rc.listsB ⟨lsn,prev,txn,9,page,next,nu,⟨ok,os,oo,on⟩,how,root,⟨ek,ep,es⟩,ts,ds⟩))
   have hl5:(Rc.listsB ⟨lsn,prev,txn,9,page,next,nu,⟨ok,os,oo,on⟩,how,root,⟨ek,ep,es⟩,ts,ds⟩).length≤40000:=by have h7:=h6.1;have h8:=h6.2.1;dsimp only at h7 h8;unfold Rc.listsB;simp only[List.length_append,Rc.p_length,Rc.flat_len Rc.txnB 19 Rc.txnB_len,Rc.flat_len Rc.dirtyB 9 Rc.dirtyB_len];omega
   have HCK:=Hq (fun W (hb:Below w.heap.size w W)=>by have h:=rcheck_any ⟨lsn,prev,txn,9,page,next,nu,⟨ok,os,oo,on⟩,how,root,⟨ek,ep,es⟩,ts,ds⟩ A B c d h6.1 h6.2.1 W (HRR.out.below hb);rw[← hB5]at h;exact h)
   dsimp only[recV,recA]at HCK
   have ha5:∀ W:World,(Op.stringOp .add S4 B5).run Tryz.prog W= .ok (.string R) W:=fun W=>by
    have h1:=add_mk ((((Rc.p 9 1)++(Rc.p lsn 6))++(Rc.p prev 6))++(Rc.p txn 6)) (Rc.listsB ⟨lsn,prev,txn,9,page,next,nu,⟨ok,os,oo,on⟩,how,root,⟨ek,ep,es⟩,ts,ds⟩) (by omega) W
    rw[← hS4,← hB5]at h1
    have h2:Rc.mk (((((Rc.p 9 1)++(Rc.p lsn 6))++(Rc.p prev 6))++(Rc.p txn 6))++Rc.listsB ⟨lsn,prev,txn,9,page,next,nu,⟨ok,os,oo,on⟩,how,root,⟨ek,ep,es⟩,ts,ds⟩)=R:=by rw[HR.out];(congr 1)<;>(unfold Rc.bodyB;rw[Rc.restB_9 rfl];unfold Rc.headB;simp only[List.append_assoc])
    rw[h2]at h1
    exact h1
   clear hB5 hl5 hS4 hl0 h6
   go_wp2_with (first|(with_reducible refine lL HX1.out Tryz.underlying55 ?_)|(go_at_call 175;(with_reducible refine(HCK.out _ HB1.out).mono ?_);rintro e w9 ⟨rfl,hb9⟩))
   go_ret
   exact⟨rfl,joinB HB1.out hb9⟩
end Go.Proofs.YtilakddepaplhaaGreat
