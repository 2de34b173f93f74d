import Derived.Test.YtdfkambdagoojaaGreatDoorHa00
import Derived.Test.YtdfkambdagoojaaGreatDoorHa28
import Derived.Test.YtdfkambdagoojaaGreatDoorHa29
import Derived.Test.YtdfkambdagoojaaGreatDoorHa30
set_option maxRecDepth 100000
set_option maxHeartbeats 16000000
set_option linter.unusedSimpArgs false
namespace Go.Proofs.YtdfkambdagoojaaGreatDoor
open Go.RowKit Sc
theorem pgAt_sz {M:Nat}{d:Lg.Dk}(h:DkW M d){a:Nat}(ha:a+4≤M):(pgAt d a).size≤512:=by
 have hl:=h.len
 have h0:=h.sz d.sectors[a] (List.getElem_mem (by omega))
 have h1:=h.sz d.sectors[a+1] (List.getElem_mem (by omega))
 have h2:=h.sz d.sectors[a+2] (List.getElem_mem (by omega))
 have h3:=h.sz d.sectors[a+3] (List.getElem_mem (by omega))
 rw[pgAt_four (by omega),ByteArray.size_append,ByteArray.size_append,ByteArray.size_append]
 omega
theorem poolahead_any (z:Int)(hz: -9223372036854775808≤z∧z≤9223372036854775807)(l:List PkAct)(A:Option Addr)(c:Nat)(hsz:∀ a∈l,a.o.new.size≤140737488355328∧a.n≤9223372036854775807)(hll:l.length≤140737488355328)(w:World)(hv:Vars w)(hr:Reads w A c l.length (l.flatMap pkC)):
 Calls Tryz.prog 3 #[z,.slice A l.length c] w fun e w'=>e= .returned (.bool true)∧Below w.heap.size w w':=by
 have HAW:=Hq (fun W=>lawake_any W)
 by_cases hl40:40<l.length
 ·have hli:(40:Int)<(l.length:Int):=by omega
  clear hr hsz hv
  go_enter Tryz.func3,Tryz.ntmps3
  go_upto_region 2 with fail
  go_wp2_with (go_at_call 6;(refine(HAW.out _).mono ?_);rintro e w1 ⟨rfl,hb1⟩)
  go_ret
  exact⟨rfl,hb1⟩
 ·have hli:¬ (40:Int)<(l.length:Int):=by omega
  have HSI:=Hq (fun W=>lsize_any z hz W)
  have HBL:=Hq (fun(k:Nat) (hk:1≤k∧k≤5) W=>rblank_any 700 8 k (by omega) (by omega) W)
  have HWF:=Hq (fun(k:Nat) (hk:1≤k∧k≤5)=>blank_wf (N:=700) (n:=8) (k:=k) (by omega) (by omega) (by omega))
  have HAH:=Hq (fun(k:Nat) (hk:1≤k∧k≤5)=>blank_ah (N:=700) (n:=8) (k:=k) (by omega) (by omega) (by omega))
  generalize blankS 700 8=SB at HBL HWF HAH
  have HR:=Hq (fun W (hb:Below w.heap.size w W)=>hr.below hb)
  have HSZ:=Hq hsz
  have HV:=Hq (fun W (hb:Below w.heap.size w W)=>hv.below hb)
  have HT:=Hq (fun w' (hb:Below w.heap.size w w')=>show(fun(e:Ending) (w':World)=>e= .returned (.bool true)∧Below w.heap.size w w') (.returned (.bool true)) w' from⟨rfl,hb⟩)
  generalize (fun(e:Ending) (w':World)=>e= .returned (.bool true)∧Below w.heap.size w w')=Q at HT ⊢
  clear hr hsz hv hl40
  go_enter Tryz.func3,Tryz.ntmps3
  go_upto_region 4 with(first
   |(go_at_call 6;(refine(HAW.out _).mono ?_);rintro e w1 ⟨rfl,hb1⟩)
   |(go_at_call 8;(refine(HSI.out _).mono ?_);rintro e w2 ⟨fk,hfk,-,rfl,hb2⟩)
   |(go_at_call 7;(refine(HBL.out fk hfk _).mono ?_);rintro e w3 ⟨q,rfl,hp3,hb3⟩)
   |(with_reducible refine sN (stA (SB fk) q) ?_))
  have HB4:=Hq (joinB hb1 (joinB hb2 (joinB hb3 (allocB w3 (.cells (stA (SB fk) q) 36)))))
  have HS4:=Hq (heap_alloc_new w3 (.cells (stA (SB fk) q) 36))
  have HP4:=Hq (hp3.below (allocB w3 (.cells (stA (SB fk) q) 36)))
  have hw3s:w.heap.size≤w3.heap.size:=Nat.le_trans hb1.size (Nat.le_trans hb2.size hb3.size)
  obtain⟨g5,hg5⟩:=ex w3.heap.size
  obtain⟨w4,hw4⟩:=ex (w3.alloc (.cells (stA (SB fk) q) 36))
  rw[← hg5,← hw4]at HS4
  rw[← hw4]at HP4 HB4
  rw[← hw4,← hg5]
  rw[← hg5]at hw3s
  clear hw4 hg5 hb1 hb2 hb3 hp3 HSI HBL HAW
  have HWF1:=Hq (HWF.out fk hfk)
  have HAH1:=Hq (HAH.out fk hfk)
  generalize SB fk=s0 at HS4 HP4 HWF1 HAH1 ⊢
  generalize freeF fk=fs0 at HP4 HWF1 HAH1
  clear HWF HAH hfk
  try simp only[Act.put]
  go_wp2_with fail
  go_loopw [6] (fun i wq=>∃ (k:Nat) (s:Tx.St) (p:SP) (fs:List Fr),k≤l.length∧i= .int .i64 (k:Int)∧wq.heap[g5]? =some (.cells (stA s p) 36 (0,0))∧PoolR wq s p fs∧Ah 700 8 s fs∧Wf 700 8 k s fs∧Below w.heap.size w wq) (fun i _=>l.length-(intOf i).toNat)
  case atStart=>exact⟨0,s0,q,fs0,Nat.zero_le _,rfl,HS4.out,HP4.out,HAH1.out,HWF1.out,HB4.out⟩
  case round=>
   obtain⟨wq,rfl⟩:=ex wr
   obtain⟨k,s,p,fs,hk,rfl,hs,hp,hah,hwf,hb⟩:=hrel
   have HS9:=Hq hs
   have HP9:=Hq hp
   have HAH:=Hq hah
   have HWF:=Hq hwf
   have HB9:=Hq hb
   clear hs hp hah hwf hb HS4 HP4 HAH1 HWF1 HB4
   have hk0:(0:Int)≤(k:Int):=by omega
   by_cases hlt:k<l.length
   ·have hki:(k:Int)<(l.length:Int):=by omega
    have hwk:IntKind.i64.wrap ((k:Int)+1)=(k:Int)+1:=IntWalk.i64_in _ (by omega)
    obtain⟨b,off,hpA,hcc,hbl,hcell⟩:=read_at pkC_len (HR.out w (Below.refl _ _)) hlt
    obtain⟨a,ha⟩:=ex (l[k])
    have haz:=HSZ.out a (by rw[ha];exact List.getElem_mem hlt)
    rw[← ha]at hcell
    have HAK:=Hq (fun u (hu:Below w.heap.size w u)=>show u.rangeAt b (off+k*25) (pkC a)from fun i v hv=>by rw[hu.cell (p:=⟨b,off+k*25+i,none⟩) hbl];exact hcell i v hv)
    rw[hpA]
    clear hcell hcc hbl hpA ha
    have hck:=show wq.cell? ⟨b,off+k*25,none⟩=some (.int .i64 a.kind)from HAK.out wq HB9.out 0 _ rfl
    by_cases h7:a.kind=7
    ·rw[h7]at hck
     clear haz h7
     go_wp2_with fail
     go_roundw
     case rel=>exact⟨k+1,s,p,fs,by omega,by go_num,HS9.out,HP9.out,HAH.out,HWF.out.more (Nat.le_succ k),HB9.out⟩
     case measure=>simp[intOf];omega
    ·have hk7:(a.kind==7)=false:=beq_eq_false_iff_ne.2 h7
     have HMI:=Hq (fun W (hb:Below wq.heap.size wq W)=>lmineA_any s p fs HWF.out (by omega) a h7 haz.1 W (HV.out W (joinB HB9.out hb)) (HP9.out.below hb))
     have HK:=Hq (HAH.out.act HWF.out a haz.2)
     clear haz h7
     generalize actA s fs a=X at HMI HK
     obtain⟨⟨xs,xfs,xe⟩,xb⟩:=X
     go_upto_region 8 with fail
     go_cut [7,8,9] (fun x y z wc=>∃ (g9:Nat) (q9:SP),x= .pointer (some ⟨g9,0,none⟩)∧y= .string xb∧z= .int .i64 xe∧wc.heap[g9]? =some (.cells (stA xs q9) 36 (0,0))∧PoolR wc xs q9 xfs∧wq.heap.size≤g9∧Below wq.heap.size wq wc)
     case first=>
      have Z0:Below wq.heap.size wq wq.drew:=(Below.refl _ wq).drew
      refine rgH (S:=(fun u=>Below wq.heap.size wq u)) (fun hHeld=>?_)
      refine tkV 0 (some 38) (v:=.agg (stA s p)) rfl (yieldsIf_load_mid (by rfl) 36 (.tmp 5) rfl g5 0 (by rfl) (stA s p).toList _ (fun u hu=>(by intro j v hj;rw[Nat.zero_add,blkCell (blkOld HS9.out hu)];simpa using hj)) Tryz.underlying36 Kr Kr) ?_
      try simp only[Act.put,pS]
      refine tkP 1 ?_;refine tkP 2 ?_;refine tkP 3 ?_
      refine tkV 4 (some 42) (v:=.agg #[a.kind,a.page,a.n,a.o.kind,a.o.slot,a.o.old,a.o.new,a.p.r.lsn,a.p.r.prev,a.p.r.txn,a.p.r.kind,a.p.r.page,a.p.r.next,a.p.r.num,a.p.r.op.kind,a.p.r.op.slot,a.p.r.op.old,a.p.r.op.new,a.p.r.how,a.p.r.root,a.p.r.e.key,a.p.r.e.page,a.p.r.e.slot,.slice a.p.A a.p.r.txns.length a.p.c,.slice a.p.B a.p.r.dirty.length a.p.d]) rfl (yieldsIf_load_mid (by rfl) 49 (.tmp 41) rfl b (off+k*25) (by rfl) (pkC a) _ (fun u hu=>HAK.out u (joinB HB9.out hu)) Tryz.underlying49 Kr Kr) ?_
      try simp only[Act.put,pS]
      refine wpAnyH_ready (rs:=[5,10]) Kr (by simp) ?_
      refine(AllReadyH.cons (o:={dst:=some 43,op:=_,type:=_,pos:=_,after:=_,guard:=_}) rfl (fun K hK=>?_) (AllReadyH.cons (o:={dst:=some 7,op:=_,type:=_,pos:=_,after:=_,guard:=_}) rfl (fun K hK=>?_) AllReadyH.nil))
      ·
       go_simp
       refine(HMI.out _ Z0).mono ?_;rintro e w5 ⟨q9,rfl,hp5,hb5⟩;have Z2:=joinB Z0 hb5;try clear hSn
       have hSn:=Z2
       refine hKo hK (fun hHeld=>?_)
       clear hK K
       refine tkP 6 ?_;refine tkP 7 ?_;refine tkP 8 ?_;refine tkP 9 ?_
       refine rdP 10 fun K hK=>?_
       go_simp
       have HG:=heap_alloc_new w5 (.cells #[(),(),(),'s',(),false,(),(),(),(),"",'s',(),'s',()] 36);have Z3:=joinB Z2 (allocB w5 (.cells #[(),(),(),'s',(),false,(),(),(),(),"",'s',(),'s',()] 36));have hp6:=hp5.below (allocB w5 (.cells #[(),(),(),'s',(),false,(),(),(),(),"",'s',(),'s',()] 36));clear hSn;have hSn:=Z3
       refine hKo hK (fun hHeld=>?_)
       clear hK K
       refine rdP 11 fun K hK=>?_
       refine wantedIf (by rfl) ?_
       refine sW (stA xs q9) HG ?_
       have Z4:=rowB (g:=w5.heap.size) (by have:=Z2.size;omega) Z3 (stA xs q9)
       have HG4:=setRow_heap _ _ _ (stA xs q9) _ _ HG
       have hp7:=hp6.other (t:=36) HG (by decide) (by decide) (by decide) (stA xs q9)
       have hge:wq.heap.size≤w5.heap.size:=(by have:=Z2.size;omega)
       clear hSn
       have hSn:=Z4
       refine hKo hK (fun hHeld=>?_)
       clear hK K
       refine tkP 12 ?_;refine tkP 13 ?_
       refine wpAnyH_done Kr ?_ _
       clear hHeld hSn
       go_wp2_with fail
       go_meet
       case rel=>exact⟨_,q9,rfl,rfl,rfl,HG4,hp7,hge,Z4⟩
      ·
       go_simp
       have Z1:=joinB Z0 (allocB wq.drew (.cells #[(),(),(),'s',(),false,(),(),(),(),"",'s',(),'s',()] 36));have hSn:=Z1
       refine hKo hK (fun hHeld=>?_)
       clear hK K
       refine rdP 5 fun K hK=>?_
       go_simp
       refine(HMI.out _ Z1).mono ?_;rintro e w5 ⟨q9,rfl,hp5,hb5⟩;have Z2:=joinB Z1 hb5;try clear hSn
       have hSn:=Z2
       have HG:=blkNew hb5
       refine hKo hK (fun hHeld=>?_)
       clear hK K
       refine tkP 6 ?_;refine tkP 7 ?_;refine tkP 8 ?_;refine tkP 9 ?_
       refine rdP 11 fun K hK=>?_
       refine wantedIf (by rfl) ?_
       refine sW (stA xs q9) HG ?_
       have Z4:=rowB (g:=wq.drew.heap.size) (by show wq.heap.size≤wq.heap.size;omega) Z2 (stA xs q9)
       have HG4:=setRow_heap _ _ _ (stA xs q9) _ _ HG
       have hp7:=hp5.other (t:=36) HG (by decide) (by decide) (by decide) (stA xs q9)
       have hge:wq.heap.size≤wq.drew.heap.size:=(by show wq.heap.size≤wq.heap.size;omega)
       clear hSn
       have hSn:=Z4
       refine hKo hK (fun hHeld=>?_)
       clear hK K
       refine tkP 12 ?_;refine tkP 13 ?_
       refine wpAnyH_done Kr ?_ _
       clear hHeld hSn
       go_wp2_with fail
       go_meet
       case rel=>exact⟨_,q9,rfl,rfl,rfl,HG4,hp7,hge,Z4⟩
     case rest=>
      obtain⟨g9,q9,rfl,rfl,rfl,hg9,hp9,hge,hb9⟩:=hcut
      obtain⟨v0,rfl⟩:=ex wc
      have HG9:=Hq hg9
      have HPX:=Hq hp9
      have HBX:=Hq hb9
      have HSX:=Hq (blkOld HS9.out hb9)
      clear hg9 hp9 hb9 hge HMI hck hk7 HAK HS9 HP9
      go_upto_region 10 with(first|(with_reducible refine lL HG9.out Tryz.underlying36 ?_)|(with_reducible refine lS (stA xs q9) HSX.out ?_))
      have HS1:=Hq (setRow_heap _ _ _ (stA xs q9) _ _ HSX.out)
      have HP1:=Hq (HPX.out.other (t:=36) HSX.out (by decide) (by decide) (by decide) (stA xs q9))
      have HB1:=Hq (rowB (g:=g5) hw3s (joinB HB9.out HBX.out) (stA xs q9))
      generalize v0.setRow g5 (stA xs q9)=v1 at HS1 HP1 HB1 ⊢
      clear HG9 HPX HBX HSX HB9 HAH HWF
      try simp only[Act.put]
      have HSD:=Hq (fun W=>start_any xs.disk q9.A q9.c W)
      go_upto_region 11 with(first
       |(with_reducible refine lP #[.slice q9.A xs.disk.sectors.length q9.c,xs.disk.left,xs.disk.down] HS1.out Tryz.underlying28 ?_)
       |(go_at_call 10;(refine(HSD.out _).mono ?_);rintro e v2 ⟨rfl,hb2⟩)
       |(with_reducible refine sN #[.slice q9.A (Lg.startD xs.disk).sectors.length q9.c,.int .i64 (Lg.startD xs.disk).left,.bool (Lg.startD xs.disk).down] ?_))
      have hb3:=hb2.trans ((allocB v2 (.cells #[.slice q9.A (Lg.startD xs.disk).sectors.length q9.c,.int .i64 (Lg.startD xs.disk).left,.bool (Lg.startD xs.disk).down] 28)).mono hb2.size)
      have HG3:=Hq (heap_alloc_new v2 (.cells #[.slice q9.A (Lg.startD xs.disk).sectors.length q9.c,.int .i64 (Lg.startD xs.disk).left,.bool (Lg.startD xs.disk).down] 28))
      have HS3:=Hq (blkOld HS1.out hb3)
      have HP3:=Hq (HP1.out.below hb3)
      have HB3:=Hq (joinB HB1.out hb3)
      obtain⟨g10,hg10⟩:=ex v2.heap.size
      obtain⟨v3,hv3⟩:=ex (v2.alloc (.cells #[.slice q9.A (Lg.startD xs.disk).sectors.length q9.c,.int .i64 (Lg.startD xs.disk).left,.bool (Lg.startD xs.disk).down] 28))
      rw[← hg10,← hv3]at HG3
      rw[← hv3]at HS3 HP3 HB3
      rw[← hv3,← hg10]
      clear hv3 hg10 hb2 hb3 HS1 HP1 HB1 HSD
      try simp only[Act.put]
      have hwx:=HK.out.2
      have hdx:=hwx.dk.start
      have hzl:=hwx.zl
      have HSE:=Hq (fun(j:Nat) (hj:j<8) W=>show Calls Tryz.prog 12 #[storeV xs q9,.int .i64 (j:Int)] W fun e w'=>e= .returned (.int .i64 ((1+700+4*j:Nat):Int))∧Below W.heap.size W w' from(rsector_at xs q9 (j:Int) (by omega) (by omega) W).mono fun e w' ⟨h1,h2⟩=>⟨by rw[h1,hzl];congr 2<;>omega,h2⟩)
      have HRP:=Hq (fun(j:Nat) (hj:j<8) W (hb:Below v3.heap.size v3 W)=>show Calls Tryz.prog 11 #[.agg #[.slice q9.A (Lg.startD xs.disk).sectors.length q9.c,.int .i64 (Lg.startD xs.disk).left,.bool (Lg.startD xs.disk).down],.int .i64 ((1+700+4*j:Nat):Int)] W fun e w'=>e= .returned (.tuple #[.string (pgAt (Lg.startD xs.disk) (1+700+4*j)),()])∧Below W.heap.size W w' from rreadpage_on (Lg.startD xs.disk) hdx rfl q9.A q9.c (1+700+4*j) (by omega) (by omega) W ⟨(HP3.out.st.dk.below hb).secs,(HP3.out.st.dk.below hb).small⟩)
      have HPS:=Hq (fun(j:Nat) (hj:j<8)=>pgAt_sz hdx (a:=1+700+4*j) (by omega))
      have HSY:=Hq (fun(j:Nat) (hj:j<8)=>HK.out.1.says hwx hj)
      clear hwx hdx hzl
      obtain⟨PG,hPG⟩:∃ f:Nat→ByteArray,f=fun j=>pgAt (Lg.startD xs.disk) (1+700+4*j):=⟨_,rfl⟩
      have HPG:=Hq (fun j=>show pgAt (Lg.startD xs.disk) (1+700+4*j)=PG j from by rw[hPG])
      clear hPG
      go_wp2_with fail
      go_loopw [11] (fun i wr=>∃ j:Nat,j≤8∧i= .int .i64 (j:Int)∧Below v3.heap.size v3 wr) (fun i _=>8-(intOf i).toNat)
      case atStart=>exact⟨0,by omega,rfl,Below.refl _ _⟩
      case round=>
       obtain⟨v4,rfl⟩:=ex wr
       obtain⟨j,hj,rfl,hb4⟩:=hrel
       have HB4:=Hq hb4
       clear hb4
       have hj0:(0:Int)≤(j:Int):=by omega
       by_cases hjl:j<8
       ·have hji:(j:Int)<8:=by omega
        have hwj:IntKind.i64.wrap ((j:Int)+1)=(j:Int)+1:=IntWalk.i64_in _ (by omega)
        have HSJ:=Hq (HSE.out j hjl)
        have HRJ:=Hq (fun W hb=>HRP.out j hjl W hb)
        rw[HPG.out j]at HRJ
        have hps:=HPS.out j hjl
        rw[HPG.out j]at hps
        have HYJ:=Hq (HSY.out j hjl)
        rw[HPG.out j]at HYJ
        generalize ((1+700+4*j:Nat):Int)=sj at HSJ HRJ
        generalize PG j=pj at HRJ hps HYJ
        have HSG:=Hq (fun W=>rsealed_any pj (by omega) W)
        have HLS:=Hq (fun W=>rlsn_any pj (by omega) W)
        generalize (leafP pj).lsn=ln at HLS HYJ
        clear hps
        go_upto_region 14 with fail
        have hSn:Below v3.heap.size v3 v4.drew:=HB4.out.drew
        refine rgH (S:=(fun u=>Below v3.heap.size v3 u)) (fun hHeld=>?_)
        generalize v4.drew=v9 at hSn ⊢
        refine tkV 0 (some 56) (v:=.agg #[.slice q9.A (Lg.startD xs.disk).sectors.length q9.c,.int .i64 (Lg.startD xs.disk).left,.bool (Lg.startD xs.disk).down]) rfl (yieldsIf_load_mid (by rfl) 28 (.tmp 10) rfl g10 0 (by rfl) #[.slice q9.A (Lg.startD xs.disk).sectors.length q9.c,.int .i64 (Lg.startD xs.disk).left,.bool (Lg.startD xs.disk).down].toList _ (fun u hu=>(by intro j v hj;rw[Nat.zero_add,blkCell (blkOld HG3.out hu)];simpa using hj)) Tryz.underlying28 Kr Kr) ?_
        try simp only[Act.put,pS]
        refine tkV 1 (some 57) (v:=.agg (stA xs q9)) rfl (yieldsIf_load_mid (by rfl) 36 (.tmp 5) rfl g5 0 (by rfl) (stA xs q9).toList _ (fun u hu=>(by intro j v hj;rw[Nat.zero_add,blkCell (blkOld HS3.out hu)];simpa using hj)) Tryz.underlying36 Kr Kr) ?_
        try simp only[Act.put,pS]
        refine tkP 2 ?_
        refine rdP 3 fun K hK=>?_
        go_simp
        (refine(HSJ.out _).mono ?_);rintro e v5 ⟨rfl,hb5⟩;have hSm:=joinB hSn hb5;clear hSn;have hSn:=hSm;clear hSm
        refine hKo hK (fun hHeld=>?_)
        clear hK K
        refine rdP 4 fun K hK=>?_
        go_simp
        (refine(HRJ.out _ hSn).mono ?_);rintro e v6 ⟨rfl,hb6⟩;have hSm:=joinB hSn hb6;clear hSn;have hSn:=hSm;clear hSm
        refine hKo hK (fun hHeld=>?_)
        clear hK K
        refine tkP 5 ?_;refine tkP 6 ?_;refine tkP 7 ?_;refine tkP 8 ?_;refine tkP 9 ?_
        refine wpAnyH_done Kr ?_ _
        clear hHeld
        try simp only[Act.put]
        generalize sealedP pj=sb at HSG HYJ
        cases sb with
        |true=>
         have hls:¬ xs.log.safe<((ln:Nat):Int):=by have:=HYJ.out rfl;omega
         clear HYJ
         go_upto_region 15 with fail
         have hSm:Below v3.heap.size v3 v6.drew:=hSn.drew
         clear hSn
         have hSn:=hSm
         clear hSm
         have Hy:=Hq (fun(u:World) (hSu:Below v3.heap.size v3 u)=>(show u.cell? ⟨g5,9,none⟩=some (.int .i64 xs.log.safe)from(by rw[blkCell (blkOld HS3.out hSu)];rfl)))
         refine rgH (S:=(fun u=>Below v3.heap.size v3 u)) (fun hHeld=>?_)
         generalize v6.drew=v9 at hSn ⊢
         refine tkP 0 ?_;refine tkP 1 ?_;refine tkP 2 ?_;refine tkP 3 ?_
         refine rdP 4 fun K hK=>?_
         go_simp
         (refine(HSG.out _).mono ?_);rintro e v7 ⟨rfl,hb7⟩;have hSm:=joinB hSn hb7;clear hSn;have hSn:=hSm;clear hSm
         refine hKo hK (fun hHeld=>?_)
         clear hK K
         refine tkP 5 ?_;refine tkP 6 ?_;refine tkP 8 ?_;refine tkP 9 ?_;refine tkP 10 ?_
         refine rdP 7 fun K hK=>?_
         go_simp
         (refine(HLS.out _).mono ?_);rintro e v8 ⟨rfl,hb8⟩;have hSm:=joinB hSn hb8;clear hSn;have hSn:=hSm;clear hSm
         refine hKo hK (fun hHeld=>?_)
         clear hK K
         refine tkP 11 ?_;refine tkP 12 ?_;refine tkP 13 ?_
         refine wpAnyH_done Kr ?_ _
         clear hHeld
         have HBR:=Hq hSn
         clear hSn hls
         go_wp2_with fail
         go_roundw
         case rel=>exact⟨j+1,by omega,by go_num,HBR.out⟩
         case measure=>simp[intOf];omega
        |false=>
         clear HYJ
         go_upto_region 15 with fail
         have hSm:Below v3.heap.size v3 v6.drew:=hSn.drew
         clear hSn
         have hSn:=hSm
         clear hSm
         have Hy:=Hq (fun(u:World) (hSu:Below v3.heap.size v3 u)=>(show u.cell? ⟨g5,9,none⟩=some (.int .i64 xs.log.safe)from(by rw[blkCell (blkOld HS3.out hSu)];rfl)))
         refine rgH (S:=(fun u=>Below v3.heap.size v3 u)) (fun hHeld=>?_)
         generalize v6.drew=v9 at hSn ⊢
         refine tkP 0 ?_;refine tkP 1 ?_;refine tkP 2 ?_;refine tkP 3 ?_
         refine rdP 4 fun K hK=>?_
         go_simp
         (refine(HSG.out _).mono ?_);rintro e v7 ⟨rfl,hb7⟩;have hSm:=joinB hSn hb7;clear hSn;have hSn:=hSm;clear hSm
         refine hKo hK (fun hHeld=>?_)
         clear hK K
         refine tkP 5 ?_
         refine tkO 6 (some 69) rfl ?_
         try simp only[Act.put,pS]
         refine tkO 7 (some 70) rfl ?_
         try simp only[Act.put,pS]
         refine tkO 8 (some 71) rfl ?_
         try simp only[Act.put,pS]
         refine tkO 9 (some 72) rfl ?_
         try simp only[Act.put,pS]
         refine tkO 10 (some 73) rfl ?_
         try simp only[Act.put,pS]
         refine tkO 11 (some 74) rfl ?_
         try simp only[Act.put,pS]
         refine tkP 12 ?_;refine tkP 13 ?_
         refine wpAnyH_done Kr ?_ _
         clear hHeld
         have HBR:=Hq hSn
         clear hSn
         go_wp2_with fail
         go_roundw
         case rel=>exact⟨j+1,by omega,by go_num,HBR.out⟩
         case measure=>simp[intOf];omega
       ·have hj8:(j:Int)=8:=by omega
        rw[hj8]
        clear HSE HRP HPS HSY HPG
        go_wp2_with fail
        go_roundw
        case rel=>exact⟨k+1,xs,q9,xfs,by omega,by go_num,blkOld HS3.out HB4.out,HP3.out.below HB4.out,HK.out.1,HK.out.2,joinB HB3.out HB4.out⟩
        case measure=>simp[intOf];omega
   ·obtain rfl:k=l.length:=by omega
    have hli2:¬ ((l.length:Nat):Int)<(l.length:Int):=by omega
    go_wp2_with fail
    exact HT.out _ HB9.out
end Go.Proofs.YtdfkambdagoojaaGreatDoor
