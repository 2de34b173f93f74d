import Derived.Test.YtmfkhdhnbkambaaGreatDoorHp00
import Derived.Test.YtmfkhdhnbkambaaGreatDoorHp15
import Derived.Test.YtmfkhdhnbkambaaGreatDoorHp08
set_option maxRecDepth 100000
set_option maxHeartbeats 16000000
set_option linter.unusedSimpArgs false
namespace Go.Proofs.YtmfkhdhnbkambaaGreatDoor
open Go.RowKit Sc
theorem pflogged_any (s:Tx.St)(p:SP)(hb:Tx.LogB s)(r:Rc.Rec)(h1:r.txns=[])(h2:r.dirty=[])(w:World):
 Calls Tryz.prog 79 #[storeV s p,.agg (recA r (.slice none 0 0) (.slice none 0 0))] w fun e w'=>e= .returned (.tuple #[storeV {s with log:=(Lg.appendD s.log r).1} p,.int .i64 (Lg.appendD s.log r).2.1,.int .i64 (Lg.appendD s.log r).2.2])∧Below w.heap.size w w':=by
 have HA:=Hq (fun W=>show Calls Tryz.prog 127 #[logV s.log,.agg (recA r (.slice none 0 0) (.slice none 0 0))] W (AppOut (Lg.appendD s.log r) W)from by
  have h0:=append_any s.log hb.e0 (by have:=hb.e1;omega) (by have:=hb.n0;omega) (by have:=hb.n1;omega) (by have:=hb.t0;have:=hb.e1;omega) r none none 0 0 W (recR_nil r W h1 h2)
  simp only[h1,h2,List.length_nil]at h0
  exact h0)
 generalize Lg.appendD s.log r=x at HA ⊢
 go_enter Tryz.func79,Tryz.ntmps79
 go_upto_region 1 with fail
 have H0:=nW3 w (stA s p) 36 (recA r (.slice none 0 0) (.slice none 0 0)) 49 #[(),(),(),"s",(),false,(),(),(),(),"","s",(),"s",()] 36
 obtain⟨W0,hW0⟩:=exW H0
 rw[← hW0]at H0 ⊢
 clear hW0
 go_upto_region 2 with(first
  |(with_reducible refine lP #[s.log.from_,s.log.n,s.log.end_,s.log.safe,s.log.tail] H0.out.get0 Tryz.underlying30 ?_)
  |(with_reducible refine lL H0.out.get1 Tryz.underlying49 ?_)
  |(go_at_call 127;(with_reducible refine(HA.out _).mono ?_);rintro e w1 ⟨rfl,hb1⟩;have H1:=Hq (H0.out.step hb1);clear hb1)
  |(with_reducible refine sN #[x.1.from_,x.1.n,x.1.end_,x.1.safe,x.1.tail] ?_))
 have H2:=Hq (H1.out.step (allocB w1 (.cells #[x.1.from_,x.1.n,x.1.end_,x.1.safe,x.1.tail] 30)))
 have HG:=Hq (heap_alloc_new w1 (.cells #[x.1.from_,x.1.n,x.1.end_,x.1.safe,x.1.tail] 30))
 have hlt:w.heap.size+2<w1.heap.size:=H1.out.lt (i:=2) (by simp)
 obtain⟨g,hg⟩:=ex w1.heap.size
 obtain⟨w2,hw2⟩:=ex (w1.alloc (.cells #[x.1.from_,x.1.n,x.1.end_,x.1.safe,x.1.tail] 30))
 rw[← hg,← hw2]at HG
 rw[← hw2]at H2
 rw[← hw2,← hg]
 rw[← hg]at hlt
 clear hw2 hg H0 H1
 try simp only[Act.put]
 go_upto_region 3 with(first
  |(with_reducible refine lL HG.out Tryz.underlying30 ?_)
  |(with_reducible refine lU #[x.1.from_,x.1.n,x.1.end_,x.1.safe,x.1.tail] (stA {s with log:=x.1} p) H2.out.get0 ?_))
 have H3:=Hq (H2.out.row 0 (stA {s with log:=x.1} p) _ rfl)
 have hz:=H3.out.get0
 go_wp2_with (first
  |(with_reducible refine lL H3.out.get0 Tryz.underlying36 ?_)
  |(with_reducible refine lS (stA {s with log:=x.1} p) H3.out.get2 ?_))
 refine bodyPost_ret (v:=.tuple #[.agg (stA {s with log:=x.1} p),x.2.1,x.2.2]) (results_cell3 rfl _ _ rfl (load_whole (setRow_heap _ _ _ _ _ _ H3.out.get2) Tryz.underlying36 Kr Kr) rfl rfl) rfl ?_
 exact⟨rfl,(H3.out.row 2 (stA {s with log:=x.1} p) _ rfl).below⟩
theorem readsM {w w':World}{A:Option Addr}{c n M:Nat}{vs:List Value}(h:Reads w A c n vs)(hA:∀ ad,A=some ad→ad.block<M)(hb:Below M w w'):Reads w' A c n vs:=fun h0=>by
 obtain⟨b,off,e,hc,hbl,hcell⟩:=h h0
 exact⟨b,off,e,hc,Nat.lt_of_lt_of_le hbl hb.size,fun j v hv=>by rw[hb.cell (p:=⟨b,off+j,none⟩) (show b<M from hA ⟨b,off,none⟩ e)];exact hcell j v hv⟩
theorem PoolR.upto {w w':World}{s:Tx.St}{p:SP}{fs:List Fr}(h:PoolR w s p fs){M:Nat}(hA:∀ ad,p.A=some ad→ad.block<M)(hF:∀ ad,p.F=some ad→ad.block<M)(hb:Below M w w'){ts:List Rc.TxnAt}{T:Option Addr}{tc:Nat}(hT:TxR w' T tc ts)(hTt:NewT 0 w' 59 T):
 PoolR w' {s with txns:=ts} {p with T:=T,tc:=tc} fs:=
 ⟨⟨⟨readsM h.st.dk.secs hA hb,h.st.dk.small⟩,fun ad e=>⟨(h.st.dt ad e).1,by rw[hb.block _ (hA ad e)];exact(h.st.dt ad e).2⟩,hT,hTt⟩,h.fn,readsM h.fr hF hb,fun ad e=>⟨(h.ft ad e).1,by rw[hb.block _ (hF ad e)];exact(h.ft ad e).2⟩⟩
theorem pchg_clo (a:Rc.TxnAt)(t:Int)(b:Nat)(w:World)(hc:w.cell? ⟨b,2,none⟩=some (.int .i64 t)):Calls Tryz.prog 77 #[.agg (txA a),.pointer (some ⟨b,0,none⟩)] w (Says (a.txn=t) w):=by
 have HC:=Hq hc
 have hbl:b<w.heap.size:=by
  rcases Nat.lt_or_ge b w.heap.size with h|h
  ·exact h
  ·rw[World.cell?,Array.getElem?_eq_none h]at hc
   cases hc
 have hcb:=show(w.alloc (.cells (txA a) 59)).cell? ⟨b,2,none⟩=some (.int .i64 t)from by rw[(allocB w (.cells (txA a) 59)).cell (p:=⟨b,2,none⟩) hbl];exact hc
 have hca:=show(w.alloc (.cells (txA a) 59)).cell? ⟨w.heap.size,0,none⟩=some (.int .i64 a.txn)from by rw[blkCell (heap_alloc_new w (.cells (txA a) 59))];rfl
 clear hc
 by_cases he:a.txn=t
 ·have hQ:=Hq (fun w' hb=>says_t (p:=a.txn=t) (w:=w) (w':=w') he hb)
  generalize Says (a.txn=t) w=Q at hQ ⊢
  have hb:(a.txn==t)=true:=by rw[he];exact beq_self_eq_true _
  clear he
  go_enter Tryz.func77,Tryz.ntmps77
  go_wp2_with fail
  exact hQ.out _ (allocB _ _)
 ·have hQ:=Hq (fun w' hb=>says_f (p:=a.txn=t) (w:=w) (w':=w') he hb)
  generalize Says (a.txn=t) w=Q at hQ ⊢
  have hb:(a.txn==t)=false:=beq_eq_false_iff_ne.2 he
  clear he
  go_enter Tryz.func77,Tryz.ntmps77
  go_wp2_with fail
  exact hQ.out _ (allocB _ _)
theorem chg_facts {s:Tx.St}{fs:List Fr}{r:Rc.Rec}{D:ByteArray→ByteArray×Int}{i:Nat}(h1:(r.kind=2∨r.kind=3)∧hasF s r.page)(hi:s.txns.findIdx? (fun a=>decide (a.txn=r.txn))=some i):
 changeF s fs r D=if ¬ (heldF s fs r.page).1.e=0 then(heldF s fs r.page).1 else
 if ¬ (D (frAt (heldF s fs r.page).1.fs (heldF s fs r.page).2).bytes).2=0 then⟨s,fs,(D (frAt (heldF s fs r.page).1.fs (heldF s fs r.page).2).bytes).2⟩else
 chgF (heldF s fs r.page).1 (heldF s fs r.page).2 i s fs r (D (frAt (heldF s fs r.page).1.fs (heldF s fs r.page).2).bytes).1:=by
 unfold changeF
 rw[if_neg (fun hn=>hn h1),hi]
theorem pfchange_any {N n B:Nat}(s:Tx.St)(p:SP)(fs:List Fr)(hW:Wf N n B s fs)(hB:B≤1000000)(t kd pg nx:Int)(o:Rc.Op)(hw rt:Int)(ky:Rc.Key)(D:ByteArray→ByteArray×Int)(hD:∀ b,(D b).2=0→isPg (D b).1=true)(w:World)
 (hdo:∀ b W,b.size≤512→Below w.heap.size w W→Calls Tryz.prog 78 #[.string b,.agg #[.int .i64 o.kind,.int .i64 o.slot,.string o.old,.string o.new]] W fun e w'=>e= .returned (outV (D b))∧Below W.heap.size W w') (h:PoolR w s p fs):
 Calls Tryz.prog 34 #[storeV s p,.agg #[.int .i64 0,.int .i64 0,.int .i64 t,.int .i64 kd,.int .i64 pg,.int .i64 nx,.int .i64 0,.int .i64 o.kind,.int .i64 o.slot,.string o.old,.string o.new,.int .i64 hw,.int .i64 rt,.string ky.key,.int .i64 ky.page,.int .i64 ky.slot,.slice none 0 0,.slice none 0 0]] w (StOut (changeF s fs (⟨0,0,t,kd,pg,nx,0,o,hw,rt,ky,[],[]⟩:Rc.Rec) D) w):=by
 obtain⟨X,hX⟩:=ex (changeF s fs (⟨0,0,t,kd,pg,nx,0,o,hw,rt,ky,[],[]⟩:Rc.Rec) D)
 rw[← hX]
 have hzp:=hW.zp
 have HHS:=Hq (fun W=>phas_any s p n hW.zp pg W)
 have HST:=Hq (fun W (hb:Below w.heap.size w W) (e:Int)=>show X=⟨s,fs,e⟩→StOut X w (.returned (.tuple #[storeV s p,.int .i64 e])) W from fun he=>by rw[he];exact⟨p,rfl,h.below hb,hb⟩)
 by_cases hkd:kd=2∨kd=3
 ·by_cases hpg:0≤pg∧pg<(n:Int)
  ·rw[decide_eq_true hpg]at HHS
   have hh:hasF s pg:=⟨hpg.1,by omega⟩
   have htl:=hW.tl
   have HIX:=Hq (fun(g:Nat) W (hb:Below w.heap.size w W) (hg:W.cell? ⟨g,2,none⟩=some (.int .i64 t)) (hgl:g<W.heap.size)=>indexT_any (fun a=>a.txn=t) 77 #[.pointer (some ⟨g,0,none⟩)] (enters_of Tryz.func77 Kr rfl) s.txns (by omega) p.T p.tc W (h.st.tx.below hb) (fun a _ V hV=>pchg_clo a t g V (by rw[hV.cell (p:=⟨g,2,none⟩) hgl];exact hg)))
   have HHE:=Hq (fun W (hb:Below w.heap.size w W)=>pfheld_any s p fs hW hB pg W (h.below hb))
   have HNT:=Hq (fun(hi:s.txns.findIdx? (fun a=>decide (a.txn=t))=none)=>show X=⟨s,fs,21⟩from by
    rw[hX];unfold changeF;rw[if_neg (fun hn=>hn ⟨hkd,hh⟩),hi])
   have HXI:=Hq (fun(i:Nat) (hi:s.txns.findIdx? (fun a=>decide (a.txn=t))=some i)=>hX.trans (chg_facts (s:=s) (fs:=fs) (r:=(⟨0,0,t,kd,pg,nx,0,o,hw,rt,ky,[],[]⟩:Rc.Rec)) (D:=D) ⟨hkd,hh⟩ hi))
   have hwf:=hW.held pg
   have htxe:=(held_txns s fs pg).1
   have HD:=Hq hD
   have HDO:=Hq hdo
   have HRT:=Hq (fun(Y:Px) (he:X=Y) w' (q:SP) (hp:PoolR w' Y.s q Y.fs) (hb:Below w.heap.size w w')=>show StOut X w (.returned (.tuple #[storeV Y.s q,.int .i64 Y.e])) w' from by rw[he];exact⟨q,rfl,hp,hb⟩)
   have hN3:=hW.n1.2.2
   have hnf:=hW.nf
   clear h hX hW hD hdo hh hpg hzp
   generalize StOut X w=Q at HST HRT ⊢
   generalize heldF s fs pg=r at HHE HXI hwf htxe
   obtain⟨⟨xs,xfs,xe⟩,xk⟩:=r
   simp only at HHE HXI hwf htxe
   have hkl:xk<xfs.length:=by omega
   have hfl:xfs.length≤100:=by omega
   have hFull:=hwf.2.2.2
   rw[frAt_eq hkl]at HXI hFull
   have HWF:=Hq hwf.1
   have HFU:=Hq hFull
   have HTXE:=Hq htxe
   clear hwf hFull htxe
   obtain⟨f,hfe⟩:=ex (xfs[xk])
   rw[← hfe]at HXI HFU
   have HFE:=Hq hfe
   have hfsz:f.bytes.size≤512:=by rw[hfe];exact(HWF.out.fr xk hkl).sz
   clear hfe
   go_enter Tryz.func34,Tryz.ntmps34
   go_upto_region 1 with fail
   have H0:=nW3 w (stA s p) 36 #[.int .i64 0,.int .i64 0,.int .i64 t,.int .i64 kd,.int .i64 pg,.int .i64 nx,.int .i64 0,.int .i64 o.kind,.int .i64 o.slot,.string o.old,.string o.new,.int .i64 hw,.int .i64 rt,.string ky.key,.int .i64 ky.page,.int .i64 ky.slot,.slice none 0 0,.slice none 0 0] 49 #[.int .i64 0,.int .i64 0,.int .i64 0,.slice none 0 0,.int .i64 0,.bool false,.int .i64 0,.int .i64 0,.int .i64 0,.int .i64 0,.string ⟨#[]⟩,.slice none 0 0,.int .i64 0,.slice none 0 0,.int .i64 0] 36
   obtain⟨W0,hW0⟩:=exW H0
   rw[← hW0]at H0 ⊢
   clear hW0
   have hk3:=show W0.cell? ⟨(w.heap.size+1),3,none⟩=some (.int .i64 kd)from by rw[blkCell H0.out.get1];rfl
   have hk4:=show W0.cell? ⟨(w.heap.size+1),4,none⟩=some (.int .i64 pg)from by rw[blkCell H0.out.get1];rfl
   have HKD:=Hq hkd
   go_cut [27] (fun x wc=>x= .bool false∧Below W0.heap.size W0 wc)
   case first=>
    rcases hkd with rfl|rfl
    ·go_wp2_with (first|(with_reducible refine lL H0.out.get0 Tryz.underlying36 ?_)|(go_at_call 75;(refine(HHS.out _).mono ?_);rintro e w1 ⟨rfl,hb1⟩))
     go_meet
     case rel=>exact⟨rfl,hb1⟩
    ·go_wp2_with (first|(with_reducible refine lL H0.out.get0 Tryz.underlying36 ?_)|(go_at_call 75;(refine(HHS.out _).mono ?_);rintro e w1 ⟨rfl,hb1⟩))
     go_meet
     case rel=>exact⟨rfl,hb1⟩
   case rest=>
    obtain⟨rfl,hbc⟩:=hcut
    obtain⟨w1,rfl⟩:=ex wc
    have H1:=Hq (H0.out.step hbc)
    have hc13:=show w1.cell? ⟨w.heap.size,13,none⟩=some (.slice p.T s.txns.length p.tc)from by rw[blkCell H1.out.get0];rfl
    have HIY:=Hq (HIX.out (w.heap.size+1) w1 H1.out.below (by rw[blkCell H1.out.get1];rfl) (H1.out.lt (i:=1) (by simp)))
    clear hk3 hk4 hbc HHS H0 HIX hkd
    go_upto_region 4 with(go_at_call 76;(refine HIY.out.mono ?_);rintro e w2 ⟨kk,rfl,hq,hb2⟩;have H2:=Hq (H1.out.step hb2))
    clear hb2 H1 HIY hc13
    rcases hq with⟨rfl,hq⟩|⟨i,hi,rfl,hti,htj⟩
    ·have hm1:(-1:Int)<0:=by decide
     have HNI:=Hq (HNT.out (idx_none fun x hx=>by simpa using hq x hx))
     clear hq
     go_wp2_with (first|(with_reducible refine lL H2.out.get0 Tryz.underlying36 ?_)|(with_reducible refine lS (stA s p) H2.out.get2 ?_))
     refine bodyPost_ret (v:=.tuple #[.agg (stA s p),.int .i64 21]) (results_cell2 rfl _ _ rfl (load_whole (setRow_heap _ _ _ _ _ _ H2.out.get2) Tryz.underlying36 Kr Kr) rfl) rfl ?_
     exact HST.out _ (H2.out.row 2 (stA s p) _ rfl).below 21 HNI.out
    have hi0:¬ (i:Int)<0:=by omega
    have HX1:=Hq (HXI.out i (idx_some hi (by simpa using hti) fun j hj hjk=>by simpa using htj j hjk))
    have hk4:=show w2.cell? ⟨(w.heap.size+1),4,none⟩=some (.int .i64 pg)from by rw[blkCell H2.out.get1];rfl
    clear hti htj HXI HNT
    go_upto_region 7 with(first
     |(with_reducible refine lL H2.out.get0 Tryz.underlying36 ?_)
     |(go_at_call 44;(refine(HHE.out _ H2.out.below).mono ?_);rintro e w4 ⟨q,rfl,hp4,hb4⟩)
     |(with_reducible refine sN (stA xs q) ?_))
    have hb5:=hb4.trans ((allocB w4 (.cells (stA xs q) 36)).mono hb4.size)
    have H5:=Hq (H2.out.step hb5)
    have HG5:=Hq (heap_alloc_new w4 (.cells (stA xs q) 36))
    have HP5:=Hq (hp4.below (allocB w4 (.cells (stA xs q) 36)))
    have hlt:(w.heap.size+2)<w4.heap.size:=Nat.lt_of_lt_of_le (H2.out.lt (i:=2) (by simp)) hb4.size
    obtain⟨g,hg⟩:=ex w4.heap.size
    obtain⟨w5,hw5⟩:=ex (w4.alloc (.cells (stA xs q) 36))
    rw[← hg,← hw5]at HG5
    rw[← hw5]at H5 HP5
    rw[← hw5,← hg]
    rw[← hg]at hlt
    clear hw5 hg hb4 hb5 hp4 H2 HHE hk4
    try simp only[Act.put]
    by_cases hxe:xe=0
    case neg=>
     have hxb:(xe != 0)=true:=by rw[bne_iff_ne];exact hxe
     have HXF:=Hq (show X=⟨xs,xfs,xe⟩from by rw[HX1.out,if_pos hxe])
     clear hxe HX1
     go_wp2_with (first|(with_reducible refine lL HG5.out Tryz.underlying36 ?_)|(with_reducible refine lS (stA xs q) H5.out.get2 ?_))
     refine bodyPost_ret (v:=.tuple #[.agg (stA xs q),.int .i64 xe]) (results_cell2 rfl _ _ rfl (load_whole (setRow_heap _ _ _ _ _ _ H5.out.get2) Tryz.underlying36 Kr Kr) rfl) rfl ?_
     exact HRT.out _ HXF.out _ q (HP5.out.other (t:=36) H5.out.get2 (by decide) (by decide) (by decide) _) (H5.out.row 2 (stA xs q) _ rfl).below
    have hxb:(xe != 0)=false:=by rw[hxe];rfl
    have HFV:=Hq (HFU.out hxe)
    have HX2:=Hq (show X=if ¬ (D f.bytes).2=0 then⟨s,fs,(D f.bytes).2⟩else chgF ⟨xs,xfs,xe⟩ xk i s fs (⟨0,0,t,kd,pg,nx,0,o,hw,rt,ky,[],[]⟩:Rc.Rec) (D f.bytes).1 from by rw[HX1.out,if_neg (fun hn=>hn hxe)])
    clear HX1 HFU
    have hki0:(0:Int)≤(xk:Int):=by omega
    have hki:(xk:Int)<(xfs.length:Int):=by omega
    obtain⟨fbk,foff,hpF,hcc,hbl,hcell⟩:=read_at frL_len HP5.out.fr hkl
    rw[← HFE.out]at hcell
    have HC0:=Hq (show w5.rangeAt fbk (foff+xk*5) (frL f)from hcell)
    have hc11:=show w5.cell? ⟨g,11,none⟩=some (.slice (some ⟨fbk,foff,none⟩) xfs.length q.fc)from by rw[blkCell HG5.out,← hpF,← HP5.out.fn];rfl
    have hbF:∀ ad,q.F=some ad→ad.block<w5.heap.size:=fun ad e=>by rw[hpF]at e;injection e with e;subst e;exact hbl
    have HBF:=Hq hbF
    clear hcell hcc hbl hpF hbF
    go_upto_region 10 with(first
     |(refine listWants Kr fun K hK=>wp_load_mid 108 (.tmp 52) rfl fbk (foff+xk*5) rfl (frL f) _ HC0.out Tryz.underlying108 Kr Kr (hK _ _ ?_))
     |(with_reducible refine sN (frA f) ?_))
    have hb6:=allocB w5 (.cells (frA f) 108)
    have H6:=Hq (H5.out.step hb6)
    have HF6:=Hq (heap_alloc_new w5 (.cells (frA f) 108))
    have HG6:=Hq (blkOld HG5.out hb6)
    have HP6:=Hq (HP5.out.below hb6)
    have hlt2:g<w5.heap.size:=heapLt HG5.out
    obtain⟨g2,hg2⟩:=ex w5.heap.size
    obtain⟨w6,hw6⟩:=ex (w5.alloc (.cells (frA f) 108))
    rw[← hg2,← hw6]at HF6
    rw[← hw6]at H6 HG6 HP6
    rw[← hw6,← hg2]
    rw[← hg2]at hlt2 HBF
    clear hw6 hg2 hb6 H5 HG5 HP5 HC0 hc11 hxb
    try simp only[Act.put]
    have HDW:=Hq (HDO.out f.bytes w6 hfsz H6.out.below)
    have HD2:=Hq (HD.out f.bytes)
    generalize D f.bytes=bd at HDW HD2 HX2
    obtain⟨b,be⟩:=bd
    simp only at HDW HD2 HX2
    have HFB:=Hq (show ∃ fb,fb=f.bytes from⟨_,rfl⟩)
    obtain⟨fb,hfb⟩:=HFB.out
    rw[← hfb]at HDW hfsz
    have HFB2:=Hq hfb
    clear HFB hfb HD HDO
    have hcb:=show w6.cell? ⟨g2,1,none⟩=some (.string fb)from by rw[blkCell HF6.out,HFB2.out];rfl
    go_upto_region 11 with(first
     |(with_reducible refine lP #[.int .i64 o.kind,.int .i64 o.slot,.string o.old,.string o.new] H6.out.get1 Tryz.underlying42 ?_)
     |(go_at_call 78;(refine HDW.out.mono ?_);rintro e w7 ⟨rfl,hb7⟩))
    have H7:=Hq (H6.out.step hb7)
    have HG7:=Hq (blkOld HG6.out hb7)
    have HF7:=Hq (blkOld HF6.out hb7)
    have HP7:=Hq (HP6.out.below hb7)
    clear hcb hb7 H6 HG6 HF6 HP6 HDW
    by_cases hbe:be=0
    case neg=>
     have hbb:(be != 0)=true:=by rw[bne_iff_ne];exact hbe
     have HXF:=Hq (show X=⟨s,fs,be⟩from by rw[HX2.out,if_pos hbe])
     clear hbe HX2
     go_wp2_with (first|(with_reducible refine lL H7.out.get0 Tryz.underlying36 ?_)|(with_reducible refine lS (stA s p) H7.out.get2 ?_))
     refine bodyPost_ret (v:=.tuple #[.agg (stA s p),.int .i64 be]) (results_cell2 rfl _ _ rfl (load_whole (setRow_heap _ _ _ _ _ _ H7.out.get2) Tryz.underlying36 Kr Kr) rfl) rfl ?_
     exact HST.out _ (H7.out.row 2 (stA s p) _ rfl).below be HXF.out
    have hbb:(be != 0)=false:=by rw[hbe];rfl
    have HBP:=Hq (HD2.out hbe)
    have HBE:=Hq hbe
    have HX3:=Hq (show X=(if ¬ (imgF xs f pg).2.2=0 then(⟨s,fs,(imgF xs f pg).2.2⟩:Px)else
     if ¬ (Lg.appendD (imgF xs f pg).1 (⟨0,(txAt xs.txns i).last,t,kd,pg,nx,0,o,hw,rt,ky,[],[]⟩:Rc.Rec)).2.2=0 then⟨s,fs,(Lg.appendD (imgF xs f pg).1 (⟨0,(txAt xs.txns i).last,t,kd,pg,nx,0,o,hw,rt,ky,[],[]⟩:Rc.Rec)).2.2⟩else
     ⟨{xs with log:=(Lg.appendD (imgF xs f pg).1 (⟨0,(txAt xs.txns i).last,t,kd,pg,nx,0,o,hw,rt,ky,[],[]⟩:Rc.Rec)).1,txns:=xs.txns.set i {txAt xs.txns i with last:=(Lg.appendD (imgF xs f pg).1 (⟨0,(txAt xs.txns i).last,t,kd,pg,nx,0,o,hw,rt,ky,[],[]⟩:Rc.Rec)).2.1,next:=if kd=3 then nx else(Lg.appendD (imgF xs f pg).1 (⟨0,(txAt xs.txns i).last,t,kd,pg,nx,0,o,hw,rt,ky,[],[]⟩:Rc.Rec)).2.1}},xfs.set xk ⟨f.page,lsnB b (Lg.appendD (imgF xs f pg).1 (⟨0,(txAt xs.txns i).last,t,kd,pg,nx,0,o,hw,rt,ky,[],[]⟩:Rc.Rec)).2.1,f.pins,true,(imgF xs f pg).2.1⟩,0⟩)from by
     rw[HX2.out,if_neg (fun hn=>hn hbe)]
     unfold chgF
     simp only
     rw[frAt_eq hkl,← HFE.out])
    have HLW:=Hq (show LoW N (imgF xs f pg).1∧(f.rc=0→imgF xs f pg=Lg.appendD xs.log (⟨0,0,0,8,pg,0,0,⟨7,0,⟨#[]⟩,fb⟩,0,0,Rc.noKey,[],[]⟩:Rc.Rec))∧(¬ f.rc=0→imgF xs f pg=(xs.log,f.rc,0))from by
     unfold imgF
     split
     ·rename_i hr
      exact⟨HWF.out.low.append _,(fun _=>by rw[HFB2.out];rfl),fun hn=>absurd hr hn⟩
     ·rename_i hr
      exact⟨HWF.out.low,(fun hn=>absurd hn hr),fun _=>rfl⟩)
    clear hbe HX2 HD2
    generalize imgF xs f pg=m at HX3 HLW
    obtain⟨l3,rc3,e3⟩:=m
    simp only at HX3 HLW
    have hcr:=show w7.cell? ⟨g2,4,none⟩=some (.int .i64 f.rc)from by rw[blkCell HF7.out];rfl
    go_upto_if 68 with fail
    go_cut [9] (fun x wc=>x= .int .i64 0∧e3=0∧BxL w.heap.size w [((stA s p),36),(#[.int .i64 0,.int .i64 0,.int .i64 t,.int .i64 kd,.int .i64 pg,.int .i64 nx,.int .i64 0,.int .i64 o.kind,.int .i64 o.slot,.string o.old,.string o.new,.int .i64 hw,.int .i64 rt,.string ky.key,.int .i64 ky.page,.int .i64 ky.slot,.slice none 0 0,.slice none 0 0],49),(#[.int .i64 0,.int .i64 0,.int .i64 0,.slice none 0 0,.int .i64 0,.bool false,.int .i64 0,.int .i64 0,.int .i64 0,.int .i64 0,.string ⟨#[]⟩,.slice none 0 0,.int .i64 0,.slice none 0 0,.int .i64 0],36)] wc∧wc.heap[g]? =some (.cells (stA {xs with log:=l3} q) 36 (0,0))∧wc.heap[g2]? =some (.cells (frA {f with rc:=rc3}) 108 (0,0))∧PoolR wc {xs with log:=l3} q xfs)
    case first=>
     by_cases hrc:f.rc=0
     ·have hrb:(f.rc==0)=true:=by rw[hrc];rfl
      have HLO:=Hq (fun W=>show Calls Tryz.prog 79 #[storeV xs q,.agg #[.int .i64 0,.int .i64 0,.int .i64 0,.int .i64 8,.int .i64 pg,.int .i64 0,.int .i64 0,.int .i64 7,.int .i64 0,.string ⟨#[]⟩,.string fb,.int .i64 0,.int .i64 0,.string ⟨#[]⟩,.int .i64 0,.int .i64 0,.slice none 0 0,.slice none 0 0]] W _ from pflogged_any xs q HWF.out.lb (⟨0,0,0,8,pg,0,0,⟨7,0,⟨#[]⟩,fb⟩,0,0,Rc.noKey,[],[]⟩:Rc.Rec) rfl rfl W)
      rw[← HLW.out.2.1 hrc]at HLO
      dsimp only at HLO
      have hck:=show w7.cell? ⟨(w.heap.size+1),4,none⟩=some (.int .i64 pg)from by rw[blkCell H7.out.get1];rfl
      have hcb:=show w7.cell? ⟨g2,1,none⟩=some (.string fb)from by rw[blkCell HF7.out,HFB2.out];rfl
      clear hrc
      go_upto_region 15 with(first
       |(with_reducible refine lL HG7.out Tryz.underlying36 ?_)
       |(go_at_call 79;(refine(HLO.out _).mono ?_);rintro e w8 ⟨rfl,hb8⟩;have H8:=Hq (H7.out.step hb8);have HG8:=Hq (blkOld HG7.out hb8);have HF8:=Hq (blkOld HF7.out hb8);have HP8:=Hq (HP7.out.below hb8);have HF9:=Hq ((heap_setRow_other w8 g (stA {xs with log:=l3} q) g2 (by omega)).trans HF8.out);have hcx:=show(w8.setRow g (stA {xs with log:=l3} q)).cell? ⟨g2,4,none⟩=some (.int .i64 f.rc)from(by rw[blkCell HF9.out];rfl);have hzx:=blkFrozen HF9.out 4)
       |(with_reducible refine lS (stA {xs with log:=l3} q) HG8.out ?_))
      have hb9:=rowB (g:=g) (Nat.le_refl g) (show Below g w8 w8 from⟨rfl,rfl,rfl,Nat.le_refl _,fun _ _=>rfl⟩) (stA {xs with log:=l3} q)
      have H9:=Hq (H8.out.under (M:=g) (by simp;omega) hb9)
      have HG9:=Hq (setRow_heap _ _ _ (stA {xs with log:=l3} q) _ _ HG8.out)
      have HP9:=Hq (show PoolR (w8.setRow g (stA {xs with log:=l3} q)) {xs with log:=l3} q xfs from by have h1:=HP8.out.other (t:=36) HG8.out (by decide) (by decide) (by decide) (stA {xs with log:=l3} q);exact⟨⟨h1.st.dk,h1.st.dt,h1.st.tx,h1.st.tt⟩,h1.fn,h1.fr,h1.ft⟩)
      have H10:=Hq (H9.out.under (M:=g2) (by simp;omega) ((Below.refl _ _).setCell (p:=⟨g2,4,none⟩) (Nat.le_refl _) (.int .i64 rc3)))
      have HG10:=Hq (show((w8.setRow g (stA {xs with log:=l3} q)).setCell ⟨g2,4,none⟩ (.int .i64 rc3)).heap[g]? =some (.cells (stA {xs with log:=l3} q) 36 (0,0))from by rw[Below.heap_setCell _ _ _ _ (by show g≠g2;omega)];exact HG9.out)
      have HF10:=Hq (show((w8.setRow g (stA {xs with log:=l3} q)).setCell ⟨g2,4,none⟩ (.int .i64 rc3)).heap[g2]? =some (.cells (frA {f with rc:=rc3}) 108 (0,0))from by have:=blkSet 4 HF9.out (.int .i64 rc3);simpa using this)
      have HP10:=Hq (HP9.out.own HF9.out (fun ad e=>by have:=HBF.out ad e;omega) 4 (.int .i64 rc3))
      generalize (w8.setRow g (stA {xs with log:=l3} q)).setCell ⟨g2,4,none⟩ (.int .i64 rc3)=w10 at H10 HG10 HF10 HP10 ⊢
      clear H7 HG7 HF7 HP7 hcr H8 HG8 HF8 HP8 HF9 H9 HG9 HP9 hb9 hb8 hcx hzx hck hcb
      try simp only[Act.put]
      by_cases he3:e3=0
      ·have he3b:(e3 != 0)=false:=by rw[he3];rfl
       have HE:=Hq he3
       clear he3
       go_wp2_with fail
       go_meet
       case rel=>exact⟨congrArg (Value.int .i64) HE.out,HE.out,H10.out,HG10.out,HF10.out,HP10.out⟩
      ·have he3b:(e3 != 0)=true:=by rw[bne_iff_ne];exact he3
       have HXF:=Hq (show X=⟨s,fs,e3⟩from by rw[HX3.out,if_pos he3])
       clear he3 HX3
       go_wp2_with (first|(with_reducible refine lL H10.out.get0 Tryz.underlying36 ?_)|(with_reducible refine lS (stA s p) H10.out.get2 ?_))
       refine bodyPost_ret (v:=.tuple #[.agg (stA s p),.int .i64 e3]) (results_cell2 rfl _ _ rfl (load_whole (setRow_heap _ _ _ _ _ _ H10.out.get2) Tryz.underlying36 Kr Kr) rfl) rfl ?_
       exact HST.out _ (H10.out.row 2 (stA s p) _ rfl).below e3 HXF.out
     ·have hrb:(f.rc==0)=false:=beq_eq_false_iff_ne.2 hrc
      have hm:=HLW.out.2.2 hrc
      injection hm with hm1 hm
      injection hm with hm2 hm3
      subst hm1 hm2 hm3
      clear hrc
      go_wp2_with fail
      go_meet
      case rel=>exact⟨congrArg (Value.int .i64) HBE.out,(by first|trivial|rfl),H7.out,HG7.out,HF7.out,HP7.out⟩
    case rest=>
     obtain⟨rfl,he30,h8,hg8,hf8,hp8⟩:=hcut
     obtain⟨w8,rfl⟩:=ex wc
     have H8:=Hq h8
     have HG8:=Hq hg8
     have HF8:=Hq hf8
     have HP8:=Hq hp8
     have hil:i<xs.txns.length:=by rw[HTXE.out];exact hi
     have hii:(i:Int)<(xs.txns.length:Int):=by omega
     have hii0:(0:Int)≤(i:Int):=by omega
     have hx3:=HX3.out
     rw[if_neg (fun hn=>hn he30),txAt_eq hil]at hx3
     have HX4:=Hq hx3
     clear h8 hg8 hf8 hp8 H7 HG7 HF7 HP7 hcr hx3 HX3 he30
     obtain⟨tb,toff,hpT,htc,htl2,htcell⟩:=read_at txC_len HP8.out.st.tx hil
     obtain⟨tv,htv⟩:=ex (xs.txns[i])
     rw[← htv]at HX4
     have HTV:=Hq htv
     have htx:=htcell 1 (.int .i64 tv.last) (by rw[htv];rfl)
     have hc13:=show w8.cell? ⟨g,13,none⟩=some (.slice (some ⟨tb,toff,none⟩) xs.txns.length q.tc)from by rw[blkCell HG8.out,← hpT];rfl
     have hc1:=show w8.cell? ⟨(w.heap.size+1),1,none⟩=some (.int .i64 0)from by rw[blkCell H8.out.get1];rfl
     have hz1:=blkFrozen H8.out.get1 1
     clear htcell htc htl2 hpT htv
     obtain⟨pv,hpv⟩:=ex tv.last
     rw[← hpv]at htx HX4
     clear hpv
     go_upto_region 18 with fail
     have H9:=Hq (show BxL w.heap.size w [((stA s p),36),(#[.int .i64 0,.int .i64 pv,.int .i64 t,.int .i64 kd,.int .i64 pg,.int .i64 nx,.int .i64 0,.int .i64 o.kind,.int .i64 o.slot,.string o.old,.string o.new,.int .i64 hw,.int .i64 rt,.string ky.key,.int .i64 ky.page,.int .i64 ky.slot,.slice none 0 0,.slice none 0 0],49),(#[.int .i64 0,.int .i64 0,.int .i64 0,.slice none 0 0,.int .i64 0,.bool false,.int .i64 0,.int .i64 0,.int .i64 0,.int .i64 0,.string ⟨#[]⟩,.slice none 0 0,.int .i64 0,.slice none 0 0,.int .i64 0],36)] (w8.setCell ⟨(w.heap.size+1),1,none⟩ (.int .i64 pv))from H8.out.set 1 1 (.int .i64 pv) _ rfl)
     have HG9:=Hq (show(w8.setCell ⟨(w.heap.size+1),1,none⟩ (.int .i64 pv)).heap[g]? =some (.cells (stA {xs with log:=l3} q) 36 (0,0))from by rw[Below.heap_setCell _ _ _ _ (by show g≠(w.heap.size+1);omega)];exact HG8.out)
     have HF9:=Hq (show(w8.setCell ⟨(w.heap.size+1),1,none⟩ (.int .i64 pv)).heap[g2]? =some (.cells (frA {f with rc:=rc3}) 108 (0,0))from by rw[Below.heap_setCell _ _ _ _ (by show g2≠(w.heap.size+1);omega)];exact HF8.out)
     have HP9:=Hq (HP8.out.set H8.out.get1 (by decide) (by decide) (by decide) 1 (.int .i64 pv))
     generalize w8.setCell ⟨(w.heap.size+1),1,none⟩ (.int .i64 pv)=w9 at H9 HG9 HF9 HP9 ⊢
     clear hc13 hc1 hz1 htx H8 HG8 HF8 HP8
     have HLO:=Hq (fun W=>show Calls Tryz.prog 79 #[storeV {xs with log:=l3} q,.agg #[.int .i64 0,.int .i64 pv,.int .i64 t,.int .i64 kd,.int .i64 pg,.int .i64 nx,.int .i64 0,.int .i64 o.kind,.int .i64 o.slot,.string o.old,.string o.new,.int .i64 hw,.int .i64 rt,.string ky.key,.int .i64 ky.page,.int .i64 ky.slot,.slice none 0 0,.slice none 0 0]] W _ from pflogged_any {xs with log:=l3} q (HWF.out.log HLW.out.1).lb (⟨0,pv,t,kd,pg,nx,0,o,hw,rt,ky,[],[]⟩:Rc.Rec) rfl rfl W)
     have HNM:=Hq (app_numW HLW.out.1 hN3 (⟨0,pv,t,kd,pg,nx,0,o,hw,rt,ky,[],[]⟩:Rc.Rec))
     dsimp only at HLO
     generalize Lg.appendD l3 (⟨0,pv,t,kd,pg,nx,0,o,hw,rt,ky,[],[]⟩:Rc.Rec)=a at HLO HX4 HNM
     obtain⟨l4,lsn,e4⟩:=a
     simp only at HLO HX4 HNM
     go_upto_region 19 with(first
      |(with_reducible refine lL HG9.out Tryz.underlying36 ?_)
      |(with_reducible refine lL H9.out.get1 Tryz.underlying49 ?_)
      |(go_at_call 79;(refine(HLO.out _).mono ?_);rintro e w10 ⟨rfl,hb10⟩;have H10:=Hq (H9.out.step hb10);have HG10:=Hq (blkOld HG9.out hb10);have HF10:=Hq (blkOld HF9.out hb10);have HP10:=Hq (HP9.out.below hb10);clear hb10)
      |(with_reducible refine lS (stA {xs with log:=l4} q) HG10.out ?_))
     have H11:=Hq (H10.out.under (M:=g) (by simp;omega) (rowB (g:=g) (Nat.le_refl g) (show Below g w10 w10 from⟨rfl,rfl,rfl,Nat.le_refl _,fun _ _=>rfl⟩) (stA {xs with log:=l4} q)))
     have HG11:=Hq (setRow_heap _ _ _ (stA {xs with log:=l4} q) _ _ HG10.out)
     have HF11:=Hq ((heap_setRow_other w10 g (stA {xs with log:=l4} q) g2 (by omega)).trans HF10.out)
     have HP11:=Hq (show PoolR (w10.setRow g (stA {xs with log:=l4} q)) {xs with log:=l4} q xfs from by have h1:=HP10.out.other (t:=36) HG10.out (by decide) (by decide) (by decide) (stA {xs with log:=l4} q);exact⟨⟨h1.st.dk,h1.st.dt,h1.st.tx,h1.st.tt⟩,h1.fn,h1.fr,h1.ft⟩)
     generalize w10.setRow g (stA {xs with log:=l4} q)=w11 at H11 HG11 HF11 HP11 ⊢
     clear H9 HG9 HF9 HP9 H10 HG10 HF10 HP10 HLO
     try simp only[Act.put]
     by_cases he4:e4=0
     case neg=>
      have he4b:(e4 != 0)=true:=by rw[bne_iff_ne];exact he4
      have HXF:=Hq (show X=⟨s,fs,e4⟩from by rw[HX4.out,if_pos he4])
      clear he4 HX4
      go_wp2_with (first|(with_reducible refine lL H11.out.get0 Tryz.underlying36 ?_)|(with_reducible refine lS (stA s p) H11.out.get2 ?_))
      refine bodyPost_ret (v:=.tuple #[.agg (stA s p),.int .i64 e4]) (results_cell2 rfl _ _ rfl (load_whole (setRow_heap _ _ _ _ _ _ H11.out.get2) Tryz.underlying36 Kr Kr) rfl) rfl ?_
      exact HST.out _ (H11.out.row 2 (stA s p) _ rfl).below e4 HXF.out
     have he4b:(e4 != 0)=false:=by rw[he4];rfl
     have hx4:=HX4.out
     rw[if_neg (fun hn=>hn he4)]at hx4
     have HX5:=Hq hx4
     clear he4 hx4 HX4
     have HSL:=Hq (fun W=>setlsn_any b lsn (by have:=isPg_size HBP.out;omega) W)
     generalize lsnB b lsn=z at HSL HX5
     go_upto_region 22 with(go_at_call 80;(refine(HSL.out _).mono ?_);rintro e w12 ⟨rfl,hb12⟩;have H12:=Hq (H11.out.step hb12);have HG12:=Hq (blkOld HG11.out hb12);have HF12:=Hq (blkOld HF11.out hb12);have HP12:=Hq (HP11.out.below hb12);have HF13:=Hq (blkSet 1 HF12.out (.string z));have hc1:=show w12.cell? ⟨g2,1,none⟩=some (.string f.bytes)from(by rw[blkCell HF12.out];rfl);have hz1:=blkFrozen HF12.out 1;have hc3:=show(w12.setCell ⟨g2,1,none⟩ (.string z)).cell? ⟨g2,3,none⟩=some (.bool f.mark)from(by rw[blkCell HF13.out];rfl);have hz3:=blkFrozen HF13.out 3)
     have HF14:=Hq (show((w12.setCell ⟨g2,1,none⟩ (.string z)).setCell ⟨g2,3,none⟩ (.bool true)).heap[g2]? =some (.cells (frA ⟨f.page,z,f.pins,true,rc3⟩) 108 (0,0))from by have:=blkSet 3 HF13.out (.bool true);simpa using this)
     have hb14:Below g2 w12 ((w12.setCell ⟨g2,1,none⟩ (.string z)).setCell ⟨g2,3,none⟩ (.bool true)):=((show Below g2 w12 w12 from⟨rfl,rfl,rfl,Nat.le_refl _,fun _ _=>rfl⟩).setCell (p:=⟨g2,1,none⟩) (Nat.le_refl _) (.string z)).setCell (p:=⟨g2,3,none⟩) (Nat.le_refl _) (.bool true)
     have H14:=Hq (H12.out.under (M:=g2) (by simp;omega) hb14)
     have HG14:=Hq ((hb14.block g (by omega)).trans HG12.out)
     have HP14:=Hq (((HP12.out.own HF12.out (fun ad e=>by have:=HBF.out ad e;omega) 1 (.string z))).own HF13.out (fun ad e=>by have:=HBF.out ad e;omega) 3 (.bool true))
     generalize (w12.setCell ⟨g2,1,none⟩ (.string z)).setCell ⟨g2,3,none⟩ (.bool true)=w14 at H14 HG14 HF14 HP14 ⊢
     clear H11 HG11 HF11 HP11 H12 HG12 HF12 HP12 HF13 hc1 hz1 hc3 hz3 hb12 hb14 HSL
     have HWI:=Hq (fun W hp=>pwith_any {xs with log:=l4} q xfs hfl xk hkl ⟨f.page,z,f.pins,true,rc3⟩ W hp)
     go_upto_region 23 with(first
      |(with_reducible refine lL HG14.out Tryz.underlying36 ?_)
      |(with_reducible refine lL HF14.out Tryz.underlying108 ?_)
      |(go_at_call 74;(refine(HWI.out _ HP14.out).mono ?_);rintro e w15 ⟨q5,rfl,hp15,hb15⟩;have H15:=Hq (H14.out.step hb15);have HG15:=Hq (blkOld HG14.out hb15))
      |(with_reducible refine lS (stA {xs with log:=l4} q5) HG15.out ?_))
     have H16:=Hq (H15.out.under (M:=g) (by simp;omega) (rowB (g:=g) (Nat.le_refl g) (show Below g w15 w15 from⟨rfl,rfl,rfl,Nat.le_refl _,fun _ _=>rfl⟩) (stA {xs with log:=l4} q5)))
     have HG16:=Hq (setRow_heap _ _ _ (stA {xs with log:=l4} q5) _ _ HG15.out)
     have HP16:=Hq (hp15.other (t:=36) HG15.out (by decide) (by decide) (by decide) (stA {xs with log:=l4} q5))
     generalize w15.setRow g (stA {xs with log:=l4} q5)=w16 at H16 HG16 HP16 ⊢
     clear H14 HG14 HF14 HP14 H15 HG15 hp15 hb15 HWI
     try simp only[Act.put]
     have hc13:=show w16.cell? ⟨g,13,none⟩=some (.slice q5.T xs.txns.length q5.tc)from by rw[blkCell HG16.out];rfl
     have htn:xs.txns.length≤800000:=by rw[HTXE.out];exact htl
     have HAM:=Hq (And.intro HP16.out.st.dt.lt HP16.out.ft.lt)
     have HCL:=Hq (tclone_any xs.txns (by omega) q5.T q5.tc w16 HP16.out.st.tx)
     go_upto_region 24 with(go_at_call 81;(refine HCL.out.mono ?_);rintro e w17 ⟨v,rfl,ho,hb17⟩;obtain⟨g4,c4,rfl,hgB⟩:=ownSome ho (by omega);have H17:=Hq (H16.out.step hb17);have HG17:=Hq (blkOld HG16.out hb17);have hc14:=show w17.cell? ⟨g,13,none⟩=some (.slice q5.T xs.txns.length q5.tc)from(by rw[blkCell HG17.out];rfl);have hz14:=blkFrozen HG17.out 13)
     have hg16:g<w16.heap.size:=heapLt HG16.out
     have hgg:g<g4:=by omega
     have H18:=Hq (H17.out.under (M:=g) (by simp;omega) ((show Below g w17 w17 from⟨rfl,rfl,rfl,Nat.le_refl _,fun _ _=>rfl⟩).setCell (p:=⟨g,13,none⟩) (Nat.le_refl _) (.slice (some ⟨g4,0,none⟩) xs.txns.length c4)))
     have HG18:=Hq (show(w17.setCell ⟨g,13,none⟩ (.slice (some ⟨g4,0,none⟩) xs.txns.length c4)).heap[g]? =some (.cells (stA {xs with log:=l4} {q5 with T:=some ⟨g4,0,none⟩,tc:=c4}) 36 (0,0))from by have:=blkSet 13 HG17.out (.slice (some ⟨g4,0,none⟩) xs.txns.length c4);simpa using this)
     have HO18:=Hq (ownSet ho ⟨g,13,none⟩ (.slice (some ⟨g4,0,none⟩) xs.txns.length c4) hg16)
     have HP17:=Hq (HP16.out.below hb17)
     have HP18:=Hq (HP17.out.set HG17.out (by decide) (by decide) (by decide) 13 (.slice (some ⟨g4,0,none⟩) xs.txns.length c4))
     generalize w17.setCell ⟨g,13,none⟩ (.slice (some ⟨g4,0,none⟩) xs.txns.length c4)=w18 at H18 HG18 HO18 HP18 ⊢
     clear hc13 hc14 hz14 H16 HG16 HP16 H17 HG17 HP17 HCL ho hb17
     generalize w16.heap.size=M at HO18 hgB hg16 HAM
     try simp only[Act.put]
     obtain⟨y1,hy1⟩:=ex ({xs.txns[i]with last:=lsn}:Rc.TxnAt)
     obtain⟨y2,hy2⟩:=ex ({y1 with next:=lsn}:Rc.TxnAt)
     have hk1:i<(xs.txns.set i y1).length:=by rw[List.length_set];exact hil
     have hy2':txC y2=(txC (xs.txns.set i y1)[i]).set 2 (.int .i64 lsn):=by rw[List.getElem_set_self,hy2];rfl
     have hy1':txC y1=(txC xs.txns[i]).set 1 (.int .i64 lsn):=by rw[hy1];rfl
     have HYY:=Hq (show(xs.txns.set i y1).set i y2=xs.txns.set i {xs.txns[i]with last:=lsn,next:=lsn}from by rw[List.set_set,hy2,hy1])
     clear hy1 hy2
     go_cut [128] (fun x wc=>∃ ts,ts=(xs.txns.set i y1).set i y2∧wc.ownsRow M 59 4 (.slice (some ⟨g4,0,none⟩) xs.txns.length c4) xs.txns.length (ts.flatMap txC)∧Below M w18 wc)
     case first=>
      have hQ:Below M w18 w18.drew:=(show Below M w18 w18 from⟨rfl,rfl,rfl,Nat.le_refl _,fun _ _=>rfl⟩).drew
      have hO:=ownBelow HO18.out (Below.refl _ w18).drew
      have HS8:=Hq (fun(u:World) (hu:Below M w18 u)=>show u.cell? ⟨g,13,none⟩=some (.slice (some ⟨g4,0,none⟩) xs.txns.length c4)from by rw[hu.cell (p:=⟨g,13,none⟩) hg16,blkCell HG18.out];rfl)
      have hSn:=HS8.out _ hQ
      refine rgH (S:=(fun u=>u.cell? ⟨g,13,none⟩=some (.slice (some ⟨g4,0,none⟩) xs.txns.length c4))) (fun hHeld=>?_)
      generalize w18.drew=w8 at hSn hO hQ ⊢
      refine tkP 0 ?_ (hy:=by
       intro u hSu;have hcl:=hSu
       clear hSu;go_simp;(try with_reducible rfl))
      refine tkP 1 ?_ (hy:=by
       intro u hSu;have hcl:=hSu
       clear hSu;go_simp;(try with_reducible rfl))
      refine tkP 2 ?_ (hy:=by
       intro u hSu;have hcl:=hSu
       clear hSu;go_simp;(try with_reducible rfl))
      refine tkP 3 ?_ (hy:=by
       intro u hSu;have hcl:=hSu
       clear hSu;go_simp;(try with_reducible rfl))
      refine tkP 4 ?_ (hy:=by
       intro u hSu;have hcl:=hSu
       clear hSu;go_simp;(try with_reducible rfl))
      refine tkP 5 ?_ (hy:=by
       intro u hSu;have hcl:=hSu
       clear hSu;go_simp;(try with_reducible rfl))
      refine tkP 6 ?_ (hy:=by
       intro u hSu;have hcl:=hSu
       clear hSu;go_simp;(try with_reducible rfl))
      refine tkP 7 ?_ (hy:=by
       intro u hSu;have hcl:=hSu
       clear hSu;go_simp;(try with_reducible rfl))
      refine tkP 8 ?_ (hy:=by
       intro u hSu;have hcl:=hSu
       clear hSu;go_simp;(try with_reducible rfl))
      refine tkP 9 ?_ (hy:=by
       intro u hSu;have hcl:=hSu
       clear hSu;go_simp;(try with_reducible rfl))
      refine rdP 10 fun K hK=>?_
      obtain⟨hcq,hzq,hOq⟩:=rowSet hO rfl i hil 1 (by omega) (.int .i64 lsn) y1 hy1'
      have hQm:=hQ.setCell (p:=⟨g4,i*4+1,none⟩) hgB (.int .i64 lsn)
      go_simp
      clear hSn hO hQ hcq hzq
      have hQ:=hQm
      have hO:=hOq
      clear hQm hOq
      generalize w8.setCell ⟨g4,i*4+1,none⟩ (.int .i64 lsn)=w3 at hQ hO ⊢
      have hSn:=HS8.out _ hQ
      refine hKo hK (fun hHeld=>?_)
      clear hK K
      refine tkP 11 ?_ (hy:=by
       intro u hSu;have hcl:=hSu
       clear hSu;go_simp;(try with_reducible rfl))
      refine tkP 12 ?_ (hy:=by
       intro u hSu;have hcl:=hSu
       clear hSu;go_simp;(try with_reducible rfl))
      refine rdP 13 fun K hK=>?_
      obtain⟨hcq,hzq,hOq⟩:=rowSet hO (by rw[List.length_set]) i hk1 2 (by omega) (.int .i64 lsn) y2 hy2'
      have hQm:=hQ.setCell (p:=⟨g4,i*4+2,none⟩) hgB (.int .i64 lsn)
      go_simp
      clear hSn hO hQ hcq hzq
      have hQ:=hQm
      have hO:=hOq
      clear hQm hOq
      generalize w3.setCell ⟨g4,i*4+2,none⟩ (.int .i64 lsn)=w4 at hQ hO ⊢
      have hSn:=HS8.out _ hQ
      refine hKo hK (fun hHeld=>?_)
      clear hK K
      refine wpAnyH_done Kr ?_ _
      clear hHeld
      go_wp2_with fail
      go_meet
      case rel=>exact⟨_,rfl,hO,hQ⟩
     case rest=>
      obtain⟨ts,hts2,ho19,hb19⟩:=hcut
      obtain⟨w19,rfl⟩:=ex wc
      have HTS2:=Hq hts2
      have htl3:ts.length=xs.txns.length:=by rw[hts2,List.length_set,List.length_set]
      have HTL:=Hq htl3
      have H19:=Hq (H18.out.under (M:=M) (by simp;omega) hb19)
      have HG19:=Hq ((hb19.block g hg16).trans HG18.out)
      have HO19:=Hq ho19
      have HB19:=Hq hb19
      have hck:=show w19.cell? ⟨(w.heap.size+1),3,none⟩=some (.int .i64 kd)from by rw[blkCell H19.out.get1];rfl
      clear hts2 htl3 ho19 hb19
      rcases HKD.out with rfl|rfl
      ·clear hy2' hy1' hk1
       go_wp2_with (first
        |(with_reducible refine lL HG19.out Tryz.underlying36 ?_)
        |(with_reducible refine lS (stA {xs with log:=l4} {q5 with T:=some ⟨g4,0,none⟩,tc:=c4}) H19.out.get2 ?_))
       refine bodyPost_ret (v:=.tuple #[.agg (stA {xs with log:=l4} {q5 with T:=some ⟨g4,0,none⟩,tc:=c4}),.int .i64 0]) (results_cell2 rfl _ _ rfl (load_whole (setRow_heap _ _ _ _ _ _ H19.out.get2) Tryz.underlying36 Kr Kr) rfl) rfl ?_
       have he9:(Value.agg (stA {xs with log:=l4} {q5 with T:=some ⟨g4,0,none⟩,tc:=c4}))=storeV {xs with log:=l4,txns:=ts} {q5 with T:=some ⟨g4,0,none⟩,tc:=c4}:=by dsimp only[storeV,stA];rw[HTL.out]
       have hO9:=HO19.out
       rw[← HTL.out]at hO9
       have hp19:=HP18.out.upto HAM.out.1 HAM.out.2 HB19.out (own_reads hO9) ((NewT.own hO9).mono (Nat.zero_le _))
       have hp20:=hp19.other (t:=36) H19.out.get2 (by decide) (by decide) (by decide) (stA {xs with log:=l4} {q5 with T:=some ⟨g4,0,none⟩,tc:=c4})
       have hbw:=(H19.out.row 2 (stA {xs with log:=l4} {q5 with T:=some ⟨g4,0,none⟩,tc:=c4}) _ rfl).below
       rw[he9]
       have hxf:X=⟨{xs with log:=l4,txns:=ts},xfs.set xk ⟨f.page,z,f.pins,true,rc3⟩,0⟩:=by
        rw[HX5.out,HTS2.out,HYY.out,HTV.out];rfl
       exact HRT.out ⟨{xs with log:=l4,txns:=ts},xfs.set xk ⟨f.page,z,f.pins,true,rc3⟩,0⟩ hxf _ _ hp20 hbw
      ·have hi3:i<ts.length:=by rw[HTL.out];exact hil
       obtain⟨y3,hy3⟩:=ex ({ts[i]with next:=nx}:Rc.TxnAt)
       have HY3:=Hq (show ts.set i y3=xs.txns.set i {xs.txns[i]with last:=lsn,next:=nx}from by
        have key:∀ L (e:L=(xs.txns.set i y1).set i y2) (h:i<L.length),L.set i {L[i]with next:=nx}=(xs.txns.set i {xs.txns[i]with last:=lsn,next:=lsn}).set i {xs.txns[i]with last:=lsn,next:=nx}:=fun L e h=>by
         subst e
         simp only[HYY.out,List.getElem_set_self]
        rw[hy3,key ts HTS2.out hi3,List.set_set])
       obtain⟨hcq,hzq,hOq⟩:=rowSet HO19.out HTL.out i hi3 2 (by omega) (.int .i64 nx) y3 (by rw[hy3];rfl)
       have hcq2:=hcq.trans (show(txC ts[i])[2]? =some (.int .i64 ts[i].next)from rfl)
       have hc13:=show w19.cell? ⟨g,13,none⟩=some (.slice (some ⟨g4,0,none⟩) xs.txns.length c4)from by rw[blkCell HG19.out];rfl
       have hc5:=show w19.cell? ⟨(w.heap.size+1),5,none⟩=some (.int .i64 nx)from by rw[blkCell H19.out.get1];rfl
       generalize ts[i].next=onx at hcq2
       clear hcq hy3 hy2' hy1' hk1
       go_upto_region 27 with fail
       have hb20:=(show Below M w19 w19 from⟨rfl,rfl,rfl,Nat.le_refl _,fun _ _=>rfl⟩).setCell (p:=⟨g4,i*4+2,none⟩) hgB (.int .i64 nx)
       have HB20:=Hq (HB19.out.trans hb20)
       have H20:=Hq (H19.out.under (M:=M) (by simp;omega) hb20)
       have HG20:=Hq ((hb20.block g hg16).trans HG19.out)
       have HO20:=Hq hOq
       have HTL3:=Hq (show(ts.set i y3).length=xs.txns.length from by rw[List.length_set];exact HTL.out)
       generalize w19.setCell ⟨g4,i*4+2,none⟩ (.int .i64 nx)=w20 at HB20 H20 HG20 HO20 ⊢
       clear hb20 hOq hzq hcq2 hc13 hc5 H19 HG19 HO19 HB19 hck
       go_wp2_with (first
        |(with_reducible refine lL HG20.out Tryz.underlying36 ?_)
        |(with_reducible refine lS (stA {xs with log:=l4} {q5 with T:=some ⟨g4,0,none⟩,tc:=c4}) H20.out.get2 ?_))
       refine bodyPost_ret (v:=.tuple #[.agg (stA {xs with log:=l4} {q5 with T:=some ⟨g4,0,none⟩,tc:=c4}),.int .i64 0]) (results_cell2 rfl _ _ rfl (load_whole (setRow_heap _ _ _ _ _ _ H20.out.get2) Tryz.underlying36 Kr Kr) rfl) rfl ?_
       have he9:(Value.agg (stA {xs with log:=l4} {q5 with T:=some ⟨g4,0,none⟩,tc:=c4}))=storeV {xs with log:=l4,txns:=(ts.set i y3)} {q5 with T:=some ⟨g4,0,none⟩,tc:=c4}:=by dsimp only[storeV,stA];rw[HTL3.out]
       have hO9:=HO20.out
       rw[← HTL3.out]at hO9
       have hp19:=HP18.out.upto HAM.out.1 HAM.out.2 HB20.out (own_reads hO9) ((NewT.own hO9).mono (Nat.zero_le _))
       have hp20:=hp19.other (t:=36) H20.out.get2 (by decide) (by decide) (by decide) (stA {xs with log:=l4} {q5 with T:=some ⟨g4,0,none⟩,tc:=c4})
       have hbw:=(H20.out.row 2 (stA {xs with log:=l4} {q5 with T:=some ⟨g4,0,none⟩,tc:=c4}) _ rfl).below
       rw[he9]
       have hxf:X=⟨{xs with log:=l4,txns:=ts.set i y3},xfs.set xk ⟨f.page,z,f.pins,true,rc3⟩,0⟩:=by
        rw[HX5.out,HY3.out,HTV.out];rfl
       exact HRT.out ⟨{xs with log:=l4,txns:=(ts.set i y3)},xfs.set xk ⟨f.page,z,f.pins,true,rc3⟩,0⟩ hxf _ _ hp20 hbw
  ·rw[decide_eq_false hpg]at HHS
   have hh:¬ hasF s pg:=fun hn=>hpg ⟨hn.1,by have:=hn.2;omega⟩
   have HXF:=Hq (show X=⟨s,fs,1⟩from by rw[hX];unfold changeF;rw[if_pos (fun hn=>hh hn.2)])
   clear h hX hW hh hpg hzp hD hdo
   generalize StOut X w=Q at HST ⊢
   go_enter Tryz.func34,Tryz.ntmps34
   go_upto_region 1 with fail
   have H0:=nW3 w (stA s p) 36 #[.int .i64 0,.int .i64 0,.int .i64 t,.int .i64 kd,.int .i64 pg,.int .i64 nx,.int .i64 0,.int .i64 o.kind,.int .i64 o.slot,.string o.old,.string o.new,.int .i64 hw,.int .i64 rt,.string ky.key,.int .i64 ky.page,.int .i64 ky.slot,.slice none 0 0,.slice none 0 0] 49 #[.int .i64 0,.int .i64 0,.int .i64 0,.slice none 0 0,.int .i64 0,.bool false,.int .i64 0,.int .i64 0,.int .i64 0,.int .i64 0,.string ⟨#[]⟩,.slice none 0 0,.int .i64 0,.slice none 0 0,.int .i64 0] 36
   obtain⟨W0,hW0⟩:=exW H0
   rw[← hW0]at H0 ⊢
   clear hW0
   have hk3:=show W0.cell? ⟨(w.heap.size+1),3,none⟩=some (.int .i64 kd)from by rw[blkCell H0.out.get1];rfl
   have hk4:=show W0.cell? ⟨(w.heap.size+1),4,none⟩=some (.int .i64 pg)from by rw[blkCell H0.out.get1];rfl
   go_cut [27] (fun x wc=>x= .bool true∧Below W0.heap.size W0 wc)
   case first=>
    rcases hkd with rfl|rfl
    ·go_wp2_with (first|(with_reducible refine lL H0.out.get0 Tryz.underlying36 ?_)|(go_at_call 75;(refine(HHS.out _).mono ?_);rintro e w1 ⟨rfl,hb1⟩))
     go_meet
     case rel=>exact⟨rfl,hb1⟩
    ·go_wp2_with (first|(with_reducible refine lL H0.out.get0 Tryz.underlying36 ?_)|(go_at_call 75;(refine(HHS.out _).mono ?_);rintro e w1 ⟨rfl,hb1⟩))
     go_meet
     case rel=>exact⟨rfl,hb1⟩
   case rest=>
    obtain⟨rfl,hbc⟩:=hcut
    obtain⟨w1,rfl⟩:=ex wc
    have H1:=Hq (H0.out.step hbc)
    clear hbc H0 HHS hk3 hk4
    go_wp2_with (first|(with_reducible refine lL H1.out.get0 Tryz.underlying36 ?_)|(with_reducible refine lS (stA s p) H1.out.get2 ?_))
    refine bodyPost_ret (v:=.tuple #[.agg (stA s p),.int .i64 1]) (results_cell2 rfl _ _ rfl (load_whole (setRow_heap _ _ _ _ _ _ H1.out.get2) Tryz.underlying36 Kr Kr) rfl) rfl ?_
    exact HST.out _ (H1.out.row 2 (stA s p) _ rfl).below 1 HXF.out
 ·have HXF:=Hq (show X=⟨s,fs,1⟩from by rw[hX];unfold changeF;rw[if_pos (fun hn=>hkd hn.1)])
  have hk2:(kd != 2)=true:=by rw[bne_iff_ne];exact fun e=>hkd (.inl e)
  have hk3:(kd != 3)=true:=by rw[bne_iff_ne];exact fun e=>hkd (.inr e)
  clear h hX hW hzp hD hdo hkd HHS
  generalize StOut X w=Q at HST ⊢
  go_enter Tryz.func34,Tryz.ntmps34
  go_upto_region 1 with fail
  have H0:=nW3 w (stA s p) 36 #[.int .i64 0,.int .i64 0,.int .i64 t,.int .i64 kd,.int .i64 pg,.int .i64 nx,.int .i64 0,.int .i64 o.kind,.int .i64 o.slot,.string o.old,.string o.new,.int .i64 hw,.int .i64 rt,.string ky.key,.int .i64 ky.page,.int .i64 ky.slot,.slice none 0 0,.slice none 0 0] 49 #[.int .i64 0,.int .i64 0,.int .i64 0,.slice none 0 0,.int .i64 0,.bool false,.int .i64 0,.int .i64 0,.int .i64 0,.int .i64 0,.string ⟨#[]⟩,.slice none 0 0,.int .i64 0,.slice none 0 0,.int .i64 0] 36
  obtain⟨W0,hW0⟩:=exW H0
  rw[← hW0]at H0 ⊢
  clear hW0
  have hk4:=show W0.cell? ⟨(w.heap.size+1),3,none⟩=some (.int .i64 kd)from by rw[blkCell H0.out.get1];rfl
  go_upto_region 2 with fail
  go_wp2_with (first|(with_reducible refine lL H0.out.get0 Tryz.underlying36 ?_)|(with_reducible refine lS (stA s p) H0.out.get2 ?_))
  refine bodyPost_ret (v:=.tuple #[.agg (stA s p),.int .i64 1]) (results_cell2 rfl _ _ rfl (load_whole (setRow_heap _ _ _ _ _ _ H0.out.get2) Tryz.underlying36 Kr Kr) rfl) rfl ?_
  exact HST.out _ (H0.out.row 2 (stA s p) _ rfl).below 1 HXF.out
end Go.Proofs.YtmfkhdhnbkambaaGreatDoor
