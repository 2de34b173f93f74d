import Derived.Test.YtilakddepaplhaaGreatHm00
import Derived.Test.YtilakddepaplhaaGreatHm18
import Derived.Test.YtilakddepaplhaaGreatHm14
import Derived.Test.YtilakddepaplhaaGreatHm13
set_option maxRecDepth 100000
set_option maxHeartbeats 16000000
set_option linter.unusedSimpArgs false
namespace Tx
theorem own_same {s:St}{n:Int}{o:Bool}{r:Rc.Rec}(h:¬ (ownS s n o r).2=0):(ownS s n o r).1=s:=by
 unfold ownS at h ⊢
 split
 ·rfl
 ·rename_i h1
  rw[if_neg h1]at h
  split
  ·rfl
  ·rename_i h2
   rw[if_neg h2]at h
   unfold putS at h ⊢
   split
   ·rename_i h3
    rw[if_pos h3]at h
    exact absurd rfl h
   ·rfl
end Tx
namespace Go.Proofs.YtilakddepaplhaaGreat
open Go.RowKit
theorem rcommit_any (s:Tx.St)(p:SP)(hb:Tx.LogB s)(hal:Lg.Al s.log)(hts:s.txns.length≤700000)(hlf: -9223372036854775808≤s.disk.left∧s.disk.left≤9223372036854775807)(n:Int)(w:World)(h:StoreR w s p):
 Calls Tryz.prog 27 #[storeV s p,n] w (StOut (Tx.commitS s n) p w):=by
 have HO:=Hq (fun W (hw:Below w.heap.size w W)=>show Calls Tryz.prog 63 #[storeV s p,.agg (rcA 0 0 n 5 0 0 0 0 0 ⟨#[]⟩ ⟨#[]⟩ 0 0 ⟨#[]⟩ 0 0 (.slice none 0 0) (.slice none 0 0)),true] W (StOut (Tx.ownS s n true (Rc.bare 5 0 0 0)) p W)from rown_any s p hb (by omega) n true 0 0 5 0 W (h.below hw))
 have HS0:=Hq (fun W (hw:Below w.heap.size w W)=>h.below hw)
 have hb1:=Tx.logB_own hb n true (Rc.bare 5 0 0 0)
 have hl1:=Tx.ownS_len s n true (Rc.bare 5 0 0 0)
 have hd1:=Tx.ownS_disk s n true (Rc.bare 5 0 0 0)
 have ha1:=Tx.al_own n true (Rc.bare 5 0 0 0) hal
 have hf1:= @Tx.own_found s n
 have hs1:= @Tx.own_same s n true (Rc.bare 5 0 0 0)
 have c1:= @Tx.commitS_no s n
 have c2:= @Tx.commitS_stop s n
 have c3:= @Tx.commitS_go s n
 have HM:=Hq (fun y (p':SP) w' (hx:Tx.commitS s n=y) (hs:StoreR w' y.1 p') (hf:p'.F=p.F∧p'.fn=p.fn∧p'.fc=p.fc) (hb:Below w.heap.size w w')=>show StOut (Tx.commitS s n) p w (.returned (.tuple #[storeV y.1 p',y.2])) w' from by rw[hx];exact⟨_,rfl,hs,hf,hb⟩)
 generalize StOut (Tx.commitS s n) p w=Q at HM ⊢
 generalize Tx.commitS s n=R at c1 c2 c3 HM
 generalize Tx.ownS s n true (Rc.bare 5 0 0 0)=y1 at HO hb1 hl1 hd1 ha1 hf1 hs1 c1 c2 c3
 have hlf1: -9223372036854775808≤y1.1.disk.left∧y1.1.disk.left≤9223372036854775807:=by rw[hd1];exact hlf
 have hlen1:y1.1.txns.length≤700001:=by omega
 clear hl1 hd1 hlf hb hts h hal
 by_cases he:y1.2=0
 rotate_left
 ·have hx:=c1 he
  have hs2:=hs1 he
  have HMF:=Hq (fun w' (hw:Below w.heap.size w w')=>show Q (.returned (.tuple #[storeV s p,y1.2])) w' from by
   have h9:=HM.out y1 p w' hx (by rw[hs2];exact HS0.out w' hw) ⟨rfl,rfl,rfl⟩ hw
   rw[hs2]at h9
   exact h9)
  have he1:(y1.2==0)=false:=by simpa using he
  have he2:(y1.2 != 0)=true:=by simpa using he
  clear c1 c2 c3 HM he hb1 hlf1 hlen1 hs1 hs2 hx hf1 ha1 HS0
  obtain⟨⟨zl2,zp2,zf2,⟨L2,lf2,dn2⟩,⟨fr2,ln2,en2,sf2,tl2⟩,hd2,ts2,nx2⟩,e2⟩:=y1
  obtain⟨zl,zp,zf,⟨L,lf,dn⟩,⟨fr,ln,en,sf,tl⟩,hd,ts,nx⟩:=s
  obtain⟨A,c,FA,fn,fc,TA,tc⟩:=p
  dsimp only[storeV]at HO HMF he1 he2 ⊢
  go_enter Tryz.func27,Tryz.ntmps27
  go_upto_region 1 with fail
  have H0:=Hq (show BxL w.heap.size w [(#[zl,zp,zf,.slice A L.length c,lf,dn,fr,ln,en,sf,tl,.slice FA fn fc,hd,.slice TA ts.length tc,nx],37),(#[(),(),(),"s",(),false,(),(),(),(),"","s",(),"s",()],37)] ((w.alloc (.cells #[zl,zp,zf,.slice A L.length c,lf,dn,fr,ln,en,sf,tl,.slice FA fn fc,hd,.slice TA ts.length tc,nx] 37)).alloc (.cells #[(),(),(),"s",(),false,(),(),(),(),"","s",(),"s",()] 37))from(((BxL.nil (Below.refl w.heap.size w)).new (by simp) #[zl,zp,zf,.slice A L.length c,lf,dn,fr,ln,en,sf,tl,.slice FA fn fc,hd,.slice TA ts.length tc,nx] 37).new (by simp) #[(),(),(),"s",(),false,(),(),(),(),"","s",(),"s",()] 37))
  obtain⟨W0,hW0⟩:∃ W,W=((w.alloc (.cells #[zl,zp,zf,.slice A L.length c,lf,dn,fr,ln,en,sf,tl,.slice FA fn fc,hd,.slice TA ts.length tc,nx] 37)).alloc (.cells #[(),(),(),"s",(),false,(),(),(),(),"","s",(),"s",()] 37)):=⟨_,rfl⟩
  rw[← hW0]at H0 ⊢
  clear hW0
  go_upto_region 2 with(first
   |(with_reducible refine listLoad Kr 37 (.tmp 2) rfl w.heap.size rfl #[zl,zp,zf,.slice A L.length c,lf,dn,fr,ln,en,sf,tl,.slice FA fn fc,hd,.slice TA ts.length tc,nx] _ H0.out.get0 _ Tryz.underlying37 Kr Kr ?_)
   |(go_at_call 63;(with_reducible refine(HO.out _ H0.out.below).mono ?_);rintro e w5 ⟨p',he,hs5,hf5,hb5⟩;clear hf5 hs5;obtain⟨A2,c2,FA2,fn2,fc2,TA2,tc2⟩:=p';(try dsimp only[storeV]at he);subst he)
   |(with_reducible refine wpList_store_new rfl 37 (.tmp 6) (.tmp 18) rfl #[zl2,zp2,zf2,.slice A2 L2.length c2,lf2,dn2,fr2,ln2,en2,sf2,tl2,.slice FA2 fn2 fc2,hd2,.slice TA2 ts2.length tc2,nx2] _ _ rfl Kr Kr Kr Kr ?_))
  have H5:=Hq (H0.out.step (pastAlloc (o:=.cells #[zl2,zp2,zf2,.slice A2 L2.length c2,lf2,dn2,fr2,ln2,en2,sf2,tl2,.slice FA2 fn2 fc2,hd2,.slice TA2 ts2.length tc2,nx2] 37) hb5))
  obtain⟨W5,hW5⟩:∃ W,W=w5.alloc (.cells #[zl2,zp2,zf2,.slice A2 L2.length c2,lf2,dn2,fr2,ln2,en2,sf2,tl2,.slice FA2 fn2 fc2,hd2,.slice TA2 ts2.length tc2,nx2] 37):=⟨_,rfl⟩
  rw[← hW5]at H5
  rw[← hW5]
  clear hW5 hb5 H0 HO
  go_wp2_with (first
   |(with_reducible refine listLoad Kr 37 (.tmp 2) rfl w.heap.size rfl #[zl,zp,zf,.slice A L.length c,lf,dn,fr,ln,en,sf,tl,.slice FA fn fc,hd,.slice TA ts.length tc,nx] _ H5.out.get0 _ Tryz.underlying37 Kr Kr ?_)
   |(with_reducible refine listStore Kr 37 (.tmp 4) (.tmp 22) rfl (w.heap.size+1) #[zl,zp,zf,.slice A L.length c,lf,dn,fr,ln,en,sf,tl,.slice FA fn fc,hd,.slice TA ts.length tc,nx] _ _ rfl rfl H5.out.get1 Kr Kr Kr ?_))
  refine bodyPost_ret (v:=.tuple #[.agg #[zl,zp,zf,.slice A L.length c,lf,dn,fr,ln,en,sf,tl,.slice FA fn fc,hd,.slice TA ts.length tc,nx],e2]) (results_cell2 rfl _ _ rfl (load_whole (setRow_heap _ _ _ _ _ _ H5.out.get1) Tryz.underlying37 Kr Kr) rfl) rfl ?_
  exact HMF.out _ ((H5.out.row 1 _ _ rfl).below)
 have d2:=c2 he
 have d3:=c3 he
 have hfd:=hf1 he
 clear c1 c2 c3 hs1 hf1 HS0
 have hb2:=Tx.logB_force hb1
 have hff:Tx.forceS y1.1=({y1.1 with disk:=(Lg.forceD y1.1.disk y1.1.log).1,log:=(Lg.forceD y1.1.disk y1.1.log).2.1},(Lg.forceD y1.1.disk y1.1.log).2.2):=rfl
 rw[hff]at d2 d3 hb2
 clear hff
 have HFO:=Hq (fun A c W (hd:DiskR W y1.1.disk A c) (hT:NewT 0 W 9 A)=>rforce_any y1.1.disk hlf1 A c y1.1.log ha1 (by have:=hb1.e1;omega) (by have:=hb1.n0;omega) (by have:=hb1.n1;omega) (by have:=hb1.f;omega) (by have:=hb1.f;omega) (by have:=hb1.t0;have:=hb1.e1;omega) W hd hT)
 generalize Lg.forceD y1.1.disk y1.1.log=fo at HFO d2 d3 hb2
 obtain⟨⟨L3,lf3,dn3⟩,⟨fr3,ln3,en3,sf3,tl3⟩,e3⟩:=fo
 obtain⟨⟨zl2,zp2,zf2,⟨L2,lf2,dn2⟩,⟨fr2,ln2,en2,sf2,tl2⟩,hd2,ts2,nx2⟩,e2⟩:=y1
 simp only at he d2 d3 hb2 hlen1 HFO hfd
 subst he
 clear hb1 hlf1 ha1
 have HB2:=Hq hb2
 have HFD:=Hq hfd
 clear hb2 hfd
 obtain⟨zl,zp,zf,⟨L,lf,dn⟩,⟨fr,ln,en,sf,tl⟩,hd,ts,nx⟩:=s
 obtain⟨A,c,FA,fn,fc,TA,tc⟩:=p
 dsimp only[storeV,diskV,logV]at HO HFO ⊢
 go_enter Tryz.func27,Tryz.ntmps27
 go_upto_region 1 with fail
 have H0:=Hq (show BxL w.heap.size w [(#[zl,zp,zf,.slice A L.length c,lf,dn,fr,ln,en,sf,tl,.slice FA fn fc,hd,.slice TA ts.length tc,nx],37),(#[(),(),(),"s",(),false,(),(),(),(),"","s",(),"s",()],37)] ((w.alloc (.cells #[zl,zp,zf,.slice A L.length c,lf,dn,fr,ln,en,sf,tl,.slice FA fn fc,hd,.slice TA ts.length tc,nx] 37)).alloc (.cells #[(),(),(),"s",(),false,(),(),(),(),"","s",(),"s",()] 37))from(((BxL.nil (Below.refl w.heap.size w)).new (by simp) #[zl,zp,zf,.slice A L.length c,lf,dn,fr,ln,en,sf,tl,.slice FA fn fc,hd,.slice TA ts.length tc,nx] 37).new (by simp) #[(),(),(),"s",(),false,(),(),(),(),"","s",(),"s",()] 37))
 obtain⟨W0,hW0⟩:∃ W,W=((w.alloc (.cells #[zl,zp,zf,.slice A L.length c,lf,dn,fr,ln,en,sf,tl,.slice FA fn fc,hd,.slice TA ts.length tc,nx] 37)).alloc (.cells #[(),(),(),"s",(),false,(),(),(),(),"","s",(),"s",()] 37)):=⟨_,rfl⟩
 rw[← hW0]at H0 ⊢
 clear hW0
 go_upto_region 2 with(first
  |(with_reducible refine listLoad Kr 37 (.tmp 2) rfl w.heap.size rfl #[zl,zp,zf,.slice A L.length c,lf,dn,fr,ln,en,sf,tl,.slice FA fn fc,hd,.slice TA ts.length tc,nx] _ H0.out.get0 _ Tryz.underlying37 Kr Kr ?_)
  |(go_at_call 63;(with_reducible refine(HO.out _ H0.out.below).mono ?_);rintro e w5 ⟨p',he,hs5,hf5,hb5⟩;have HF5:=Hq hf5;clear hf5;obtain⟨A2,c2,FA2,fn2,fc2,TA2,tc2⟩:=p';(try dsimp only[storeV]at he);subst he)
  |(with_reducible refine wpList_store_new rfl 37 (.tmp 6) (.tmp 18) rfl #[zl2,zp2,zf2,.slice A2 L2.length c2,lf2,dn2,fr2,ln2,en2,sf2,tl2,.slice FA2 fn2 fc2,hd2,.slice TA2 ts2.length tc2,nx2] _ _ rfl Kr Kr Kr Kr ?_))
 have H6:=Hq (H0.out.step (pastAlloc (o:=.cells #[zl2,zp2,zf2,.slice A2 L2.length c2,lf2,dn2,fr2,ln2,en2,sf2,tl2,.slice FA2 fn2 fc2,hd2,.slice TA2 ts2.length tc2,nx2] 37) hb5))
 have HG6:=Hq (heap_alloc_new w5 (.cells #[zl2,zp2,zf2,.slice A2 L2.length c2,lf2,dn2,fr2,ln2,en2,sf2,tl2,.slice FA2 fn2 fc2,hd2,.slice TA2 ts2.length tc2,nx2] 37))
 have HS6:=Hq (hs5.below (allocB w5 (.cells #[zl2,zp2,zf2,.slice A2 L2.length c2,lf2,dn2,fr2,ln2,en2,sf2,tl2,.slice FA2 fn2 fc2,hd2,.slice TA2 ts2.length tc2,nx2] 37)))
 have hbt:w.heap.size+2≤w5.heap.size:=Nat.le_trans (H0.out.lt (i:=1) (by simp)) hb5.size
 obtain⟨bt,hbte⟩:∃ b,b=w5.heap.size:=⟨_,rfl⟩
 obtain⟨W6,hW6⟩:∃ W,W=w5.alloc (.cells #[zl2,zp2,zf2,.slice A2 L2.length c2,lf2,dn2,fr2,ln2,en2,sf2,tl2,.slice FA2 fn2 fc2,hd2,.slice TA2 ts2.length tc2,nx2] 37):=⟨_,rfl⟩
 rw[← hbte]at HG6 hbt
 rw[← hW6]at H6 HG6 HS6
 rw[← hW6,← hbte]
 clear hW6 hbte hs5 hb5 H0 HO
 have HFF:=Hq (HFO.out A2 c2 W6 HS6.out.dk HS6.out.dt)
 clear HFO
 go_upto_region 5 with(first
  |(with_reducible refine listPart Kr 29 (.tmp 25) rfl bt 3 rfl #[.slice A2 L2.length c2,lf2,dn2] #[zl2,zp2,zf2,.slice A2 L2.length c2,lf2,dn2,fr2,ln2,en2,sf2,tl2,.slice FA2 fn2 fc2,hd2,.slice TA2 ts2.length tc2,nx2] _ HG6.out Kr _ Tryz.underlying29 Kr Kr ?_)
  |(with_reducible refine listPart Kr 31 (.tmp 27) rfl bt 6 rfl #[fr2,ln2,en2,sf2,tl2] #[zl2,zp2,zf2,.slice A2 L2.length c2,lf2,dn2,fr2,ln2,en2,sf2,tl2,.slice FA2 fn2 fc2,hd2,.slice TA2 ts2.length tc2,nx2] _ HG6.out Kr _ Tryz.underlying31 Kr Kr ?_)
  |(go_at_call 34;(with_reducible refine HFF.out.mono ?_);rintro e w7 ⟨A3,c3,he,hd7,ht7,hb7⟩;dsimp only[diskV,logV]at he;subst he;have HD0:=Hq (blkOld (heap_alloc_new w7 (.cells #["s",(),false] 29)) (allocB (w7.alloc (.cells #["s",(),false] 29)) (.cells #[(),(),(),(),""] 31)));have HL0:=Hq (show(((w7.alloc (.cells #["s",(),false] 29)).alloc (.cells #[(),(),(),(),""] 31)).setRow w7.heap.size #[.slice A3 L3.length c3,lf3,dn3]).heap[w7.heap.size+1]? =some (.cells #[(),(),(),(),""] 31 (0,0))from(heap_setRow_other _ _ _ _ (by omega)).trans (by have h:=heap_alloc_new (w7.alloc (.cells #["s",(),false] 29)) (.cells #[(),(),(),(),""] 31);simpa using h)))
  |(with_reducible refine listStore Kr 29 (.tmp 8) (.tmp 30) rfl w7.heap.size #[.slice A3 L3.length c3,lf3,dn3] _ _ rfl rfl HD0.out Kr Kr Kr ?_)
  |(with_reducible refine listStore Kr 31 (.tmp 9) (.tmp 31) rfl (w7.heap.size+1) #[fr3,ln3,en3,sf3,tl3] _ _ rfl rfl HL0.out Kr Kr Kr ?_))
 obtain⟨bd,hbd⟩:∃ bd,bd=w7.heap.size:=⟨_,rfl⟩
 have hB7:bt<bd:=by rw[hbd];exact Nat.lt_of_lt_of_le (heapLt HG6.out) hb7.size
 have hC:Below w7.heap.size w7 ((((w7.alloc (.cells #["s",(),false] 29)).alloc (.cells #[(),(),(),(),""] 31)).setRow w7.heap.size #[.slice A3 L3.length c3,lf3,dn3]).setRow (w7.heap.size+1) #[fr3,ln3,en3,sf3,tl3]):=below_setRow (below_setRow (pastAlloc (allocB w7 _)) (Nat.le_refl _) _) (Nat.le_succ _) _
 have HD8:=Hq (show((((w7.alloc (.cells #["s",(),false] 29)).alloc (.cells #[(),(),(),(),""] 31)).setRow w7.heap.size #[.slice A3 L3.length c3,lf3,dn3]).setRow (w7.heap.size+1) #[fr3,ln3,en3,sf3,tl3]).heap[bd]? =some (.cells #[.slice A3 L3.length c3,lf3,dn3] 29 (0,0))from(heap_setRow_other _ _ _ _ (by omega)).trans (by rw[hbd];exact setRow_heap _ _ _ _ _ _ HD0.out))
 have HL8:=Hq (show((((w7.alloc (.cells #["s",(),false] 29)).alloc (.cells #[(),(),(),(),""] 31)).setRow w7.heap.size #[.slice A3 L3.length c3,lf3,dn3]).setRow (w7.heap.size+1) #[fr3,ln3,en3,sf3,tl3]).heap[bd+1]? =some (.cells #[fr3,ln3,en3,sf3,tl3] 31 (0,0))from by rw[hbd];exact setRow_heap _ _ _ _ _ _ HL0.out)
 have H8:=Hq ((H6.out.step hb7).step hC)
 have HG8:=Hq (blkOld (blkOld HG6.out hb7) hC)
 have HS8:=Hq (show StoreR _ ⟨zl2,zp2,zf2,⟨L3,lf3,dn3⟩,⟨fr3,ln3,en3,sf3,tl3⟩,hd2,ts2,nx2⟩ ⟨A3,c3,FA2,fn2,fc2,TA2,tc2⟩from⟨hd7.below hC,(ht7.elim (fun e=>by rw[e];exact HS6.out.dt.below hb7) (fun e=>e.mono (Nat.zero_le _))).below hC,(HS6.out.tx.below hb7).below hC,(HS6.out.tt.below hb7).below hC⟩)
 obtain⟨W8,hW8⟩:∃ W,W=(((w7.alloc (.cells #["s",(),false] 29)).alloc (.cells #[(),(),(),(),""] 31)).setRow w7.heap.size #[.slice A3 L3.length c3,lf3,dn3]).setRow (w7.heap.size+1) #[fr3,ln3,en3,sf3,tl3]:=⟨_,rfl⟩
 rw[← hW8]at HD8 HL8 H8 HS8 HG8
 rw[← hW8,← hbd]
 clear hW8 hbd hC HD0 HL0 hd7 ht7 hb7 H6 HS6 HFF HG6
 go_upto_region 6 with(first
  |(with_reducible refine listLoad Kr 29 (.tmp 8) rfl bd rfl #[.slice A3 L3.length c3,lf3,dn3] _ HD8.out _ Tryz.underlying29 Kr Kr ?_)
  |(with_reducible refine listPut Kr 29 (.tmp 34) (.tmp 33) rfl bt 3 #[.slice A3 L3.length c3,lf3,dn3] #[zl2,zp2,zf2,.slice A2 L2.length c2,lf2,dn2,fr2,ln2,en2,sf2,tl2,.slice FA2 fn2 fc2,hd2,.slice TA2 ts2.length tc2,nx2] #[zl2,zp2,zf2,.slice A3 L3.length c3,lf3,dn3,fr2,ln2,en2,sf2,tl2,.slice FA2 fn2 fc2,hd2,.slice TA2 ts2.length tc2,nx2] _ rfl rfl HG8.out Kr Kr Kr Kr ?_))
 have H9:=Hq (H8.out.under (M:=bt) (by show w.heap.size+2≤bt;exact hbt) (below_setRow (Below.refl bt W8) (Nat.le_refl bt) #[zl2,zp2,zf2,.slice A3 L3.length c3,lf3,dn3,fr2,ln2,en2,sf2,tl2,.slice FA2 fn2 fc2,hd2,.slice TA2 ts2.length tc2,nx2]))
 have HG9:=Hq (show(W8.setRow bt #[zl2,zp2,zf2,.slice A3 L3.length c3,lf3,dn3,fr2,ln2,en2,sf2,tl2,.slice FA2 fn2 fc2,hd2,.slice TA2 ts2.length tc2,nx2]).heap[bt]? =some (.cells #[zl2,zp2,zf2,.slice A3 L3.length c3,lf3,dn3,fr2,ln2,en2,sf2,tl2,.slice FA2 fn2 fc2,hd2,.slice TA2 ts2.length tc2,nx2] 37 (0,0))from setRow_heap _ _ _ _ _ _ HG8.out)
 have HS9:=Hq (HS8.out.other HG8.out (by decide) (by decide) #[zl2,zp2,zf2,.slice A3 L3.length c3,lf3,dn3,fr2,ln2,en2,sf2,tl2,.slice FA2 fn2 fc2,hd2,.slice TA2 ts2.length tc2,nx2])
 have HL9:=Hq ((heap_setRow_other W8 bt #[zl2,zp2,zf2,.slice A3 L3.length c3,lf3,dn3,fr2,ln2,en2,sf2,tl2,.slice FA2 fn2 fc2,hd2,.slice TA2 ts2.length tc2,nx2] (bd+1) (by omega)).trans HL8.out)
 obtain⟨W9,hW9⟩:∃ W,W=W8.setRow bt #[zl2,zp2,zf2,.slice A3 L3.length c3,lf3,dn3,fr2,ln2,en2,sf2,tl2,.slice FA2 fn2 fc2,hd2,.slice TA2 ts2.length tc2,nx2]:=⟨_,rfl⟩
 rw[← hW9]at H9 HG9 HS9 HL9
 rw[← hW9]
 clear hW9 H8 HG8 HS8 HL8 HD8
 go_upto_region 7 with(first
  |(with_reducible refine listLoad Kr 31 (.tmp 9) rfl (bd+1) rfl #[fr3,ln3,en3,sf3,tl3] _ HL9.out _ Tryz.underlying31 Kr Kr ?_)
  |(with_reducible refine listPut Kr 31 (.tmp 36) (.tmp 35) rfl bt 6 #[fr3,ln3,en3,sf3,tl3] #[zl2,zp2,zf2,.slice A3 L3.length c3,lf3,dn3,fr2,ln2,en2,sf2,tl2,.slice FA2 fn2 fc2,hd2,.slice TA2 ts2.length tc2,nx2] #[zl2,zp2,zf2,.slice A3 L3.length c3,lf3,dn3,fr3,ln3,en3,sf3,tl3,.slice FA2 fn2 fc2,hd2,.slice TA2 ts2.length tc2,nx2] _ rfl rfl HG9.out Kr Kr Kr Kr ?_))
 have H10:=Hq (H9.out.under (M:=bt) (by show w.heap.size+2≤bt;exact hbt) (below_setRow (Below.refl bt W9) (Nat.le_refl bt) #[zl2,zp2,zf2,.slice A3 L3.length c3,lf3,dn3,fr3,ln3,en3,sf3,tl3,.slice FA2 fn2 fc2,hd2,.slice TA2 ts2.length tc2,nx2]))
 have HG10:=Hq (show(W9.setRow bt #[zl2,zp2,zf2,.slice A3 L3.length c3,lf3,dn3,fr3,ln3,en3,sf3,tl3,.slice FA2 fn2 fc2,hd2,.slice TA2 ts2.length tc2,nx2]).heap[bt]? =some (.cells #[zl2,zp2,zf2,.slice A3 L3.length c3,lf3,dn3,fr3,ln3,en3,sf3,tl3,.slice FA2 fn2 fc2,hd2,.slice TA2 ts2.length tc2,nx2] 37 (0,0))from setRow_heap _ _ _ _ _ _ HG9.out)
 have HS10:=Hq (HS9.out.other HG9.out (by decide) (by decide) #[zl2,zp2,zf2,.slice A3 L3.length c3,lf3,dn3,fr3,ln3,en3,sf3,tl3,.slice FA2 fn2 fc2,hd2,.slice TA2 ts2.length tc2,nx2])
 obtain⟨W10,hW10⟩:∃ W,W=W9.setRow bt #[zl2,zp2,zf2,.slice A3 L3.length c3,lf3,dn3,fr3,ln3,en3,sf3,tl3,.slice FA2 fn2 fc2,hd2,.slice TA2 ts2.length tc2,nx2]:=⟨_,rfl⟩
 rw[← hW10]at H10 HG10 HS10
 rw[← hW10]
 clear hW10 H9 HG9 HS9 HL9
 by_cases he3:e3=0
 rotate_left
 ·have hx:=d2 he3
  (try simp only at hx)
  have HMF:=Hq (fun(p':SP) w' hs hf hb=>HM.out _ p' w' hx hs hf hb)
  have he1:(e3==0)=false:=by simpa using he3
  have he2:(e3 != 0)=true:=by simpa using he3
  clear d2 d3 HM he3 hx HB2 HFD
  dsimp only[storeV]at HMF
  go_wp2_with (first
   |(with_reducible refine listLoad Kr 37 (.tmp 6) rfl bt rfl #[zl2,zp2,zf2,.slice A3 L3.length c3,lf3,dn3,fr3,ln3,en3,sf3,tl3,.slice FA2 fn2 fc2,hd2,.slice TA2 ts2.length tc2,nx2] _ HG10.out _ Tryz.underlying37 Kr Kr ?_)
   |(with_reducible refine listStore Kr 37 (.tmp 4) (.tmp 39) rfl (w.heap.size+1) #[zl2,zp2,zf2,.slice A3 L3.length c3,lf3,dn3,fr3,ln3,en3,sf3,tl3,.slice FA2 fn2 fc2,hd2,.slice TA2 ts2.length tc2,nx2] _ _ rfl rfl H10.out.get1 Kr Kr Kr ?_))
  refine bodyPost_ret (v:=.tuple #[.agg #[zl2,zp2,zf2,.slice A3 L3.length c3,lf3,dn3,fr3,ln3,en3,sf3,tl3,.slice FA2 fn2 fc2,hd2,.slice TA2 ts2.length tc2,nx2],e3]) (results_cell2 rfl _ _ rfl (load_whole (setRow_heap _ _ _ _ _ _ H10.out.get1) Tryz.underlying37 Kr Kr) rfl) rfl ?_
  exact HMF.out ⟨A3,c3,FA2,fn2,fc2,TA2,tc2⟩ _ (HS10.out.other H10.out.get1 (by decide) (by decide) _) HF5.out ((H10.out.row 1 _ _ rfl).below)
 subst he3
 have hx:=d3 rfl
 clear d2 d3
 obtain⟨sF,hsF⟩:∃ sF:Tx.St,sF=⟨zl2,zp2,zf2,⟨L3,lf3,dn3⟩,⟨fr3,ln3,en3,sf3,tl3⟩,hd2,ts2,nx2⟩:=⟨_,rfl⟩
 have HS9':=HS10.out
 rw[← hsF]at hx HS9'
 have hBF:=HB2.out
 rw[← hsF]at hBF
 have hlF:sF.txns.length≤800000:=by rw[hsF];show ts2.length≤_;omega
 have hfF:∃ k,Tx.placeT sF.txns n=some k:=by rw[hsF];exact HFD.out
 have k1:= @Tx.close_yes sF n hfF
 have k2:= @Tx.close_full sF n hfF
 have hEN:=fun W (hw:Below W10.heap.size W10 W)=>rend_any sF ⟨A3,c3,FA2,fn2,fc2,TA2,tc2⟩ hBF hlF n W (HS9'.below hw)
 have hNT:=fun W (hw:Below W10.heap.size W10 W)=>rnote_any sF.txns (by omega) TA2 tc2 (Rc.bare 7 0 0 n) none none 0 0 0 0 W (HS9'.tx.below hw)
 generalize Tx.endS sF n=y5 at k1 k2 hEN
 have hz:sF.txns=ts2:=by rw[hsF]
 rw[hz]at hNT
 rw[hsF]at hEN
 clear hBF hlF HS9' hz hfF HFD
 obtain⟨⟨zl5,zp5,zf5,⟨L5,lf5,dn5⟩,⟨fr5,ln5,en5,sf5,tl5⟩,hd5,ts5,nx5⟩,e5⟩:=y5
 dsimp only[storeV]at hEN
 dsimp only[recV,recA,Rc.bare,Rc.noOp,Rc.noKey]at hNT
 simp only at k1 k2
 have HEN:=Hq hEN
 have HNT:=Hq hNT
 clear hEN hNT
 have B10:=Below.refl W10.heap.size W10
 go_upto_region 10 with(first
  |(with_reducible refine listLoad Kr 37 (.tmp 6) rfl bt rfl #[zl2,zp2,zf2,.slice A3 L3.length c3,lf3,dn3,fr3,ln3,en3,sf3,tl3,.slice FA2 fn2 fc2,hd2,.slice TA2 ts2.length tc2,nx2] _ HG10.out _ Tryz.underlying37 Kr Kr ?_)
  |(go_at_call 64;(with_reducible refine(HEN.out _ B10).mono ?_);rintro e w11 ⟨p',he,hs11,hf11,hb11⟩;have HF11:=Hq hf11;clear hf11;obtain⟨A5,c5,FA5,fn5,fc5,TA5,tc5⟩:=p';(try dsimp only[storeV]at he);subst he)
  |(with_reducible refine wpList_store_new rfl 37 (.tmp 11) (.tmp 45) rfl #[zl5,zp5,zf5,.slice A5 L5.length c5,lf5,dn5,fr5,ln5,en5,sf5,tl5,.slice FA5 fn5 fc5,hd5,.slice TA5 ts5.length tc5,nx5] _ _ rfl Kr Kr Kr Kr ?_))
 have hb11':=pastAlloc (o:=.cells #[zl5,zp5,zf5,.slice A5 L5.length c5,lf5,dn5,fr5,ln5,en5,sf5,tl5,.slice FA5 fn5 fc5,hd5,.slice TA5 ts5.length tc5,nx5] 37) hb11
 have HG:=Hq (heap_alloc_new w11 (.cells #[zl5,zp5,zf5,.slice A5 L5.length c5,lf5,dn5,fr5,ln5,en5,sf5,tl5,.slice FA5 fn5 fc5,hd5,.slice TA5 ts5.length tc5,nx5] 37))
 have HT11:=Hq (blkOld HG10.out hb11')
 have H11:=Hq (H10.out.step hb11')
 have B11:=Hq hb11'
 have HS11:=Hq (hs11.below (allocB w11 (.cells #[zl5,zp5,zf5,.slice A5 L5.length c5,lf5,dn5,fr5,ln5,en5,sf5,tl5,.slice FA5 fn5 fc5,hd5,.slice TA5 ts5.length tc5,nx5] 37)))
 obtain⟨bs,hbs⟩:∃ bs,bs=w11.heap.size:=⟨_,rfl⟩
 obtain⟨W11,hW11⟩:∃ W,W=w11.alloc (.cells #[zl5,zp5,zf5,.slice A5 L5.length c5,lf5,dn5,fr5,ln5,en5,sf5,tl5,.slice FA5 fn5 fc5,hd5,.slice TA5 ts5.length tc5,nx5] 37):=⟨_,rfl⟩
 rw[← hbs]at HG
 rw[← hW11]at HG HT11 H11 B11 HS11
 rw[← hW11,← hbs]
 clear hbs hW11 hb11 hb11' hs11 HEN H10 HG10 B10
 by_cases he5:e5=0
 ·subst he5
  have hx2:=hx.trans (k1 rfl)
  have HMF:=Hq (fun(p':SP) w' hs hf hb=>HM.out _ p' w' hx2 hs hf hb)
  clear k1 k2 HM hx hx2 HNT
  dsimp only[storeV]at HMF
  go_wp2_with (first
   |(with_reducible refine listLoad Kr 37 (.tmp 11) rfl bs rfl #[zl5,zp5,zf5,.slice A5 L5.length c5,lf5,dn5,fr5,ln5,en5,sf5,tl5,.slice FA5 fn5 fc5,hd5,.slice TA5 ts5.length tc5,nx5] _ HG.out _ Tryz.underlying37 Kr Kr ?_)
   |(with_reducible refine listStore Kr 37 (.tmp 4) (.tmp 56) rfl (w.heap.size+1) #[zl5,zp5,zf5,.slice A5 L5.length c5,lf5,dn5,fr5,ln5,en5,sf5,tl5,.slice FA5 fn5 fc5,hd5,.slice TA5 ts5.length tc5,nx5] _ _ rfl rfl H11.out.get1 Kr Kr Kr ?_))
  refine bodyPost_ret (v:=.tuple #[.agg #[zl5,zp5,zf5,.slice A5 L5.length c5,lf5,dn5,fr5,ln5,en5,sf5,tl5,.slice FA5 fn5 fc5,hd5,.slice TA5 ts5.length tc5,nx5],()]) (results_cell2 rfl _ _ rfl (load_whole (setRow_heap _ _ _ _ _ _ H11.out.get1) Tryz.underlying37 Kr Kr) rfl) rfl ?_
  exact HMF.out ⟨A5,c5,FA5,fn5,fc5,TA5,tc5⟩ _ (HS11.out.other H11.out.get1 (by decide) (by decide) _) ⟨HF11.out.1.trans HF5.out.1,HF11.out.2.1.trans HF5.out.2.1,HF11.out.2.2.trans HF5.out.2.2⟩ ((H11.out.row 1 _ _ rfl).below)
 ·have hx2:=hx.trans (k2 he5)
  rw[hsF]at hx2
  (try simp only at hx2)
  have he1:(e5==0)=false:=by simpa using he5
  have he2:(e5 != 0)=true:=by simpa using he5
  have HMF:=Hq (fun(p':SP) w' hs hf hb=>HM.out _ p' w' hx2 hs hf hb)
  clear k1 k2 HM hx hx2 he5 HS11 HG
  dsimp only[storeV,Rc.bare,Rc.noOp,Rc.noKey]at HMF
  generalize Tx.noteT ts2 ⟨0,0,n,7,0,0,0,⟨0,0,⟨#[]⟩,⟨#[]⟩⟩,0,0,⟨⟨#[]⟩,0,0⟩,[],[]⟩=ts6 at HMF HNT
  have hc11:=blkCell HT11.out
  go_upto_region 12 with(first
   |(go_at_call 65;(with_reducible refine(HNT.out _ B11.out).mono ?_);rintro e w12 ⟨A',c',rfl,hr12,ht12,hb12⟩;have H12:=Hq (H11.out.step hb12);have HT12:=Hq (blkOld HT11.out hb12);have B12:=Hq (B11.out.trans (hb12.mono B11.out.size));have hc12:=blkCell HT12.out;have hz12:=blkFrozen HT12.out;clear hc11))
  have HS12:=Hq (show StoreR w12 ⟨zl2,zp2,zf2,⟨L3,lf3,dn3⟩,⟨fr3,ln3,en3,sf3,tl3⟩,hd2,ts6,nx2⟩ ⟨A3,c3,FA2,fn2,fc2,A',c'⟩from⟨HS10.out.dk.below B12.out,HS10.out.dt.below B12.out,hr12,ht12⟩)
  have HS13:=Hq (HS12.out.set HT12.out (by decide) (by decide) 13 (.slice A' ts6.length c'))
  have HT13:=Hq (show(w12.setCell ⟨bt,13,none⟩ (.slice A' ts6.length c')).heap[bt]? =some (.cells #[zl2,zp2,zf2,.slice A3 L3.length c3,lf3,dn3,fr3,ln3,en3,sf3,tl3,.slice FA2 fn2 fc2,hd2,.slice A' ts6.length c',nx2] 37 (0,0))from by have h:=blkSet 13 HT12.out (.slice A' ts6.length c');simpa using h)
  have H13:=Hq (H12.out.under (M:=bt) (by show w.heap.size+2≤bt;exact hbt) ((Below.refl bt w12).setCell (p:=⟨bt,13,none⟩) (Nat.le_refl bt) (.slice A' ts6.length c')))
  obtain⟨W13,hW13⟩:∃ W,W=w12.setCell ⟨bt,13,none⟩ (.slice A' ts6.length c'):=⟨_,rfl⟩
  rw[← hW13]at H13 HS13 HT13
  rw[← hW13]
  clear hW13 hc12 hz12 H12 HS12 hr12 ht12 hb12 H11 HNT HT12
  go_wp2_with (first
   |(with_reducible refine listLoad Kr 37 (.tmp 6) rfl bt rfl #[zl2,zp2,zf2,.slice A3 L3.length c3,lf3,dn3,fr3,ln3,en3,sf3,tl3,.slice FA2 fn2 fc2,hd2,.slice A' ts6.length c',nx2] _ HT13.out _ Tryz.underlying37 Kr Kr ?_)
   |(with_reducible refine listStore Kr 37 (.tmp 4) (.tmp 55) rfl (w.heap.size+1) #[zl2,zp2,zf2,.slice A3 L3.length c3,lf3,dn3,fr3,ln3,en3,sf3,tl3,.slice FA2 fn2 fc2,hd2,.slice A' ts6.length c',nx2] _ _ rfl rfl H13.out.get1 Kr Kr Kr ?_))
  refine bodyPost_ret (v:=.tuple #[.agg #[zl2,zp2,zf2,.slice A3 L3.length c3,lf3,dn3,fr3,ln3,en3,sf3,tl3,.slice FA2 fn2 fc2,hd2,.slice A' ts6.length c',nx2],()]) (results_cell2 rfl _ _ rfl (load_whole (setRow_heap _ _ _ _ _ _ H13.out.get1) Tryz.underlying37 Kr Kr) rfl) rfl ?_
  exact HMF.out ⟨A3,c3,FA2,fn2,fc2,A',c'⟩ _ (HS13.out.other H13.out.get1 (by decide) (by decide) _) HF5.out ((H13.out.row 1 _ _ rfl).below)
end Go.Proofs.YtilakddepaplhaaGreat
