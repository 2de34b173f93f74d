import Derived.Test.YtmfkhdhnbkambaaGreatDoorHp00
import Derived.Test.YtmfkhdhnbkambaaGreatDoorHp14
set_option maxRecDepth 100000
set_option maxHeartbeats 16000000
set_option linter.unusedSimpArgs false
namespace Go.Proofs.YtmfkhdhnbkambaaGreatDoor
open Go.RowKit Sc
def VdOut (s:Tx.St)(n:Nat)(o:Option (Nat×List Fr))(w:World)(e:Ending)(w':World):Prop:=
 ∃ (x kk:Int) (q:SP),e= .returned (.tuple #[storeV {s with hand:=x} q,kk])∧Below w.heap.size w w'∧
  ((∃ (k:Nat) (fs':List Fr),o=some (k,fs')∧x=(((k+1)%n:Nat):Int)∧kk=(k:Int)∧PoolR w' {s with hand:=x} q fs')∨(o=none∧kk= -1∧x=s.hand))
theorem VcOut.one {s:Tx.St}{n:Nat}{o:Option (Nat×List Fr)}{w:World}{e:Ending}{w':World}(h:VcOut s n o w e w'):VdOut s n o w e w':=by
 rcases h with⟨k,fs',q,x,h1,h2,h3,h4,h5⟩|⟨h1,q,h2,h3⟩
 ·exact⟨x,k,q,h3,h5,.inl ⟨k,fs',h1,h2,rfl,h4⟩⟩
 ·exact⟨s.hand,-1,q,h2,h3,.inr ⟨h1,rfl,rfl⟩⟩
def RoOut (x:Px×Nat)(w:World)(e:Ending)(w':World):Prop:=∃ q:SP,e= .returned (.tuple #[storeV x.1.s q,.int .i64 (x.2:Int),x.1.e])∧(x.1.e=0∨x.1.e=20→PoolR w' x.1.s q x.1.fs)∧Below w.heap.size w w'
theorem pfback_any (s:Tx.St)(p:SP)(s2:Tx.St)(p2:SP)(x:Int)(w:World):
 Calls Tryz.prog 83 #[storeV s p,storeV s2 p2,x] w fun e w'=>e= .returned (if x=0∨x=20 then storeV s2 p2 else storeV s p)∧Below w.heap.size w w':=by
 by_cases h0:x=0
 ·rw[if_pos (.inl h0)]
  have hb0:(x==0)=true:=by rw[h0];rfl
  clear h0
  go_enter Tryz.func83,Tryz.ntmps83
  go_upto_region 1 with fail
  have H0:=nW3 w (stA s p) 36 (stA s2 p2) 36 #[(),(),(),"s",(),false,(),(),(),(),"","s",(),"s",()] 36
  obtain⟨W0,hW0⟩:=exW H0
  rw[← hW0]at H0 ⊢
  clear hW0
  go_wp2_with (first|(with_reducible refine lL H0.out.get1 Tryz.underlying36 ?_)|(with_reducible refine lS (stA s2 p2) H0.out.get2 ?_))
  refine bodyPost_ret (v:=.agg (stA s2 p2)) (results_cell rfl _ _ rfl (load_whole (setRow_heap _ _ _ _ _ _ H0.out.get2) Tryz.underlying36 Kr Kr)) rfl ?_
  exact⟨rfl,(H0.out.row 2 (stA s2 p2) _ rfl).below⟩
 ·have hb0:(x==0)=false:=beq_eq_false_iff_ne.2 h0
  by_cases h1:x=20
  ·rw[if_pos (.inr h1)]
   have hb1:(x==20)=true:=by rw[h1];rfl
   clear h0 h1
   go_enter Tryz.func83,Tryz.ntmps83
   go_upto_region 1 with fail
   have H0:=nW3 w (stA s p) 36 (stA s2 p2) 36 #[(),(),(),"s",(),false,(),(),(),(),"","s",(),"s",()] 36
   obtain⟨W0,hW0⟩:=exW H0
   rw[← hW0]at H0 ⊢
   clear hW0
   go_wp2_with (first|(with_reducible refine lL H0.out.get1 Tryz.underlying36 ?_)|(with_reducible refine lS (stA s2 p2) H0.out.get2 ?_))
   refine bodyPost_ret (v:=.agg (stA s2 p2)) (results_cell rfl _ _ rfl (load_whole (setRow_heap _ _ _ _ _ _ H0.out.get2) Tryz.underlying36 Kr Kr)) rfl ?_
   exact⟨rfl,(H0.out.row 2 (stA s2 p2) _ rfl).below⟩
  ·rw[if_neg (fun h=>h.elim h0 h1)]
   have hb1:(x==20)=false:=beq_eq_false_iff_ne.2 h1
   clear h0 h1
   go_enter Tryz.func83,Tryz.ntmps83
   go_upto_region 1 with fail
   have H0:=nW3 w (stA s p) 36 (stA s2 p2) 36 #[(),(),(),"s",(),false,(),(),(),(),"","s",(),"s",()] 36
   obtain⟨W0,hW0⟩:=exW H0
   rw[← hW0]at H0 ⊢
   clear hW0
   go_wp2_with (first|(with_reducible refine lL H0.out.get0 Tryz.underlying36 ?_)|(with_reducible refine lS (stA s p) H0.out.get2 ?_))
   refine bodyPost_ret (v:=.agg (stA s p)) (results_cell rfl _ _ rfl (load_whole (setRow_heap _ _ _ _ _ _ H0.out.get2) Tryz.underlying36 Kr Kr)) rfl ?_
   exact⟨rfl,(H0.out.row 2 (stA s p) _ rfl).below⟩
theorem pfroom_any {N n B:Nat}(s:Tx.St)(p:SP)(fs:List Fr)(hW:Wf N n B s fs)(hB:B≤1000000)(w:World)(h:PoolR w s p fs):
 Calls Tryz.prog 103 #[storeV s p] w (RoOut (roomF s fs) w):=by
 have hnf:=hW.nf
 have HIX:=Hq (fun W (hb:Below w.heap.size w W)=>indexF_any (fun f=>¬ Full f) 47 #[] (enters_of Tryz.func47 Kr rfl) fs (by omega) p.F p.fc W (h.fr.below hb) (fun f _ V _=>by simpa using pfree_any f V))
 have HVI:=Hq (fun W (hb:Below w.heap.size w W)=>(pfvictim_any s p fs hnf hW.hd (fun i hi=>by have:=(hW.fr i hi).pn;omega) W (h.below hb)).mono fun _ _ hx=>hx.one)
 have HFN:=Hq h.fn
 obtain⟨X,hX⟩:=ex (roomF s fs)
 rw[← hX]
 have HSM:=Hq (fun W (hb1:Below w.heap.size w W) (k:Nat) (hf:freeI fs=some k)=>show RoOut X w (.returned (.tuple #[storeV s p,.int .i64 (k:Int),()])) W from by
  have e:X=(⟨s,fs,0⟩,k):=by rw[hX];unfold roomF;rw[hf]
  rw[e]
  exact⟨p,rfl,fun _=>h.below hb1,hb1⟩)
 have HNO:=Hq (fun W (hb1:Below w.heap.size w W) (hf:freeI fs=none) (hv:vicF fs.length (2*fs.length) (s.hand.toNat%fs.length) fs=none) (q:SP)=>show RoOut X w (.returned (.tuple #[storeV s q,(),.int .i64 18])) W from by
  have e:X=(⟨s,fs,18⟩,0):=by rw[hX];unfold roomF;rw[hf];simp only;rw[hv]
  rw[e]
  exact⟨q,rfl,fun h=>absurd h (by show ¬ ((18:Int)=0∨(18:Int)=20);decide),hb1⟩)
 have HYE:=Hq (fun W (hb1:Below w.heap.size w W) (hf:freeI fs=none) (k:Nat) (fs':List Fr) (hv:vicF fs.length (2*fs.length) (s.hand.toNat%fs.length) fs=some (k,fs')) (x:Int) (hx:x=(((k+1)%fs.length:Nat):Int)) (Y:Px) (hY:Y=flushF {s with hand:=x} fs' k) (q:SP) (hp:PoolR W Y.s q Y.fs)=>show RoOut X w (.returned (.tuple #[storeV Y.s q,.int .i64 (k:Int),Y.e])) W from by
  have e:X=(Y,k):=by rw[hX];unfold roomF;rw[hf];simp only;rw[hv,hY,hx]
  rw[e]
  exact⟨q,rfl,fun _=>hp,hb1⟩)
 have HFL:=Hq (fun(k:Nat) (fs':List Fr) (hv:vicF fs.length (2*fs.length) (s.hand.toNat%fs.length) fs=some (k,fs')) (x:Int) (hx:x=(((k+1)%fs.length:Nat):Int)) (q:SP) W (hp:PoolR W {s with hand:=x} q fs')=>show Calls Tryz.prog 82 #[storeV {s with hand:=x} q,.int .i64 (k:Int)] W (StOut (flushF {s with hand:=x} fs' k) W)from by
  obtain⟨h1,h2,_⟩:=vic_keep fs.length (by omega) _ _ fs fs k fs' rfl (Nat.mod_lt _ (by omega)) (MkR.refl fs) hv
  have hm:(k+1)%fs.length<fs.length:=Nat.mod_lt _ (by omega)
  exact pfflush_any {s with hand:=x} q fs' ((hW.hand (x:=x) (by omega)).marks h2) k (by have:=h2.len;omega) W hp)
 clear hX
 generalize RoOut X w=Q at HSM HNO HYE ⊢
 generalize vicF fs.length (2*fs.length) (s.hand.toNat%fs.length) fs=V at HVI HNO HYE HFL
 clear h hW
 go_enter Tryz.func103,Tryz.ntmps103
 go_upto_region 1 with fail
 have H0:=nW2 w (stA s p) 36 #[(),(),(),"s",(),false,(),(),(),(),"","s",(),"s",()] 36
 obtain⟨W0,hW0⟩:=exW H0
 rw[← hW0]at H0 ⊢
 clear hW0
 have hc:=show W0.cell? ⟨w.heap.size,11,none⟩=some (.slice p.F fs.length p.fc)from by rw[blkCell H0.out.get0,← HFN.out];rfl
 go_upto_region 2 with(go_at_call 45;(refine(HIX.out _ H0.out.below).mono ?_);rintro e w1 ⟨kk,rfl,hq,hb1⟩;have H1:=Hq (H0.out.step hb1);clear hb1 HIX hc H0;rcases hq with⟨rfl,hq⟩|⟨k,hk,rfl,hfk,hfj⟩)
 ·have hm1:¬ (0:Int)≤-1:=by decide
  have HFU:=Hq (freeI_none hq)
  clear hq HSM
  go_upto_region 5 with(first
   |(with_reducible refine lL H1.out.get0 Tryz.underlying36 ?_)
   |(go_at_call 147;(refine(HVI.out _ H1.out.below).mono ?_);rintro e w2 ⟨x,kk,q,rfl,hb2,hv2⟩;have H2:=Hq (H1.out.step hb2))
   |(with_reducible refine lS (stA {s with hand:=x} q) H2.out.get0 ?_))
  have H3:=Hq (show BxL w.heap.size w [((stA {s with hand:=x} q),36),(#[(),(),(),"s",(),false,(),(),(),(),"","s",(),"s",()],36)] (w2.setRow w.heap.size (stA {s with hand:=x} q))from H2.out.row 0 (stA {s with hand:=x} q) _ rfl)
  have HV3:=Hq (show(∃ (k:Nat) (fs':List Fr),V=some (k,fs')∧x=(((k+1)%fs.length:Nat):Int)∧kk=(k:Int)∧PoolR (w2.setRow w.heap.size (stA {s with hand:=x} q)) {s with hand:=x} q fs')∨(V=none∧kk= -1∧x=s.hand)from hv2.imp (fun⟨k,fs',a,b,c,d⟩=>⟨k,fs',a,b,c,d.other (t:=36) H2.out.get0 (by decide) (by decide) (by decide) (stA {s with hand:=x} q)⟩) id)
  generalize w2.setRow w.heap.size (stA {s with hand:=x} q)=w3 at H3 HV3 ⊢
  clear hb2 hv2 H1 H2 HVI
  try simp only[Act.put]
  rcases HV3.out with⟨k,fs1,hv,hx,rfl,hp3⟩|⟨hv,rfl,rfl⟩
  ·have HP3:=Hq hp3
   clear hp3 HV3
   have HFL2:=Hq (fun W hp=>HFL.out k fs1 hv x hx q W hp)
   have HYF:=Hq (fun W hb1 Y hY q hp=>HYE.out W hb1 HFU.out k fs1 hv x hx Y hY q hp)
   have hki:¬ (k:Int)<0:=by omega
   clear HFL HYE HNO hv hx
   obtain⟨Y,hY⟩:=ex (flushF {s with hand:=x} fs1 k)
   rw[← hY]at HFL2
   have HY:=Hq hY
   clear hY
   try simp only[Act.put]
   go_upto_region 8 with(first
    |(with_reducible refine lL H3.out.get0 Tryz.underlying36 ?_)
    |(go_at_call 82;(refine(HFL2.out _ HP3.out).mono ?_);rintro e w4 ⟨q4,rfl,hp4,hb4⟩;have H4:=Hq (H3.out.step hb4))
    |(with_reducible refine lS (stA Y.s q4) H4.out.get0 ?_))
   have H5:=Hq (show BxL w.heap.size w [((stA Y.s q4),36),(#[(),(),(),"s",(),false,(),(),(),(),"","s",(),"s",()],36)] (w4.setRow w.heap.size (stA Y.s q4))from H4.out.row 0 (stA Y.s q4) _ rfl)
   have HP5:=Hq (hp4.other (t:=36) H4.out.get0 (by decide) (by decide) (by decide) (stA Y.s q4))
   generalize w4.setRow w.heap.size (stA Y.s q4)=w5 at H5 HP5 ⊢
   clear hb4 hp4 H3 H4 HP3 HFL2
   try simp only[Act.put]
   go_wp2_with (first
    |(with_reducible refine lL H5.out.get0 Tryz.underlying36 ?_)
    |(with_reducible refine lS (stA Y.s q4) H5.out.get1 ?_))
   refine bodyPost_ret (v:=.tuple #[.agg (stA Y.s q4),.int .i64 (k:Int),Y.e]) (results_cell3 rfl _ _ rfl (load_whole (setRow_heap _ _ _ _ _ _ H5.out.get1) Tryz.underlying36 Kr Kr) rfl rfl) rfl ?_
   exact HYF.out _ (H5.out.row 1 (stA Y.s q4) _ rfl).below Y HY.out q4 (HP5.out.other (t:=36) H5.out.get1 (by decide) (by decide) (by decide) _)
  ·clear HV3
   have HNF:=Hq (fun W hb1=>HNO.out W hb1 HFU.out hv q)
   clear HFL HYE HNO hv
   have hmm:(-1:Int)<0:=by decide
   go_wp2_with (first
    |(with_reducible refine lL H3.out.get0 Tryz.underlying36 ?_)
    |(with_reducible refine lS (stA s q) H3.out.get1 ?_))
   refine bodyPost_ret (v:=.tuple #[.agg (stA s q),(),.int .i64 18]) (results_cell3 rfl _ _ rfl (load_whole (setRow_heap _ _ _ _ _ _ H3.out.get1) Tryz.underlying36 Kr Kr) rfl rfl) rfl ?_
   exact HNF.out _ (H3.out.row 1 (stA s q) _ rfl).below
 ·have hk0:(0:Int)≤(k:Int):=by omega
  clear HVI HFL HYE HNO
  have HFK:=Hq (freeI_some hk hfk fun j hj hjk=>hfj j hjk)
  clear hfk hfj
  go_wp2_with (first
   |(with_reducible refine lL H1.out.get0 Tryz.underlying36 ?_)
   |(with_reducible refine lS (stA s p) H1.out.get1 ?_))
  refine bodyPost_ret (v:=.tuple #[.agg (stA s p),.int .i64 (k:Int),()]) (results_cell3 rfl _ _ rfl (load_whole (setRow_heap _ _ _ _ _ _ H1.out.get1) Tryz.underlying36 Kr Kr) rfl rfl) rfl ?_
  exact HSM.out _ (H1.out.row 1 (stA s p) _ rfl).below k HFK.out
def HdOut (x:Px×Nat)(w:World)(e:Ending)(w':World):Prop:=∃ q:SP,e= .returned (.tuple #[storeV x.1.s q,.int .i64 (x.2:Int),x.1.e])∧PoolR w' x.1.s q x.1.fs∧Below w.heap.size w w'
theorem room_fr {N n B:Nat}{s:Tx.St}{fs:List Fr}(h:Wf N n B s fs):(roomF s fs).1.fs.length≤100∧(roomF s fs).2<(roomF s fs).1.fs.length:=by
 obtain⟨h1,h2,h3⟩:=h.room
 have:=h.nf
 omega
theorem pfheld_any {N n B:Nat}(s:Tx.St)(p:SP)(fs:List Fr)(hW:Wf N n B s fs)(hB:B≤1000000)(pg:Int)(w:World)(h:PoolR w s p fs):
 Calls Tryz.prog 44 #[storeV s p,pg] w (HdOut (heldF s fs pg) w):=by
 have hnf:=hW.nf
 have hfl:fs.length≤100:=by omega
 have hzp:=hW.zp
 have HHS:=Hq (fun W=>phas_any s p n hW.zp pg W)
 obtain⟨X,hX⟩:=ex (heldF s fs pg)
 rw[← hX]
 by_cases hpg:0≤pg∧pg<(n:Int)
 ·rw[decide_eq_true hpg]at HHS
  obtain⟨pn,rfl⟩:∃ pn:Nat,pg=(pn:Int):=⟨pg.toNat,by omega⟩
  have hh:hasF s (pn:Int):=⟨hpg.1,by omega⟩
  have HAT:=Hq (fun W (hb:Below w.heap.size w W)=>pat_any s p fs (by omega) (pn:Int) W (h.below hb))
  have HRE:=Hq (fun W (hb:Below w.heap.size w W)=>pfread_any s p fs hW pn (by omega) W (h.st.dk.below hb))
  have HRM:=Hq (fun W (hb:Below w.heap.size w W)=>pfroom_any s p fs hW hB W (h.below hb))
  have HWI:=Hq (fun k hk f W (hb:Below w.heap.size w W)=>pwith_any s p fs hfl k hk f W (h.below hb))
  have HFN:=Hq h.fn
  have HP:=Hq h
  have hrf:=room_fr hW
  have HK1:=Hq (fun k (ha:atF fs (pn:Int)=some k) (hk:k<fs.length) w' (q:SP) (hp:PoolR w' s q (fs.set k {fs[k]with mark:=true})) (hb:Below w.heap.size w w')=>show HdOut X w (.returned (.tuple #[storeV s q,.int .i64 (k:Int),()])) w' from by
   have e:X=(⟨s,fs.set k {fs[k]with mark:=true},0⟩,k):=by rw[hX];unfold heldF;rw[if_neg (fun hn=>hn hh),ha];simp only;rw[frAt_eq hk]
   rw[e]
   exact⟨q,rfl,hp,hb⟩)
  have HK2:=Hq (fun(ha:atF fs (pn:Int)=none) (hl:¬ (loadF s (pn:Int)).2=0) w' (hb:Below w.heap.size w w')=>show HdOut X w (.returned (.tuple #[storeV s p,(),.int .i64 (loadF s (pn:Int)).2])) w' from by
   have e:X=(⟨s,fs,(loadF s (pn:Int)).2⟩,0):=by rw[hX];unfold heldF;rw[if_neg (fun hn=>hn hh),ha];simp only;rw[if_pos hl]
   rw[e]
   exact⟨p,rfl,h.below hb,hb⟩)
  have HK3:=Hq (fun(ha:atF fs (pn:Int)=none) (hl:(loadF s (pn:Int)).2=0) (hr:¬ (roomF s fs).1.e=0) w' (q:SP) (hp:PoolR w' (backF s fs (roomF s fs).1).s q (backF s fs (roomF s fs).1).fs) (hb:Below w.heap.size w w')=>show HdOut X w (.returned (.tuple #[storeV (backF s fs (roomF s fs).1).s q,(),.int .i64 (roomF s fs).1.e])) w' from by
   have e:X=(backF s fs (roomF s fs).1,0):=by rw[hX];unfold heldF;rw[if_neg (fun hn=>hn hh),ha];simp only;rw[if_neg (fun hn=>hn hl),if_neg hr]
   have e2:(roomF s fs).1.e=(backF s fs (roomF s fs).1).e:=by unfold backF;split<;>rfl
   rw[e,e2]
   exact⟨q,rfl,hp,hb⟩)
  have HK4:=Hq (fun(ha:atF fs (pn:Int)=none) (hl:(loadF s (pn:Int)).2=0) (hr:(roomF s fs).1.e=0) w' (q:SP) (hp:PoolR w' (roomF s fs).1.s q ((roomF s fs).1.fs.set (roomF s fs).2 ⟨(pn:Int),(loadF s (pn:Int)).1,0,true,0⟩)) (hb:Below w.heap.size w w')=>show HdOut X w (.returned (.tuple #[storeV (roomF s fs).1.s q,.int .i64 ((roomF s fs).2:Int),()])) w' from by
   have e:X=(⟨(roomF s fs).1.s,(roomF s fs).1.fs.set (roomF s fs).2 ⟨(pn:Int),(loadF s (pn:Int)).1,0,true,0⟩,0⟩,(roomF s fs).2):=by rw[hX];unfold heldF;rw[if_neg (fun hn=>hn hh),ha];simp only;rw[if_neg (fun hn=>hn hl),if_pos hr]
   rw[e]
   exact⟨q,rfl,hp,hb⟩)
  clear hX hW hh
  generalize HdOut X w=Q at HK1 HK2 HK3 HK4 ⊢
  generalize loadF s (pn:Int)=l at HRE HK2 HK3 HK4
  obtain⟨lb,le⟩:=l
  simp only at HRE HK2 HK3 HK4
  have HBF:=Hq (show backF s fs (roomF s fs).1=if(roomF s fs).1.e=0∨(roomF s fs).1.e=20 then(roomF s fs).1 else⟨s,fs,(roomF s fs).1.e⟩from rfl)
  generalize backF s fs (roomF s fs).1=bk at HK3 HBF
  generalize roomF s fs=r at HRM HK3 HK4 hrf HBF
  obtain⟨⟨xs,xfs,xe⟩,xk⟩:=r
  simp only at HRM HK3 HK4 hrf HBF
  clear h hnf hzp
  go_enter Tryz.func44,Tryz.ntmps44
  go_upto_region 1 with fail
  have H0:=nW2 w (stA s p) 36 #[(),(),(),"s",(),false,(),(),(),(),"","s",(),"s",()] 36
  obtain⟨W0,hW0⟩:=exW H0
  rw[← hW0]at H0 ⊢
  clear hW0
  go_upto_region 3 with(first|(with_reducible refine lL H0.out.get0 Tryz.underlying36 ?_)|(go_at_call 75;(refine(HHS.out _).mono ?_);rintro e w1 ⟨rfl,hb1⟩;have H1:=Hq (H0.out.step hb1)))
  go_upto_region 4 with(first|(with_reducible refine lL H1.out.get0 Tryz.underlying36 ?_)|(go_at_call 14;(refine(HAT.out _ H1.out.below).mono ?_);rintro e w2 ⟨kk,rfl,hq,hb2⟩;have H2:=Hq (H1.out.step hb2)))
  clear hb1 hb2 H0 H1 HHS HAT
  rcases hq with⟨rfl,hq⟩|⟨k,hk,rfl,hfk,hfj⟩
  ·have hm1:¬ (0:Int)≤-1:=by decide
   have HNO:=Hq (atF_none hq)
   clear hq HWI HK1
   go_upto_region 9 with(first|(with_reducible refine lL H2.out.get0 Tryz.underlying36 ?_)|(go_at_call 102;(refine(HRE.out _ H2.out.below).mono ?_);rintro e w3 ⟨rfl,hb3⟩;have H3:=Hq (H2.out.step hb3)))
   clear hb3 H2 HRE
   by_cases hle:le=0
   ·have hlb:(le != 0)=false:=by rw[hle];rfl
    have HLE:=Hq hle
    clear hle HK2
    go_upto_region 12 with(first
     |(with_reducible refine lL H3.out.get0 Tryz.underlying36 ?_)
     |(go_at_call 103;(refine(HRM.out _ H3.out.below).mono ?_);rintro e w4 ⟨q,rfl,hp4,hb4⟩)
     |(with_reducible refine sN (stA xs q) ?_))
    have hb5:=hb4.trans ((allocB w4 (.cells (stA xs q) 36)).mono hb4.size)
    have H5:=Hq (H3.out.step hb5)
    have HG5:=Hq (heap_alloc_new w4 (.cells (stA xs q) 36))
    have HP5:=Hq (fun hx=>(hp4 hx).below (allocB w4 (.cells (stA xs q) 36)))
    obtain⟨g,hg⟩:=ex w4.heap.size
    obtain⟨w5,hw5⟩:=ex (w4.alloc (.cells (stA xs q) 36))
    rw[← hg,← hw5]at HG5
    rw[← hw5]at H5 HP5
    rw[← hw5,← hg]
    clear hw5 hg hb4 hb5 H3 HRM hp4
    try simp only[Act.put]
    by_cases hxe:xe=0
    ·have hxb:(xe != 0)=false:=by rw[hxe];rfl
     have HXE:=Hq hxe
     have HP6:=Hq (HP5.out (.inl hxe))
     clear hxe HP5 HK3 HBF
     have HWI:=Hq (show ∀ W,PoolR W xs q xfs→_ from fun W hp=>pwith_any xs q xfs hrf.1 xk hrf.2 ⟨(pn:Int),lb,0,true,0⟩ W hp)
     go_wp2_with (first
      |(with_reducible refine lL HG5.out Tryz.underlying36 ?_)
      |(go_at_call 74;(refine(HWI.out _ HP6.out).mono ?_);rintro e w6 ⟨q6,rfl,hp6,hb6⟩;have H6:=Hq (H5.out.step hb6))
      |(with_reducible refine lS (stA xs q6) H6.out.get1 ?_))
     refine bodyPost_ret (v:=.tuple #[.agg (stA xs q6),.int .i64 (xk:Int),()]) (results_cell3 rfl _ _ rfl (load_whole (setRow_heap _ _ _ _ _ _ H6.out.get1) Tryz.underlying36 Kr Kr) rfl rfl) rfl ?_
     exact HK4.out HNO.out HLE.out HXE.out _ q6 (hp6.other (t:=36) H6.out.get1 (by decide) (by decide) (by decide) _) (H6.out.row 1 (stA xs q6) _ rfl).below
    ·have hxb:(xe != 0)=true:=by rw[bne_iff_ne];exact hxe
     have HXE:=Hq hxe
     clear HK4
     by_cases hx2:xe=20
     ·have HBA:=Hq (fun W=>show Calls Tryz.prog 83 #[storeV s p,storeV xs q,xe] W fun e w'=>e= .returned (storeV xs q)∧Below W.heap.size W w' from by
       have h0:=pfback_any s p xs q xe W
       rw[if_pos (.inr hx2)]at h0
       exact h0)
      have HP6:=Hq (HP5.out (.inr hx2))
      have HBG:=HBF.out
      rw[if_pos (.inr hx2)]at HBG
      subst HBG
      clear hxe hx2 HP5 HBF
      go_wp2_with (first
       |(with_reducible refine lL H5.out.get0 Tryz.underlying36 ?_)
       |(with_reducible refine lL HG5.out Tryz.underlying36 ?_)
       |(go_at_call 83;(refine(HBA.out _).mono ?_);rintro e w6 ⟨rfl,hb6⟩;have H6:=Hq (H5.out.step hb6))
       |(with_reducible refine lS (stA xs q) H6.out.get1 ?_))
      refine bodyPost_ret (v:=.tuple #[.agg (stA xs q),(),xe]) (results_cell3 rfl _ _ rfl (load_whole (setRow_heap _ _ _ _ _ _ H6.out.get1) Tryz.underlying36 Kr Kr) rfl rfl) rfl ?_
      exact HK3.out HNO.out HLE.out HXE.out _ q ((HP6.out.below hb6).other (t:=36) H6.out.get1 (by decide) (by decide) (by decide) _) (H6.out.row 1 (stA xs q) _ rfl).below
     ·have HBA:=Hq (fun W=>show Calls Tryz.prog 83 #[storeV s p,storeV xs q,xe] W fun e w'=>e= .returned (storeV s p)∧Below W.heap.size W w' from by
       have h0:=pfback_any s p xs q xe W
       rw[if_neg (fun h=>h.elim hxe hx2)]at h0
       exact h0)
      have HBG:=HBF.out
      rw[if_neg (fun h=>h.elim hxe hx2)]at HBG
      subst HBG
      clear hxe hx2 HP5 HBF
      go_wp2_with (first
       |(with_reducible refine lL H5.out.get0 Tryz.underlying36 ?_)
       |(with_reducible refine lL HG5.out Tryz.underlying36 ?_)
       |(go_at_call 83;(refine(HBA.out _).mono ?_);rintro e w6 ⟨rfl,hb6⟩;have H6:=Hq (H5.out.step hb6))
       |(with_reducible refine lS (stA s p) H6.out.get1 ?_))
      refine bodyPost_ret (v:=.tuple #[.agg (stA s p),(),xe]) (results_cell3 rfl _ _ rfl (load_whole (setRow_heap _ _ _ _ _ _ H6.out.get1) Tryz.underlying36 Kr Kr) rfl rfl) rfl ?_
      exact HK3.out HNO.out HLE.out HXE.out _ p ((HP.out.below H6.out.below).other (t:=36) H6.out.get1 (by decide) (by decide) (by decide) _) (H6.out.row 1 (stA s p) _ rfl).below
   ·have hlb:(le != 0)=true:=by rw[bne_iff_ne];exact hle
    have HLE:=Hq hle
    clear hle HK3 HK4 HRM HBF
    go_wp2_with (first|(with_reducible refine lL H3.out.get0 Tryz.underlying36 ?_)|(with_reducible refine lS (stA s p) H3.out.get1 ?_))
    refine bodyPost_ret (v:=.tuple #[.agg (stA s p),(),le]) (results_cell3 rfl _ _ rfl (load_whole (setRow_heap _ _ _ _ _ _ H3.out.get1) Tryz.underlying36 Kr Kr) rfl rfl) rfl ?_
    exact HK2.out HNO.out HLE.out _ (H3.out.row 1 (stA s p) _ rfl).below
  ·have hk0:(0:Int)≤(k:Int):=by omega
   have hki:(k:Int)<(fs.length:Int):=by omega
   have HAF:=Hq (atF_some hk hfk fun j hj hjk=>hfj j hjk)
   have hc:=show w2.cell? ⟨w.heap.size,11,none⟩=some (.slice p.F fs.length p.fc)from by rw[blkCell H2.out.get0,← HFN.out];rfl
   obtain⟨b,off,hpF,hcc,hbl,hcell⟩:=read_at frL_len (HP.out.fr.below H2.out.below) hk
   obtain⟨f,hfe⟩:=ex (fs[k])
   have HFE:=Hq hfe
   rw[← hfe]at hcell
   rw[hpF]at hc
   have HC0:=Hq (show w2.rangeAt b (off+k*5) (frL f)from hcell)
   clear hcell hcc hbl hpF hfe hfk hfj HRE HRM HK2 HK3 HK4 HBF
   go_upto_region 6 with(first
    |(refine listWants Kr fun K hK=>wp_load_mid 108 (.tmp 27) rfl b (off+k*5) rfl (frL f) _ HC0.out Tryz.underlying108 Kr Kr (hK _ _ ?_))
    |(with_reducible refine sN (frA f) ?_))
   have hb5:=allocB w2 (.cells (frA f) 108)
   have H5:=Hq (H2.out.step hb5)
   have HG5:=Hq (heap_alloc_new w2 (.cells (frA f) 108))
   have hlt:w.heap.size+1<w2.heap.size:=H2.out.lt (i:=1) (by simp)
   obtain⟨g,hg⟩:=ex w2.heap.size
   obtain⟨w5,hw5⟩:=ex (w2.alloc (.cells (frA f) 108))
   rw[← hg,← hw5]at HG5
   rw[← hw5]at H5
   rw[← hw5,← hg]
   rw[← hg]at hlt
   clear hw5 hg hb5 H2 hc
   try simp only[Act.put]
   have hcx:=show w5.cell? ⟨g,3,none⟩=some (.bool f.mark)from by rw[blkCell HG5.out];rfl
   have hzx:=blkFrozen HG5.out 3
   go_upto_region 7 with fail
   have HG6:=Hq (show(w5.setCell ⟨g,3,none⟩ (.bool true)).heap[g]? =some (.cells (frA {f with mark:=true}) 108 (0,0))from by have:=blkSet 3 HG5.out (.bool true);simpa using this)
   have H6:=Hq (H5.out.under (M:=g) (by simp;omega) ((Below.refl _ w5).setCell (p:=⟨g,3,none⟩) (Nat.le_refl _) (.bool true)))
   generalize w5.setCell ⟨g,3,none⟩ (.bool true)=w6 at HG6 H6 ⊢
   clear hcx hzx HG5 H5
   go_wp2_with (first
    |(with_reducible refine lL H6.out.get0 Tryz.underlying36 ?_)
    |(with_reducible refine lL HG6.out Tryz.underlying108 ?_)
    |(go_at_call 74;(refine(HWI.out k hk {f with mark:=true} _ H6.out.below).mono ?_);rintro e w7 ⟨q,rfl,hpq,hb7⟩;have H7:=Hq (H6.out.step hb7))
    |(with_reducible refine lS (stA s q) H7.out.get1 ?_))
   refine bodyPost_ret (v:=.tuple #[.agg (stA s q),.int .i64 (k:Int),()]) (results_cell3 rfl _ _ rfl (load_whole (setRow_heap _ _ _ _ _ _ H7.out.get1) Tryz.underlying36 Kr Kr) rfl rfl) rfl ?_
   have hfe:=HFE.out
   subst hfe
   exact HK1.out k HAF.out hk _ q (hpq.other (t:=36) H7.out.get1 (by decide) (by decide) (by decide) _) (H7.out.row 1 (stA s q) _ rfl).below
 ·rw[decide_eq_false hpg]at HHS
  have hh:¬ hasF s pg:=fun hn=>hpg ⟨hn.1,by have:=hn.2;omega⟩
  have HNO:=Hq (fun w' (hb:Below w.heap.size w w')=>show HdOut X w (.returned (.tuple #[storeV s p,(),.int .i64 1])) w' from by
   have e:X=(⟨s,fs,1⟩,0):=by rw[hX];unfold heldF;rw[if_pos hh]
   rw[e]
   exact⟨p,rfl,h.below hb,hb⟩)
  generalize HdOut X w=Q at HNO ⊢
  clear h hX hW hh hpg hnf hzp hfl
  go_enter Tryz.func44,Tryz.ntmps44
  go_upto_region 1 with fail
  have H0:=nW2 w (stA s p) 36 #[(),(),(),"s",(),false,(),(),(),(),"","s",(),"s",()] 36
  obtain⟨W0,hW0⟩:=exW H0
  rw[← hW0]at H0 ⊢
  clear hW0
  go_upto_region 2 with(first|(with_reducible refine lL H0.out.get0 Tryz.underlying36 ?_)|(go_at_call 75;(refine(HHS.out _).mono ?_);rintro e w1 ⟨rfl,hb1⟩;have H1:=Hq (H0.out.step hb1)))
  go_wp2_with (first|(with_reducible refine lL H1.out.get0 Tryz.underlying36 ?_)|(with_reducible refine lS (stA s p) H1.out.get1 ?_))
  refine bodyPost_ret (v:=.tuple #[.agg (stA s p),(),.int .i64 1]) (results_cell3 rfl _ _ rfl (load_whole (setRow_heap _ _ _ _ _ _ H1.out.get1) Tryz.underlying36 Kr Kr) rfl rfl) rfl ?_
  exact HNO.out _ (H1.out.row 1 (stA s p) _ rfl).below
theorem NewT.lt {n:Nat}{w:World}{T:TypeId}{A:Option Addr}(h:NewT n w T A):∀ ad,A=some ad→ad.block<w.heap.size:=fun ad e=>by
 obtain⟨_,cs,fr,h1⟩:=h ad e
 exact heapLt h1
def GtR (x:Px×ByteArray)(w:World)(e:Ending)(w':World):Prop:=∃ q:SP,e= .returned (.tuple #[storeV x.1.s q,x.2,x.1.e])∧PoolR w' x.1.s q x.1.fs∧Below w.heap.size w w'
theorem pfget_any {N n B:Nat}(s:Tx.St)(p:SP)(fs:List Fr)(hW:Wf N n B s fs)(hB:B≤1000000)(pg:Int)(w:World)(h:PoolR w s p fs):
 Calls Tryz.prog 13 #[storeV s p,pg] w (GtR (getF s fs pg) w):=by
 have HHE:=Hq (fun W (hb:Below w.heap.size w W)=>pfheld_any s p fs hW hB pg W (h.below hb))
 have hwf:=hW.held pg
 obtain⟨X,hX⟩:=ex (getF s fs pg)
 rw[← hX]
 have HK0:=Hq (fun(h0:(heldF s fs pg).1.e=0) w' (q:SP) (hp:PoolR w' (heldF s fs pg).1.s q (heldF s fs pg).1.fs) (hb:Below w.heap.size w w')=>show GtR X w (.returned (.tuple #[storeV (heldF s fs pg).1.s q,.string (frAt (heldF s fs pg).1.fs (heldF s fs pg).2).bytes,()])) w' from by
  have e:X=((heldF s fs pg).1,(frAt (heldF s fs pg).1.fs (heldF s fs pg).2).bytes):=by rw[hX];unfold getF;rw[if_pos h0]
  rw[e,← h0]
  exact⟨q,rfl,hp,hb⟩)
 have HK1:=Hq (fun(h0:¬ (heldF s fs pg).1.e=0) w' (q:SP) (hp:PoolR w' (heldF s fs pg).1.s q (heldF s fs pg).1.fs) (hb:Below w.heap.size w w')=>show GtR X w (.returned (.tuple #[storeV (heldF s fs pg).1.s q,"",.int .i64 (heldF s fs pg).1.e])) w' from by
  have e:X=((heldF s fs pg).1,⟨#[]⟩):=by rw[hX];unfold getF;rw[if_neg h0]
  rw[e]
  exact⟨q,rfl,hp,hb⟩)
 have hnf:=hW.nf
 clear hX hW h
 generalize GtR X w=Q at HK0 HK1 ⊢
 generalize heldF s fs pg=r at HHE HK0 HK1 hwf
 obtain⟨⟨xs,xfs,xe⟩,xk⟩:=r
 simp only at HHE HK0 HK1 hwf
 have hkl:xk<xfs.length:=by omega
 have hlen:xfs.length≤100:=by omega
 rw[frAt_eq hkl]at HK0
 clear hwf hnf
 go_enter Tryz.func13,Tryz.ntmps13
 go_upto_region 1 with fail
 have H0:=nW2 w (stA s p) 36 #[(),(),(),"s",(),false,(),(),(),(),"","s",(),"s",()] 36
 obtain⟨W0,hW0⟩:=exW H0
 rw[← hW0]at H0 ⊢
 clear hW0
 go_upto_region 2 with(first
  |(with_reducible refine lL H0.out.get0 Tryz.underlying36 ?_)
  |(go_at_call 44;(refine(HHE.out _ H0.out.below).mono ?_);rintro e w4 ⟨q,rfl,hp4,hb4⟩)
  |(with_reducible refine sN (stA xs q) ?_))
 have hb5:=hb4.trans ((allocB w4 (.cells (stA xs q) 36)).mono hb4.size)
 have H5:=Hq (H0.out.step hb5)
 have HG5:=Hq (heap_alloc_new w4 (.cells (stA xs q) 36))
 have HP5:=Hq (hp4.below (allocB w4 (.cells (stA xs q) 36)))
 have hlt:w.heap.size+1<w4.heap.size:=Nat.lt_of_lt_of_le (H0.out.lt (i:=1) (by simp)) hb4.size
 obtain⟨g,hg⟩:=ex w4.heap.size
 obtain⟨w5,hw5⟩:=ex (w4.alloc (.cells (stA xs q) 36))
 rw[← hg,← hw5]at HG5
 rw[← hw5]at H5 HP5
 rw[← hw5,← hg]
 rw[← hg]at hlt
 clear hw5 hg hb4 hb5 H0 HHE hp4
 try simp only[Act.put]
 by_cases hxe:xe=0
 ·have hxb:(xe != 0)=false:=by rw[hxe];rfl
  have HXE:=Hq hxe
  obtain⟨b,off,hpF,hcc,hbl,hcell⟩:=read_at frL_len HP5.out.fr hkl
  have hbt:=HP5.out.ft _ hpF
  have HX1:=hcell 1 (.string xfs[xk].bytes) rfl
  have HFN:=Hq HP5.out.fn
  have hk0:(0:Int)≤(xk:Int):=by omega
  have hki:(xk:Int)<(xfs.length:Int):=by omega
  have HPF:=Hq hpF
  have hb1:b≠w.heap.size+1:=fun e=>by
   obtain⟨_,cs,fr,h1⟩:=hbt
   have h2:=H5.out.get1
   rw[show(⟨b,off,none⟩:Addr).block=b from rfl,e,h2]at h1
   injection h1 with h1
   injection h1 with _ h1
   exact absurd h1 (by decide)
  have HB1:=Hq hb1
  generalize xfs[xk].bytes=fb at HX1 HK0
  clear hxe hcell hcc hbl hpF hbt hb1 HK1
  go_upto_region 4 with fail
  go_cut [5,6] (fun x y wc=>x= .string fb∧y= .int .i64 0∧wc.heap[w.heap.size+1]? =some (.cells (stA xs q) 36 (0,0))∧PoolR wc xs q xfs∧Below w.heap.size w wc)
  case first=>
   have hSn:w5.drew.heap[g]? =some (.cells (stA xs q) 36 (0,0))∧w5.drew.cell? ⟨b,off+xk*5+1,none⟩=some (.string fb):=⟨HG5.out,HX1⟩
   have H9:=H5.out.drew
   have hP9:=HP5.out.below (Below.refl _ w5).drew
   refine rgH (S:=(fun u=>u.heap[g]? =some (.cells (stA xs q) 36 (0,0))∧u.cell? ⟨b,off+xk*5+1,none⟩=some (.string fb))) (fun hHeld=>?_)
   generalize w5.drew=w9 at hSn H9 hP9 ⊢
   refine tkL 0 Tryz.underlying36 ?_
   refine tkP 1 ?_ (hy:=by
    intro u hSu;have hcl0:=show u.cell? ⟨g,11,none⟩=some (.slice (some ⟨b,off,none⟩) xfs.length q.fc)from(by rw[blkCell hSu.1,← HPF.out,← HFN.out];rfl);have hcl1:=hSu.2
    clear hSu;go_simp;(try with_reducible rfl))
   refine tkP 2 ?_ (hy:=by
    intro u hSu;have hcl0:=show u.cell? ⟨g,11,none⟩=some (.slice (some ⟨b,off,none⟩) xfs.length q.fc)from(by rw[blkCell hSu.1,← HPF.out,← HFN.out];rfl);have hcl1:=hSu.2
    clear hSu;go_simp;(try with_reducible rfl))
   refine tkP 3 ?_ (hy:=by
    intro u hSu;have hcl0:=show u.cell? ⟨g,11,none⟩=some (.slice (some ⟨b,off,none⟩) xfs.length q.fc)from(by rw[blkCell hSu.1,← HPF.out,← HFN.out];rfl);have hcl1:=hSu.2
    clear hSu;go_simp;(try with_reducible rfl))
   refine tkP 4 ?_ (hy:=by
    intro u hSu;have hcl0:=show u.cell? ⟨g,11,none⟩=some (.slice (some ⟨b,off,none⟩) xfs.length q.fc)from(by rw[blkCell hSu.1,← HPF.out,← HFN.out];rfl);have hcl1:=hSu.2
    clear hSu;go_simp;(try with_reducible rfl))
   refine tkP 5 ?_ (hy:=by
    intro u hSu;have hcl0:=show u.cell? ⟨g,11,none⟩=some (.slice (some ⟨b,off,none⟩) xfs.length q.fc)from(by rw[blkCell hSu.1,← HPF.out,← HFN.out];rfl);have hcl1:=hSu.2
    clear hSu;go_simp;(try with_reducible rfl))
   refine tkP 6 ?_ (hy:=by
    intro u hSu;have hcl0:=show u.cell? ⟨g,11,none⟩=some (.slice (some ⟨b,off,none⟩) xfs.length q.fc)from(by rw[blkCell hSu.1,← HPF.out,← HFN.out];rfl);have hcl1:=hSu.2
    clear hSu;go_simp;(try with_reducible rfl))
   refine tkP 7 ?_ (hy:=by
    intro u hSu;have hcl0:=show u.cell? ⟨g,11,none⟩=some (.slice (some ⟨b,off,none⟩) xfs.length q.fc)from(by rw[blkCell hSu.1,← HPF.out,← HFN.out];rfl);have hcl1:=hSu.2
    clear hSu;go_simp;(try with_reducible rfl))
   refine rdP 8 fun K hK=>?_
   refine wantedIf (by rfl) ?_
   refine sW (stA xs q) H9.get1 ?_
   have H10:=H9.row 1 (stA xs q) _ rfl
   have hP10:=hP9.other (t:=36) H9.get1 (by decide) (by decide) (by decide) (stA xs q)
   have hSm:=And.intro ((heap_setRow_other _ _ (stA xs q) _ (show g≠w.heap.size+1 by omega)).trans hSn.1) (cellOther (cs:=(stA xs q)) hSn.2 H9.get1 HB1.out)
   clear hSn
   have hSn:=hSm
   clear hSm
   refine hKo hK (fun hHeld=>?_)
   clear hK K
   refine tkP 9 ?_ (hy:=by
    intro u hSu;have hcl0:=show u.cell? ⟨g,11,none⟩=some (.slice (some ⟨b,off,none⟩) xfs.length q.fc)from(by rw[blkCell hSu.1,← HPF.out,← HFN.out];rfl);have hcl1:=hSu.2
    clear hSu;go_simp;(try with_reducible rfl))
   refine tkP 10 ?_ (hy:=by
    intro u hSu;have hcl0:=show u.cell? ⟨g,11,none⟩=some (.slice (some ⟨b,off,none⟩) xfs.length q.fc)from(by rw[blkCell hSu.1,← HPF.out,← HFN.out];rfl);have hcl1:=hSu.2
    clear hSu;go_simp;(try with_reducible rfl))
   refine wpAnyH_done Kr ?_ _
   clear hHeld
   go_wp2_with fail
   go_meet
   case rel=>exact⟨rfl,rfl,H10.get1,hP10,H10.below⟩
  case rest=>
   obtain⟨rfl,rfl,hs6,hp6,hb6⟩:=hcut
   go_wp2_with fail
   refine bodyPost_ret (v:=.tuple #[.agg (stA xs q),fb,()]) (results_cell3 rfl _ _ rfl (load_whole hs6 Tryz.underlying36 Kr Kr) rfl rfl) rfl ?_
   exact HK0.out HXE.out _ q hp6 hb6
 ·have hxb:(xe != 0)=true:=by rw[bne_iff_ne];exact hxe
  have HXE:=Hq hxe
  clear hxe HK0
  go_wp2_with (first|(with_reducible refine lL HG5.out Tryz.underlying36 ?_)|(with_reducible refine lS (stA xs q) H5.out.get1 ?_))
  refine bodyPost_ret (v:=.tuple #[.agg (stA xs q),"",xe]) (results_cell3 rfl _ _ rfl (load_whole (setRow_heap _ _ _ _ _ _ H5.out.get1) Tryz.underlying36 Kr Kr) rfl rfl) rfl ?_
  exact HK1.out HXE.out _ q (HP5.out.other (t:=36) H5.out.get1 (by decide) (by decide) (by decide) _) (H5.out.row 1 (stA xs q) _ rfl).below
theorem pfpin_any {N n B:Nat}(s:Tx.St)(p:SP)(fs:List Fr)(hW:Wf N n B s fs)(hB:B≤1000000)(pg:Int)(w:World)(h:PoolR w s p fs):
 Calls Tryz.prog 32 #[storeV s p,pg] w (StOut (pinF s fs pg) w):=by
 have HHE:=Hq (fun W (hb:Below w.heap.size w W)=>pfheld_any s p fs hW hB pg W (h.below hb))
 have hwf:=hW.held pg
 obtain⟨X,hX⟩:=ex (pinF s fs pg)
 rw[← hX]
 have HK0:=Hq (fun(h0:(heldF s fs pg).1.e=0) w' (q:SP) (hp:PoolR w' (heldF s fs pg).1.s q ((heldF s fs pg).1.fs.set (heldF s fs pg).2 {frAt (heldF s fs pg).1.fs (heldF s fs pg).2 with pins:=(frAt (heldF s fs pg).1.fs (heldF s fs pg).2).pins+1})) (hb:Below w.heap.size w w')=>show StOut X w (.returned (.tuple #[storeV (heldF s fs pg).1.s q,()])) w' from by
  have e:X=⟨(heldF s fs pg).1.s,(heldF s fs pg).1.fs.set (heldF s fs pg).2 {frAt (heldF s fs pg).1.fs (heldF s fs pg).2 with pins:=(frAt (heldF s fs pg).1.fs (heldF s fs pg).2).pins+1},0⟩:=by rw[hX];unfold pinF;rw[if_pos h0]
  rw[e]
  exact⟨q,rfl,hp,hb⟩)
 have HK1:=Hq (fun(h0:¬ (heldF s fs pg).1.e=0) w' (q:SP) (hp:PoolR w' (heldF s fs pg).1.s q (heldF s fs pg).1.fs) (hb:Below w.heap.size w w')=>show StOut X w (.returned (.tuple #[storeV (heldF s fs pg).1.s q,.int .i64 (heldF s fs pg).1.e])) w' from by
  have e:X=(heldF s fs pg).1:=by rw[hX];unfold pinF;rw[if_neg h0]
  rw[e]
  exact⟨q,rfl,hp,hb⟩)
 have hnf:=hW.nf
 clear hX hW h
 generalize StOut X w=Q at HK0 HK1 ⊢
 generalize heldF s fs pg=r at HHE HK0 HK1 hwf
 obtain⟨⟨xs,xfs,xe⟩,xk⟩:=r
 simp only at HHE HK0 HK1 hwf
 have hkl:xk<xfs.length:=by omega
 have hlen:xfs.length≤100:=by omega
 rw[frAt_eq hkl]at HK0
 have hpn:=(hwf.1.fr xk hkl).pn
 clear hwf hnf
 obtain⟨f,hfe⟩:=ex (xfs[xk])
 rw[← hfe]at HK0 hpn
 have HFE:=Hq hfe
 clear hfe
 go_enter Tryz.func32,Tryz.ntmps32
 go_upto_region 1 with fail
 have H0:=nW2 w (stA s p) 36 #[(),(),(),"s",(),false,(),(),(),(),"","s",(),"s",()] 36
 obtain⟨W0,hW0⟩:=exW H0
 rw[← hW0]at H0 ⊢
 clear hW0
 go_upto_region 2 with(first
  |(with_reducible refine lL H0.out.get0 Tryz.underlying36 ?_)
  |(go_at_call 44;(refine(HHE.out _ H0.out.below).mono ?_);rintro e w4 ⟨q,rfl,hp4,hb4⟩)
  |(with_reducible refine sN (stA xs q) ?_))
 have hb5:=hb4.trans ((allocB w4 (.cells (stA xs q) 36)).mono hb4.size)
 have H5:=Hq (H0.out.step hb5)
 have HG5:=Hq (heap_alloc_new w4 (.cells (stA xs q) 36))
 have HP5:=Hq (hp4.below (allocB w4 (.cells (stA xs q) 36)))
 have hlt:w.heap.size+1<w4.heap.size:=Nat.lt_of_lt_of_le (H0.out.lt (i:=1) (by simp)) hb4.size
 obtain⟨g,hg⟩:=ex w4.heap.size
 obtain⟨w5,hw5⟩:=ex (w4.alloc (.cells (stA xs q) 36))
 rw[← hg,← hw5]at HG5
 rw[← hw5]at H5 HP5
 rw[← hw5,← hg]
 rw[← hg]at hlt
 clear hw5 hg hb4 hb5 H0 HHE hp4
 try simp only[Act.put]
 by_cases hxe:xe=0
 ·have hxb:(xe != 0)=false:=by rw[hxe];rfl
  have HXE:=Hq hxe
  have hk0:(0:Int)≤(xk:Int):=by omega
  have hki:(xk:Int)<(xfs.length:Int):=by omega
  have hwp:IntKind.i64.wrap (f.pins+1)=f.pins+1:=IntWalk.i64_in _ (by omega)
  obtain⟨b,off,hpF,hcc,hbl,hcell⟩:=read_at frL_len HP5.out.fr hkl
  rw[← HFE.out]at hcell
  have hc:=show w5.cell? ⟨g,11,none⟩=some (.slice (some ⟨b,off,none⟩) xfs.length q.fc)from by rw[blkCell HG5.out,← hpF,← HP5.out.fn];rfl
  have HC0:=Hq (show w5.rangeAt b (off+xk*5) (frL f)from hcell)
  clear hxe hcell hcc hbl hpF HK1
  go_upto_region 5 with(first
   |(refine listWants Kr fun K hK=>wp_load_mid 108 (.tmp 25) rfl b (off+xk*5) rfl (frL f) _ HC0.out Tryz.underlying108 Kr Kr (hK _ _ ?_))
   |(with_reducible refine sN (frA f) ?_))
  have hb6:=allocB w5 (.cells (frA f) 108)
  have H6:=Hq (H5.out.step hb6)
  have HG6:=Hq (blkOld HG5.out hb6)
  have HF6:=Hq (heap_alloc_new w5 (.cells (frA f) 108))
  have HP6:=Hq (HP5.out.below hb6)
  have hlt2:g<w5.heap.size:=heapLt HG5.out
  obtain⟨g2,hg2⟩:=ex w5.heap.size
  obtain⟨w6,hw6⟩:=ex (w5.alloc (.cells (frA f) 108))
  rw[← hg2,← hw6]at HF6
  rw[← hw6]at H6 HG6 HP6
  rw[← hw6,← hg2]
  rw[← hg2]at hlt2
  have HNF:=Hq (show ∀ ad,q.F=some ad→ad.block≠g2 from fun ad e=>by
   have:=HP5.out.ft.lt ad e
   omega)
  clear hw6 hg2 hb6 HC0 H5 HG5 HP5 hc
  try simp only[Act.put]
  have hcx:=show w6.cell? ⟨g2,2,none⟩=some (.int .i64 f.pins)from by rw[blkCell HF6.out];rfl
  have hzx:=blkFrozen HF6.out 2
  go_upto_region 6 with fail
  have HF7:=Hq (show(w6.setCell ⟨g2,2,none⟩ (.int .i64 (f.pins+1))).heap[g2]? =some (.cells (frA {f with pins:=f.pins+1}) 108 (0,0))from by have:=blkSet 2 HF6.out (.int .i64 (f.pins+1));simpa using this)
  have H7:=Hq (H6.out.under (M:=g2) (by simp;omega) ((Below.refl _ w6).setCell (p:=⟨g2,2,none⟩) (Nat.le_refl _) (.int .i64 (f.pins+1))))
  have HG7:=Hq (show(w6.setCell ⟨g2,2,none⟩ (.int .i64 (f.pins+1))).heap[g]? =_ from(((show Below g2 w6 w6 from⟨rfl,rfl,rfl,Nat.le_refl _,fun _ _=>rfl⟩).setCell (p:=⟨g2,2,none⟩) (Nat.le_refl _) (.int .i64 (f.pins+1))).block g hlt2).trans HG6.out)
  have HP7:=Hq (HP6.out.own HF6.out HNF.out 2 (.int .i64 (f.pins+1)))
  have HWI:=Hq (fun W (hp:PoolR W xs q xfs)=>pwith_any xs q xfs hlen xk hkl {f with pins:=f.pins+1} W hp)
  generalize w6.setCell ⟨g2,2,none⟩ (.int .i64 (f.pins+1))=w7 at HF7 H7 HG7 HP7 ⊢
  clear hcx hzx H6 HG6 HF6 HP6 hpn hwp
  try simp only[Act.put]
  go_wp2_with (first
   |(with_reducible refine lL HG7.out Tryz.underlying36 ?_)
   |(with_reducible refine lL HF7.out Tryz.underlying108 ?_)
   |(go_at_call 74;(refine(HWI.out _ HP7.out).mono ?_);rintro e w8 ⟨q8,rfl,hp8,hb8⟩;have H8:=Hq (H7.out.step hb8))
   |(with_reducible refine lS (stA xs q8) H8.out.get1 ?_))
  refine bodyPost_ret (v:=.tuple #[.agg (stA xs q8),()]) (results_cell2 rfl _ _ rfl (load_whole (setRow_heap _ _ _ _ _ _ H8.out.get1) Tryz.underlying36 Kr Kr) rfl) rfl ?_
  have hfe:=HFE.out
  exact HK0.out HXE.out _ q8 (hp8.other (t:=36) H8.out.get1 (by decide) (by decide) (by decide) _) (H8.out.row 1 (stA xs q8) _ rfl).below
 ·have hxb:(xe != 0)=true:=by rw[bne_iff_ne];exact hxe
  have HXE:=Hq hxe
  clear hxe HK0
  go_wp2_with (first|(with_reducible refine lL HG5.out Tryz.underlying36 ?_)|(with_reducible refine lS (stA xs q) H5.out.get1 ?_))
  refine bodyPost_ret (v:=.tuple #[.agg (stA xs q),xe]) (results_cell2 rfl _ _ rfl (load_whole (setRow_heap _ _ _ _ _ _ H5.out.get1) Tryz.underlying36 Kr Kr) rfl) rfl ?_
  exact HK1.out HXE.out _ q (HP5.out.other (t:=36) H5.out.get1 (by decide) (by decide) (by decide) _) (H5.out.row 1 (stA xs q) _ rfl).below
theorem pfunpin_any {N n B:Nat}(s:Tx.St)(p:SP)(fs:List Fr)(hW:Wf N n B s fs)(hB:B≤1000000)(pg:Int)(w:World)(h:PoolR w s p fs):
 Calls Tryz.prog 33 #[storeV s p,pg] w (StOut (unpinF s fs pg) w):=by
 have hnf:=hW.nf
 have hfl:fs.length≤100:=by omega
 have hzp:=hW.zp
 have HHS:=Hq (fun W=>phas_any s p n hW.zp pg W)
 have HAT:=Hq (fun W (hb:Below w.heap.size w W)=>pat_any s p fs (by omega) pg W (h.below hb))
 have HWI:=Hq (fun k hk f W (hb:Below w.heap.size w W)=>pwith_any s p fs hfl k hk f W (h.below hb))
 have HPN:=Hq (fun k (hk:k<fs.length)=>(hW.fr k hk).pn)
 have HFN:=Hq h.fn
 have HP:=Hq h
 obtain⟨X,hX⟩:=ex (unpinF s fs pg)
 rw[← hX]
 by_cases hpg:0≤pg∧pg<(n:Int)
 ·rw[decide_eq_true hpg]at HHS
  have hh:hasF s pg:=⟨hpg.1,by omega⟩
  have HK1:=Hq (fun(ha:atF fs pg=none) w' (hb:Below w.heap.size w w')=>show StOut X w (.returned (.tuple #[storeV s p,.int .i64 21])) w' from by
   have e:X=⟨s,fs,21⟩:=by rw[hX];unfold unpinF;rw[if_neg (fun hn=>hn hh),ha]
   rw[e]
   exact⟨p,rfl,h.below hb,hb⟩)
  have HK2:=Hq (fun k (ha:atF fs pg=some k) (hk:k<fs.length) (h0:fs[k].pins≤0) w' (hb:Below w.heap.size w w')=>show StOut X w (.returned (.tuple #[storeV s p,.int .i64 21])) w' from by
   have e:X=⟨s,fs,21⟩:=by rw[hX];unfold unpinF;rw[if_neg (fun hn=>hn hh),ha];simp only;rw[frAt_eq hk,if_pos h0]
   rw[e]
   exact⟨p,rfl,h.below hb,hb⟩)
  have HK3:=Hq (fun k (ha:atF fs pg=some k) (hk:k<fs.length) (h0:¬ fs[k].pins≤0) w' (q:SP) (hp:PoolR w' s q (fs.set k {fs[k]with pins:=fs[k].pins-1})) (hb:Below w.heap.size w w')=>show StOut X w (.returned (.tuple #[storeV s q,()])) w' from by
   have e:X=⟨s,fs.set k {fs[k]with pins:=fs[k].pins-1},0⟩:=by rw[hX];unfold unpinF;rw[if_neg (fun hn=>hn hh),ha];simp only;rw[frAt_eq hk,if_neg h0]
   rw[e]
   exact⟨q,rfl,hp,hb⟩)
  clear hX hW hh h hnf hzp hpg
  generalize StOut X w=Q at HK1 HK2 HK3 ⊢
  go_enter Tryz.func33,Tryz.ntmps33
  go_upto_region 1 with fail
  have H0:=nW2 w (stA s p) 36 #[(),(),(),"s",(),false,(),(),(),(),"","s",(),"s",()] 36
  obtain⟨W0,hW0⟩:=exW H0
  rw[← hW0]at H0 ⊢
  clear hW0
  go_upto_region 3 with(first|(with_reducible refine lL H0.out.get0 Tryz.underlying36 ?_)|(go_at_call 75;(refine(HHS.out _).mono ?_);rintro e w1 ⟨rfl,hb1⟩;have H1:=Hq (H0.out.step hb1)))
  go_upto_region 4 with(first|(with_reducible refine lL H1.out.get0 Tryz.underlying36 ?_)|(go_at_call 14;(refine(HAT.out _ H1.out.below).mono ?_);rintro e w2 ⟨kk,rfl,hq,hb2⟩;have H2:=Hq (H1.out.step hb2)))
  clear hb1 hb2 H0 H1 HHS HAT
  rcases hq with⟨rfl,hq⟩|⟨k,hk,rfl,hfk,hfj⟩
  ·have hm1:(-1:Int)<0:=by decide
   have HNO:=Hq (atF_none hq)
   clear hq HWI HK2 HK3
   go_wp2_with (first|(with_reducible refine lL H2.out.get0 Tryz.underlying36 ?_)|(with_reducible refine lS (stA s p) H2.out.get1 ?_))
   refine bodyPost_ret (v:=.tuple #[.agg (stA s p),.int .i64 21]) (results_cell2 rfl _ _ rfl (load_whole (setRow_heap _ _ _ _ _ _ H2.out.get1) Tryz.underlying36 Kr Kr) rfl) rfl ?_
   exact HK1.out HNO.out _ (H2.out.row 1 (stA s p) _ rfl).below
  ·have hk0:(0:Int)≤(k:Int):=by omega
   have hkn:¬ (k:Int)<0:=by omega
   have hki:(k:Int)<(fs.length:Int):=by omega
   have HAF:=Hq (atF_some hk hfk fun j hj hjk=>hfj j hjk)
   have hpn:=HPN.out k hk
   obtain⟨b,off,hpF,hcc,hbl,hcell⟩:=read_at frL_len (HP.out.fr.below H2.out.below) hk
   have hc:=show w2.cell? ⟨w.heap.size,11,none⟩=some (.slice (some ⟨b,off,none⟩) fs.length p.fc)from by rw[blkCell H2.out.get0,← hpF,← HFN.out];rfl
   have HK2k:=Hq (HK2.out k HAF.out hk)
   have HK3k:=Hq (HK3.out k HAF.out hk)
   have HWK:=Hq (fun f W hb=>HWI.out k hk f W hb)
   obtain⟨f,hfe⟩:=ex (fs[k])
   rw[← hfe]at hcell hpn HK2k HK3k
   have HC0:=Hq (show w2.rangeAt b (off+k*5) (frL f)from hcell)
   have hcp:=show w2.cell? ⟨b,off+k*5+2,none⟩=some (.int .i64 f.pins)from hcell 2 _ rfl
   clear hcell hcc hbl hpF hfk hfj HK1 HK2 HK3 HWI HPN hfe
   by_cases hp0:f.pins≤0
   ·have HP0:=Hq hp0
    go_wp2_with (first|(with_reducible refine lL H2.out.get0 Tryz.underlying36 ?_)|(with_reducible refine lS (stA s p) H2.out.get1 ?_))
    refine bodyPost_ret (v:=.tuple #[.agg (stA s p),.int .i64 21]) (results_cell2 rfl _ _ rfl (load_whole (setRow_heap _ _ _ _ _ _ H2.out.get1) Tryz.underlying36 Kr Kr) rfl) rfl ?_
    exact HK2k.out HP0.out _ (H2.out.row 1 (stA s p) _ rfl).below
   ·have HP0:=Hq hp0
    have hwp:IntKind.i64.wrap (f.pins-1)=f.pins-1:=IntWalk.i64_in _ (by omega)
    go_upto_region 6 with fail
    clear hcp
    go_upto_region 7 with(first
     |(refine listWants Kr fun K hK=>wp_load_mid 108 (.tmp 33) rfl b (off+k*5) rfl (frL f) _ HC0.out Tryz.underlying108 Kr Kr (hK _ _ ?_))
     |(with_reducible refine sN (frA f) ?_))
    have hb5:=allocB w2 (.cells (frA f) 108)
    have H5:=Hq (H2.out.step hb5)
    have HG5:=Hq (heap_alloc_new w2 (.cells (frA f) 108))
    have hlt:w.heap.size+1<w2.heap.size:=H2.out.lt (i:=1) (by simp)
    obtain⟨g,hg⟩:=ex w2.heap.size
    obtain⟨w5,hw5⟩:=ex (w2.alloc (.cells (frA f) 108))
    rw[← hg,← hw5]at HG5
    rw[← hw5]at H5
    rw[← hw5,← hg]
    rw[← hg]at hlt
    clear hw5 hg hb5 H2 hc
    try simp only[Act.put]
    have hcx:=show w5.cell? ⟨g,2,none⟩=some (.int .i64 f.pins)from by rw[blkCell HG5.out];rfl
    have hzx:=blkFrozen HG5.out 2
    go_upto_region 8 with fail
    have HG6:=Hq (show(w5.setCell ⟨g,2,none⟩ (.int .i64 (f.pins-1))).heap[g]? =some (.cells (frA {f with pins:=f.pins-1}) 108 (0,0))from by have:=blkSet 2 HG5.out (.int .i64 (f.pins-1));simpa using this)
    have H6:=Hq (H5.out.under (M:=g) (by simp;omega) ((Below.refl _ w5).setCell (p:=⟨g,2,none⟩) (Nat.le_refl _) (.int .i64 (f.pins-1))))
    generalize w5.setCell ⟨g,2,none⟩ (.int .i64 (f.pins-1))=w6 at HG6 H6 ⊢
    clear hcx hzx HG5 H5 hwp hp0
    go_wp2_with (first
     |(with_reducible refine lL H6.out.get0 Tryz.underlying36 ?_)
     |(with_reducible refine lL HG6.out Tryz.underlying108 ?_)
     |(go_at_call 74;(refine(HWK.out {f with pins:=f.pins-1} _ H6.out.below).mono ?_);rintro e w7 ⟨q,rfl,hpq,hb7⟩;have H7:=Hq (H6.out.step hb7))
     |(with_reducible refine lS (stA s q) H7.out.get1 ?_))
    refine bodyPost_ret (v:=.tuple #[.agg (stA s q),()]) (results_cell2 rfl _ _ rfl (load_whole (setRow_heap _ _ _ _ _ _ H7.out.get1) Tryz.underlying36 Kr Kr) rfl) rfl ?_
    exact HK3k.out HP0.out _ q (hpq.other (t:=36) H7.out.get1 (by decide) (by decide) (by decide) _) (H7.out.row 1 (stA s q) _ rfl).below
 ·rw[decide_eq_false hpg]at HHS
  have hh:¬ hasF s pg:=fun hn=>hpg ⟨hn.1,by have:=hn.2;omega⟩
  have HNO:=Hq (fun w' (hb:Below w.heap.size w w')=>show StOut X w (.returned (.tuple #[storeV s p,.int .i64 1])) w' from by
   have e:X=⟨s,fs,1⟩:=by rw[hX];unfold unpinF;rw[if_pos hh]
   rw[e]
   exact⟨p,rfl,h.below hb,hb⟩)
  generalize StOut X w=Q at HNO ⊢
  clear h hX hW hh hpg hnf hzp hfl HAT HWI HPN HFN HP
  go_enter Tryz.func33,Tryz.ntmps33
  go_upto_region 1 with fail
  have H0:=nW2 w (stA s p) 36 #[(),(),(),"s",(),false,(),(),(),(),"","s",(),"s",()] 36
  obtain⟨W0,hW0⟩:=exW H0
  rw[← hW0]at H0 ⊢
  clear hW0
  go_upto_region 2 with(first|(with_reducible refine lL H0.out.get0 Tryz.underlying36 ?_)|(go_at_call 75;(refine(HHS.out _).mono ?_);rintro e w1 ⟨rfl,hb1⟩;have H1:=Hq (H0.out.step hb1)))
  go_wp2_with (first|(with_reducible refine lL H1.out.get0 Tryz.underlying36 ?_)|(with_reducible refine lS (stA s p) H1.out.get1 ?_))
  refine bodyPost_ret (v:=.tuple #[.agg (stA s p),.int .i64 1]) (results_cell2 rfl _ _ rfl (load_whole (setRow_heap _ _ _ _ _ _ H1.out.get1) Tryz.underlying36 Kr Kr) rfl) rfl ?_
  exact HNO.out _ (H1.out.row 1 (stA s p) _ rfl).below
end Go.Proofs.YtmfkhdhnbkambaaGreatDoor
