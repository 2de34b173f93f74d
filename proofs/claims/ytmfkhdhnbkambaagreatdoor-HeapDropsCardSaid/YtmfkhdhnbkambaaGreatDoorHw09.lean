import Derived.Test.YtmfkhdhnbkambaaGreatDoorHw00
import Derived.Test.YtmfkhdhnbkambaaGreatDoorHw08
import Derived.Test.YtmfkhdhnbkambaaGreatDoorHw07
import Derived.Test.YtmfkhdhnbkambaaGreatDoorHw01
import Derived.Test.YtmfkhdhnbkambaaGreatDoorHw02
set_option maxRecDepth 100000
set_option maxHeartbeats 16000000
set_option linter.unusedSimpArgs false
namespace Go.Proofs.YtmfkhdhnbkambaaGreatDoor
open Go.RowKit Sc
theorem tD {α:Type}{enc:α→List Value}{k:Nat}{e:TypeId}{B g c:Nat}{w:World}{l:List α}(hk:∀ x,(enc x).length=k)(o:Dt enc k e B w (.slice (some ⟨g,0,none⟩) l.length c) l)(i:Nat)(hi:i<l.length)(x:α)(j:Nat)(A:j<k)(v:Value)(q:∀ t,t<k→(enc x)[t]? =if t=j then some v else(enc l[i])[t]?):
 w.frozen? ⟨g,i*k+j,none⟩=false∧Dt enc k e B (w.setCell ⟨g,i*k+j,none⟩ v) (.slice (some ⟨g,0,none⟩) (l.set i x).length c) (l.set i x)∧Below B w (w.setCell ⟨g,i*k+j,none⟩ v):=by
 obtain⟨cur,b,C,d,f,s,u,m⟩:=Xf o;have y:i*k+k≤l.length*k:=by have:=Nat.mul_le_mul_right k (show i+1≤l.length from hi);rwa[Nat.add_mul,Nat.one_mul]at this
 have z:l.length*k≤c*k:=Nat.mul_le_mul_right _ f;refine⟨Ap d _,pK hk b (Cp (i*k+j) d v) (by rw[List.length_set];exact f) s (by rw[Array.size_setIfInBounds];exact u) (fun t h=>?_),(show Below B w w from⟨rfl,rfl,rfl,Nat.le_refl _,fun _ _=>rfl⟩).setCell (p:=⟨g,i*k+j,none⟩) b v⟩;rw[List.length_set]at h;rw[Z9 hk l i hi x t,Array.getElem?_setIfInBounds]
 by_cases a:i*k≤t∧t<i*k+k
 ·rw[if_pos a]
  obtain⟨r,rfl⟩:∃ r,t=i*k+r:=⟨t-i*k,by omega⟩;rw[Nat.add_sub_cancel_left,q r (by omega)]
  by_cases n:r=j
  ·subst n;rw[if_pos rfl,if_pos (by omega),if_pos rfl]
  ·rw[if_neg (by omega),if_neg n,m _ h,Jt hk l i r hi (by omega)]
 ·rw[if_neg a,if_neg (by omega),m t h]
def dV (s:Tx.St)(fs:List Fr)(w:World)(e:Ending)(w':World):Prop:=
 ∃ (x:Int) (q:SP) (fs':List Fr) (k:Nat),e= .returned (.tuple #[Ah {s with hand:=x} q,.int .i64 (k:Int)])∧(0≤x∧x≤64)∧k<fs.length∧Ti fs fs'∧Am w' {s with hand:=x} q fs'∧Bw w w'
theorem aI {N n:Nat}(s:Tx.St)(p:SP)(fs:List Fr)(C:Nat→ByteArray)(hI:PI N n s fs C)(w:World)(h:Am w s p fs):
 Cq 147 #[Ah s p] w (dV s fs w):=by
 have b6:=hI.nf;have ar:=hI.hd;have au:=Hq (fun i (hi:i<fs.length)=>hI.fr.pin i hi);have HP:=Hq h;have a7:=Hq h.fn;have a8:=Hq (fun W (hb:Bw w W)=>Th fs (by omega) p.F p.fc W (h.fr.below hb));have aa:=Hq (fun(x:Int) (q:SP) (fs':List Fr) (k:Nat) w' (hx:0≤x∧x≤64) (hk:k<fs.length) (hm:Ti fs fs') (hp:Am w' {s with hand:=x} q fs') (hb:Bw w w')=>show dV s fs w (.returned (.tuple #[Ah {s with hand:=x} q,.int .i64 (k:Int)])) w' from⟨x,q,fs',k,rfl,hx,hk,hm,hp,hb⟩);generalize dV s fs w=Q at aa ⊢;clear h hI;have b7:((fs.length:Int)==0)=false:=beq_eq_false_iff_ne.2 (by omega);have b8:(fs.length:Int)≠0:=by omega
 have ad:(0:Int)<(fs.length:Int):=by omega
 obtain⟨m,hm⟩:=ex (Int.tmod s.hand (fs.length:Int));have b9:0≤m∧m<(fs.length:Int):=by rw[hm];exact⟨Int.tmod_nonneg _ ar.1,Int.tmod_lt_of_pos _ ad⟩
 have ba:Int.tmod s.hand (fs.length:Int)=m:=hm.symm;have bb:IntKind.i64.wrap m=m:=IntWalk.i64_in _ (by omega);have bc:IntKind.i64.wrap (m+(fs.length:Int))=m+(fs.length:Int):=IntWalk.i64_in _ (by omega);obtain⟨a,ha⟩:∃ a:Nat,(a:Int)=Int.tmod (m+(fs.length:Int)) (fs.length:Int):=⟨(Int.tmod (m+(fs.length:Int)) (fs.length:Int)).toNat,Int.toNat_of_nonneg (Int.tmod_nonneg _ (by omega))⟩;have bd:(a:Int)<(fs.length:Int):=by rw[ha];exact Int.tmod_lt_of_pos _ ad
 have bf:Int.tmod (m+(fs.length:Int)) (fs.length:Int)=(a:Int):=ha.symm;have bg:IntKind.i64.wrap (a:Int)=(a:Int):=IntWalk.i64_in _ (by omega);have bh:IntKind.i64.wrap (2*(fs.length:Int))=2*(fs.length:Int):=IntWalk.i64_in _ (by omega);clear hm ha;go_enter Tryz.func147,Tryz.ntmps147;go_upto_region 1 with fail;have O:=Lx w (Ak s p) 36 #[(),(),(),"s",(),false,(),(),(),(),"","s",(),"s",()] 36;obtain⟨W0,ae⟩:=E0 O;rw[← ae]at O ⊢;clear ae;have hc:=show W0.cell? ⟨w.heap.size,11,none⟩=some (.slice p.F fs.length p.fc)from by rw[Aa O.out.Ao,← a7.out];rfl
 go_upto_region 3 with(go_at_call 124;refine(a8.out _ O.out.below).mono ?_;rintro e w1 ⟨v,rfl,ho,o⟩;obtain⟨g,c2,rfl,av⟩:=J3 ho (by omega);have H1:=Hq (O.out.step o);have y:=show w1.cell? ⟨w.heap.size,11,none⟩=some (.slice p.F fs.length p.fc)from(by rw[Aa H1.out.Ao,← a7.out];rfl);have z:=Ap H1.out.Ao 11)
 have S:w.heap.size<W0.heap.size:=by have:=O.out.lt (i:=0) (by simp);omega
 have hM:w.heap.size+2≤W0.heap.size:=O.out.lt (i:=1) (by simp);have H2:=Hq (show Eg w.heap.size w [((Ak s {p with F:=some ⟨g,0,none⟩,fn:=fs.length,fc:=c2}),36),(#[(),(),(),"s",(),false,(),(),(),(),"","s",(),"s",()],36)] (w1.setCell ⟨w.heap.size,11,none⟩ (.slice (some ⟨g,0,none⟩) fs.length c2))from by have h:=H1.out.set 0 11 (.slice (some ⟨g,0,none⟩) fs.length c2) _ rfl;simpa using h);have T:=Hq (J9 ho ⟨w.heap.size,11,none⟩ (.slice (some ⟨g,0,none⟩) fs.length c2) S);generalize w1.setCell ⟨w.heap.size,11,none⟩ (.slice (some ⟨g,0,none⟩) fs.length c2)=w2 at H2 T ⊢;have bj:=show w2.cell? ⟨w.heap.size,12,none⟩=some (.int .i64 s.hand)from by rw[Aa H2.out.Ao];rfl
 clear hc y z H1 O a8 ho o;generalize W0.heap.size=B at T av S hM
 try simp only[Act.put]
 go_wp2_with fail
 go_loopw [34,5] (fun i x wr=>∃ (k:Nat) (fs':List Fr),k≤fs.length∧i= .int .i64 (k:Int)∧x= .int .i64 (((a+k)%fs'.length:Nat):Int)∧sU a k fs fs'∧Eg w.heap.size w [((Ak s {p with F:=some ⟨g,0,none⟩,fn:=fs.length,fc:=c2}),36),(#[(),(),(),"s",(),false,(),(),(),(),"","s",(),"s",()],36)] wr∧wr.ownsRow B 108 5 (.slice (some ⟨g,0,none⟩) fs.length c2) fs.length (fs'.flatMap Kw)) (fun i _ _=>2*fs.length-(intOf i).toNat)
 case atStart=>exact⟨0,fs,Nat.zero_le _,rfl,by rw[Nat.add_zero,Nat.mod_eq_of_lt (by omega)],sV a fs,H2.out,T.out⟩
 case round=>
  obtain⟨k,fs',hk,rfl,rfl,d,af,ag⟩:=hrel;have E:=d.mr.len;have bk:(0:Int)≤(k:Int):=by omega
  have bl:(k:Int)<2*(fs.length:Int):=by omega
  have bm:IntKind.i64.wrap ((k:Int)+1)=(k:Int)+1:=IntWalk.i64_in _ (by omega);have G:(a+k)%fs'.length<fs'.length:=Nat.mod_lt _ (by omega);have ah:=pN a k fs'.length;have aw:(a+(k+1))%fs'.length<fs'.length:=Nat.mod_lt _ (by omega);have A:=fun(h1:k=fs.length)=>d.vI (by omega) E.symm h1 G;have U:Dt Kw 5 108 B wr (.slice (some ⟨g,0,none⟩) fs'.length c2) fs':=by unfold Dt;rw[E];exact ag
  have ai:=Hq (fun(G:(a+k)%fs'.length<fs'.length)=>d.step G);have ax:=Hq d.mr;have aj:=Hq af;have HO:=Hq U;have j:fs'[(a+k)%fs'.length].pins=0:=by rw[d.mr.at_ _ (by omega) G];exact au.out _ (by omega)
  have ak:Int.tmod ((((a+k)%fs'.length:Nat):Int)+1) (fs.length:Int)=(((a+(k+1))%fs'.length:Nat):Int):=by
   rw[← ah,← E];exact Int.tmod_eq_emod_of_nonneg (by omega)
  generalize bn:(a+k)%fs'.length=q at G A j ak ai;generalize al:(a+(k+1))%fs'.length=r at aw ak ⊢;have ay:=Hq al;clear al;obtain⟨b,off,l,az,b0,c⟩:=Bz Eb (Cz U) G
  injection l with l
  injection l with o V _
  subst o V;rw[Nat.zero_add]at c;have X:=Hq (show wr.rangeAt g (q*5) (Kw fs'[q])from c);obtain⟨f,Y⟩:=ex (fs'[q]);rw[← Y]at X A j;have b1:=Hq Y;have HL:=Hq E;have b5:(0:Int)≤(q:Int):=by omega
  have bo:(q:Int)<(fs.length:Int):=by omega
  have bp:IntKind.i64.wrap ((q:Int)+1)=(q:Int)+1:=IntWalk.i64_in _ (by omega);have bq:IntKind.i64.wrap (r:Int)=(r:Int):=IntWalk.i64_in _ (by omega);have b2:=Hq (show(0:Int)≤(r:Int)∧(r:Int)≤64 from by omega);clear d af ag U c az ah Y E b0
  go_upto_region 9 with(first
   |(refine Da Kr fun K hK=>wp_load_mid 108 (.tmp 38) rfl g (q*5) rfl (Kw f) _ X.out Gy Kr Kr (hK _ _ ?_))
   |with_reducible refine sN (Fs f) ?_)
  have H5:=Hq (aj.out.step (Ac wr (.cells (Fs f) 108)));have H:=Hq (heap_alloc_new wr (.cells (Fs f) 108));have I:=Hq (Bg HO.out (Ac wr (.cells (Fs f) 108)));obtain⟨g6,hg⟩:=ex wr.heap.size;obtain⟨P,J⟩:=ex (wr.alloc (.cells (Fs f) 108));rw[← hg,← J]at H;rw[← J]at H5 I;rw[← J,← hg];clear J hg aj X HO
  try simp only[Act.put]
  have an:=show P.cell? ⟨g6,2,none⟩=some (.int .i64 0)from by rw[Aa H.out,← j];rfl
  cases u:f.mark with
  |false=>
   have Z:=show P.cell? ⟨g6,3,none⟩=some (.bool false)from(by rw[Aa H.out,← u];rfl);have y:=show P.cell? ⟨w.heap.size,12,none⟩=some (.int .i64 s.hand)from(by rw[Aa H5.out.Ao];rfl);have z:=Ap H5.out.Ao 12;clear u j A;go_upto_region 12 with fail;have R:=Hq (show Eg w.heap.size w [((Ak {s with hand:=((r:Nat):Int)} {p with F:=some ⟨g,0,none⟩,fn:=fs.length,fc:=c2}),36),(#[(),(),(),"s",(),false,(),(),(),(),"","s",(),"s",()],36)] (P.setCell ⟨w.heap.size,12,none⟩ (.int .i64 (r:Int)))from by have h:=H5.out.set 0 12 (.int .i64 (r:Int)) _ rfl;simpa using h);have D:=Hq (J9 I.out ⟨w.heap.size,12,none⟩ (.int .i64 (r:Int)) S);generalize P.setCell ⟨w.heap.size,12,none⟩ (.int .i64 (r:Int))=w6 at R D ⊢;clear an Z y z
   go_wp2_with(first|with_reducible refine lL R.out.Ao Ar ?_|(with_reducible refine lS (Ak {s with hand:=((r:Nat):Int)} {p with F:=some ⟨g,0,none⟩,fn:=fs.length,fc:=c2}) R.out.Aq ?_))
   refine rT2 (.int .i64 (q:Int)) R.out.Aq Ar ?_;have HB:=(R.out.row 1 (Ak {s with hand:=((r:Nat):Int)} {p with F:=some ⟨g,0,none⟩,fn:=fs.length,fc:=c2}) _ rfl).below;have L:=HP.out.below HB;have a1:=He D.out (w.heap.size+1) (Ak {s with hand:=((r:Nat):Int)} {p with F:=some ⟨g,0,none⟩,fn:=fs.length,fc:=c2}) (by omega);have E:=HL.out;refine aa.out (r:Int) {p with F:=some ⟨g,0,none⟩,fn:=fs.length,fc:=c2} fs' q _ b2.out (by omega) ax.out ⟨⟨L.st.dk,L.st.dt,L.st.tx,L.st.tt⟩,E.symm,?_,(De.own a1).mono (Nat.zero_le _)⟩ HB;rw[E];rw[E]at a1;exact Cz a1
  |true=>
   have Z:=show P.cell? ⟨g6,3,none⟩=some (.bool true)from(by rw[Aa H.out,← u];rfl);have br:k≠fs.length:=fun e=>by have:=A e;rw[u]at this;cases this
   obtain⟨z,ao,aq⟩:=tD Eb I.out q G {fs'[q]with mark:=false} 3 (by decide) (.bool false) (by
    intro t ht;have:t=0∨t=1∨t=2∨t=3∨t=4:=(by omega);rcases this with rfl|rfl|rfl|rfl|rfl<;>rfl)
   have y:P.cell? ⟨g,q*5+3,none⟩=some (.bool true):=by
    obtain⟨b,off,l,_,_,c⟩:=Bz Eb (Cz I.out) G
    injection l with l
    injection l with o V _
    subst o V;have h3:=c 3 (.bool true) (by rw[← b1.out,← u];rfl);rw[Nat.zero_add]at h3;exact h3
   clear u j A;go_upto_region 15 with fail;have R:=Hq (H5.out.under (M:=B) (by simp;omega) aq);have D:=Hq ao;generalize P.setCell ⟨g,q*5+3,none⟩ (.bool false)=w6 at R D ⊢;clear an Z y z ao aq
   try simp only[Act.put]
   go_wp2_with fail;go_roundw
   case rel=>
    have a6:=ai.out G;have h6:=D.out;generalize hF:fs'.set q {fs'[q]with mark:=false}=F2 at a6 h6;have b3:F2.length=fs'.length:=(by rw[← hF,List.length_set]);have b4:=a6.mr.len;unfold Dt at h6;rw[b4]at h6;exact⟨k+1,F2,by omega,by go_num,by rw[b3,ay.out],a6,R.out,h6⟩
   case measure=>simp[intOf];omega
end Go.Proofs.YtmfkhdhnbkambaaGreatDoor
namespace Sc
open Rc Lg Ck
def Lp (d:Dk)(a:Nat)(b:ByteArray):Nat→Dk
 |0=>d
 |k+1=>{Lp d a b k with sectors:=(Lp d a b k).sectors.set (a+k) (Gq b k)}
theorem Xk {N M:Nat}{d:Dk}{g:Lo}(h:Pw N M d g){a:Nat}{b:ByteArray}(c:b.size=512)(f:1+N≤a)(e:a+4≤M):∀ k,k≤4→Pw N M (Lp d a b k) g:=by
 intro k
 induction k with
 |zero=>intro _;exact h
 |succ k ih=>intro hk;exact((ih (by omega)).write (Fi c (by omega)) (i:=a+k) (by omega) (by omega)).2
theorem tE {N M:Nat}{d:Dk}{g:Lo}(h:Pw N M d g){a:Nat}{b:ByteArray}(e:b.size=512)(j:1+N≤a)(c:a+4≤M){k:Nat}(hk:k<4):C6 (Lp d a b k) ((a:Int)+(k:Int)) (Gq b k)=(Lp d a b (k+1),0):=by
 have f:=((Xk h e j c k (by omega)).write (Fi e hk) (i:=a+k) (by omega) (by omega)).1;rw[show((a+k:Nat):Int)=(a:Int)+(k:Int)from by omega]at f;exact f
end Sc
namespace Go.Proofs.YtmfkhdhnbkambaaGreatDoor
open Go.RowKit Sc
def xI (d:Lg.Dk)(w:World)(e:Ending)(w':World):Prop:=∃ (A:Option Addr) (c:Nat),e= .returned (.tuple #[D1 d A c,()])∧Dd w' d A c∧De 0 w' 9 A∧Bw w w'
theorem Tp {N M:Nat}{g0:Lg.Lo}(d:Lg.Dk)(V:Pw N M d g0)(A:Option Addr)(c:Nat)(a:Nat)(ha:1+N≤a)(r:a+4≤M)(hM:M≤100000)(b:ByteArray)(X:b.size=512)(w:World)(h:Dd w d A c)(hT:De 0 w 9 A):
 Cq 130 #[D1 d A c,.int .i64 (a:Int),b] w (xI (Nr d a b) w):=by
 have hlen:=V.len;have F:=Hq (fun W=>aE d A c a (by omega) h.small W);have a1:=Hq (Xk V X ha r);have a6:=Hq (fun(k:Nat) (hk:k<4) (B:Option Addr) (cc:Nat) W (hr:Dd W (Lp d a b k) B cc)=>show Cq 179 #[D1 (Lp d a b k) B cc,.int .i64 ((a:Int)+(k:Int)),.string (Gq b k)] W (Gu (Lp d a b (k+1),0) B W)from by
  have hl:=(Xk V X ha r k (by omega)).left;have h9:=Sp (Lp d a b k) (by rw[hl];decide) B cc ((a:Int)+(k:Int)) (Gq b k) W hr;rw[tE V X ha r hk]at h9;exact h9)
 have ax:=Hq (fun(k:Nat) (hk:k<4)=>show b.extract (k*128) ((k+1)*128)=Gq b k from by unfold Gq;rw[show(k+1)*128=k*128+128 by omega]);have a7:=V.up;have a8:Dd w (Lp d a b 0) A c:=h;have HR:=Hq a8;have HT:=Hq hT;rw[show Nr d a b=Lp d a b 4 from rfl];dsimp only[D1]at F;have s:=a6;dsimp only[D1]at s
 show Cq 130 #[.agg #[.slice A (Lp d a b 0).sectors.length c,.int .i64 (Lp d a b 0).left,.bool (Lp d a b 0).down],.int .i64 (a:Int),b] w _
 have G:=Hq (fun W=>show Cr 180 #[.agg #[.slice A (Lp d a b 0).sectors.length c,.int .i64 (Lp d a b 0).left,.bool (Lp d a b 0).down],.int .i64 (a:Int)] W (.bool true) from F.out W);have H:=Hq (show(Lp d a b 0).down=false from a7);have b1:a≤100000:=by omega
 have aa:=Hq (fun k (hk:k≤4)=>(a1.out k hk).len);clear F a6 a7 a8 h hT V ha r hlen a1;generalize hD:Lp d a b=D at HR s G H aa ⊢;clear hD;go_enter Tryz.func130,Tryz.ntmps130;go_upto_region 1 with fail;have Y:=Lx w #[.slice A (D 0).sectors.length c,.int .i64 (D 0).left,.bool (D 0).down] 28 #["s",(),false] 28;obtain⟨W0,ad⟩:=E0 Y;rw[← ad]at Y ⊢;clear ad;have hc:=show W0.cell? ⟨w.heap.size,2,none⟩=some (.bool false)from by rw[Aa Y.out.Ao,← H.out];rfl
 have ay:((b.size:Int) != 512)=false:=by rw[X];rfl
 clear H
 go_upto_region 5 with(first|with_reducible refine lL Y.out.Ao Fy ?_|(go_at_call 180;(with_reducible refine(G.out _).mono ?_);rintro e w1 ⟨rfl,ae⟩))
 have H1:=Hq (Y.out.step ae);have af:=Hq (HR.out.below H1.out.below);have ag:=Hq (HT.out.below H1.out.below);clear hc ay G Y ae;go_wp2_with fail
 go_loopw [26] (fun i wr=>∃ (k:Nat) (q:Option Addr) (c2:Nat),k≤4∧i= .int .i64 (k:Int)∧Eg w.heap.size w [(#[.slice q (D k).sectors.length c2,.int .i64 (D k).left,.bool (D k).down],28),(#["s",(),false],28)] wr∧Dd wr (D k) q c2∧De 0 wr 9 q) (fun i _=>4-(intOf i).toNat)
 case atStart=>exact⟨0,A,c,by omega,rfl,H1.out,af.out,ag.out⟩
 case round=>
  clear af ag H1 HR HT;obtain⟨k,q,c2,hk,rfl,ah,ai,aj⟩:=hrel;have m:=Hq ah;have I:=Hq ai;have t:=Hq aj;clear ah ai aj;have b2:(0:Int)≤(k:Int):=by omega
  by_cases J:k<4
  ·have b3:(k:Int)<4:=by omega
   have b4:IntKind.i64.wrap ((k:Int)+1)=(k:Int)+1:=IntWalk.i64_in _ (by omega);have b5:IntKind.i64.wrap ((a:Int)+(k:Int))=(a:Int)+(k:Int):=IntWalk.i64_in _ (by omega);have b6:IntKind.i64.wrap ((k:Int)*128)=(k:Int)*128:=IntWalk.i64_in _ (by omega);have b7:IntKind.i64.wrap (((k:Int)+1)*128)=((k:Int)+1)*128:=IntWalk.i64_in _ (by omega);have b8:(0:Int)≤(k:Int)*128:=(by omega);have b9:(k:Int)*128≤((k:Int)+1)*128:=(by omega);have ba:((k:Int)+1)*128≤(b.size:Int):=(by omega);have bb:(0:Int)≤((k:Int)+1)*128:=(by omega);have bc:(k:Int)≤(k:Int)+1:=(by omega);have bd:((k:Int)+1)*128≤512:=(by omega);have bf:((k:Int)*128).toNat=k*128:=(by omega);have bg:(((k:Int)+1)*128).toNat=(k+1)*128:=(by omega);have hex:=ax.out k J;have ak:=Hq (fun W (X:Bw wr W)=>s.out k J q c2 W (I.out.below X));have bh:(b.size:Int)=512:=(by omega);have n:=Hq (show ∀ W,Bw wr W→Cq 179 #[.agg #[.slice q (D k).sectors.length c2,.int .i64 (D k).left,.bool (D k).down],.int .i64 ((a:Int)+(k:Int)),.string (Gq b k)] W (Gu (D (k+1),0) q W)from ak.out);clear ak s aa;obtain⟨d3,L⟩:∃ x,D (k+1)=x:=⟨_,rfl⟩;rw[L]at n;have az:=Hq L;clear L;clear J;go_upto_region 8 with fail
   go_cut [9,10] (fun x y wc=>∃ (gt:Nat) (A3:Option Addr) (c3:Nat),x= .pointer (some ⟨gt,0,none⟩)∧y= .int .i64 0∧wc.heap[gt]? =some (.cells #[.slice A3 d3.sectors.length c3,d3.left,d3.down] 28 (0,0))∧Dd wc d3 A3 c3∧De 0 wc 9 A3∧Bw wr wc)
   case first=>
    have Z0:Bw wr wr.drew:=(Below.refl _ wr).drew;refine G7 (S:=(fun u=>Bw wr u)) (fun f=>?_);refine uU 0 (some 30) (v:=.agg #[.slice q (D k).sectors.length c2,.int .i64 (D k).left,.bool (D k).down]) rfl (yieldsIf_load_mid (by rfl) 28 (.tmp 3) rfl w.heap.size 0 (by rfl) #[.slice q (D k).sectors.length c2,.int .i64 (D k).left,.bool (D k).down].toList _ (fun u hu=>(by intro j v hj;rw[Nat.zero_add,Aa (Af m.out.Ao hu)];simpa using hj)) Fy Kr Kr) ?_
    try simp only[Act.put,pS]
    refine Bb 1 ?_;refine Bb 2 ?_;refine Bb 3 ?_;refine Bb 4 ?_;refine Bb 5 ?_;refine Bb 6 ?_;refine Bb 7 ?_;refine Bb 8 ?_;refine Bb 9 ?_;refine Bb 10 ?_;refine wpAnyH_ready (rs:=[11,15]) Kr (by simp) ?_;refine(AllReadyH.cons (o:={dst:=some 41,op:=_,type:=_,pos:=_,after:=_,guard:=_}) rfl (fun K l=>?_) (AllReadyH.cons (o:={dst:=some 9,op:=_,type:=_,pos:=_,after:=_,guard:=_}) rfl (fun K l=>?_) AllReadyH.nil))
    ·
     go_simp
     refine(n.out _ Z0).mono ?_;rintro e z ⟨A3,c3,rfl,C,O,p⟩;have E:De 0 z 9 A3:=O.elim (fun e=>by rw[e];exact t.out.below (Ag Z0 p)) (fun e=>e.mono (Nat.zero_le _));have Z:=Ag Z0 p;try clear hSn
     have hSn:=Z;refine Cw l (fun f=>?_);clear l K;refine Bb 12 ?_;refine Bb 13 ?_;refine Bb 14 ?_;refine Dg 15 fun K l=>?_
     go_simp
     have P:=heap_alloc_new z (.cells #["s",(),false] 28);have Z3:=Ag Z (Ac z (.cells #["s",(),false] 28));have al:=C.below (Ac z (.cells #["s",(),false] 28));have an:=E.below (Ac z (.cells #["s",(),false] 28));clear hSn;have hSn:=Z3;refine Cw l (fun f=>?_);clear l K;refine Dg 16 fun K l=>?_;refine Cc (by rfl) ?_;refine sW #[.slice A3 d3.sectors.length c3,d3.left,d3.down] P ?_;have Z4:=Gx (g:=z.heap.size) (by have:=Z.size;omega) Z3 #[.slice A3 d3.sectors.length c3,d3.left,d3.down];have Q:=setRow_heap _ _ _ #[.slice A3 d3.sectors.length c3,d3.left,d3.down] _ _ P;have R:Dd _ d3 A3 c3:=⟨an.Ia al.secs P (by decide) #[.slice A3 d3.sectors.length c3,d3.left,d3.down],al.small⟩;have T:=an.row z.heap.size #[.slice A3 d3.sectors.length c3,d3.left,d3.down];clear hSn;have hSn:=Z4;refine Cw l (fun f=>?_);clear l K;refine Bb 17 ?_;refine wpAnyH_done Kr ?_ _;clear f hSn;go_wp2_with fail;go_meet
     case rel=>exact⟨_,A3,c3,rfl,rfl,Q,R,T,Z4⟩
    ·
     go_simp
     have Z1:=Ag Z0 (Ac wr.drew (.cells #["s",(),false] 28));have hSn:=Z1;refine Cw l (fun f=>?_);clear l K;refine Dg 11 fun K l=>?_
     go_simp
     refine(n.out _ Z1).mono ?_;rintro e z ⟨A3,c3,rfl,C,O,p⟩;have E:De 0 z 9 A3:=O.elim (fun e=>by rw[e];exact t.out.below (Ag Z1 p)) (fun e=>e.mono (Nat.zero_le _));have Z:=Ag Z1 p;try clear hSn
     have hSn:=Z;have P:=Bv p;refine Cw l (fun f=>?_);clear l K;refine Bb 12 ?_;refine Bb 13 ?_;refine Bb 14 ?_;refine Dg 16 fun K l=>?_;refine Cc (by rfl) ?_;refine sW #[.slice A3 d3.sectors.length c3,d3.left,d3.down] P ?_;have Z4:=Gx (g:=wr.drew.heap.size) (by show wr.heap.size≤wr.heap.size;omega) Z #[.slice A3 d3.sectors.length c3,d3.left,d3.down];have Q:=setRow_heap _ _ _ #[.slice A3 d3.sectors.length c3,d3.left,d3.down] _ _ P;have R:Dd _ d3 A3 c3:=⟨E.Ia C.secs P (by decide) #[.slice A3 d3.sectors.length c3,d3.left,d3.down],C.small⟩;have T:=E.row wr.drew.heap.size #[.slice A3 d3.sectors.length c3,d3.left,d3.down];clear hSn;have hSn:=Z4;refine Cw l (fun f=>?_);clear l K;refine Bb 17 ?_;refine wpAnyH_done Kr ?_ _;clear f hSn;go_wp2_with fail;go_meet
     case rel=>exact⟨_,A3,c3,rfl,rfl,Q,R,T,Z4⟩
   case rest=>
    obtain⟨gt,A3,c3,rfl,rfl,ao,aq,ar,au⟩:=hcut;obtain⟨w3,rfl⟩:=ex wc;have b0:=Hq ao;have av:=Hq aq;have aw:=Hq ar;have U:=Hq (m.out.step au);clear ao aq ar au n
    go_wp2_with(first|with_reducible refine lL b0.out Fy ?_|with_reducible refine lS #[.slice A3 d3.sectors.length c3,d3.left,d3.down] U.out.Ao ?_)
    go_roundw
    case rel=>
     have hz:=az.out;subst hz;exact⟨k+1,A3,c3,by omega,by go_num,U.out.row 0 #[.slice A3 (D (k+1)).sectors.length c3,.int .i64 (D (k+1)).left,.bool (D (k+1)).down] _ rfl,⟨aw.out.Ia av.out.secs U.out.Ao (by decide) _,av.out.small⟩,aw.out.row _ _⟩
    case measure=>simp[intOf];omega
  ·obtain rfl:k=4:=by omega
   go_wp2_with(first|with_reducible refine lL m.out.Ao Fy ?_|with_reducible refine lS #[.slice q (D 4).sectors.length c2,.int .i64 (D 4).left,.bool (D 4).down] m.out.Aq ?_)
   refine rT2 () m.out.Aq Fy ?_;exact⟨q,c2,rfl,⟨t.out.Ia I.out.secs m.out.Aq (by decide) _,I.out.small⟩,t.out.row _ _,(m.out.row 1 #[.slice q (D 4).sectors.length c2,.int .i64 (D 4).left,.bool (D 4).down] _ rfl).below⟩
theorem kZ {N n:Nat}(s:Tx.St)(p:SP)(fs:List Fr)(C:Nat→ByteArray)(o:PI N n s fs C)(pg:Nat)(Y:pg<n)(Z:¬ P3 fs pg)(w:World)(h:Dd w s.Az p.A p.c):
 Cr 102 #[Ah s p,.int .i64 (pg:Int)] w (.tuple #[.string (C pg),()]):=by
 have G:=o.n1;have hlen:=o.pw.len;have r:=Hq (fun W=>Ms s p N pg o.zl G.2.2 (by omega) W);have i:=Hq (fun W (t:Bw w W)=>Um s.Az o.pw.up o.pw.whole p.A p.c (1+N+4*pg) (by omega) W (h.below t));have P:=o.dk pg Y Z;have d:=o.nm pg Y;unfold Lay at P;generalize Ga s.Az (1+N+4*pg)=b at i P;generalize C pg=q at P d ⊢;clear h Z o G hlen;generalize 1+N+4*pg=at_ at r i;go_enter Tryz.func102,Tryz.ntmps102;go_upto_region 1 with fail;have k:=bP w (Ak s p) 36;obtain⟨F,H⟩:=E0 k;rw[← H]at k ⊢;clear H
 go_cut [6,7] (fun x y wc=>x= .string b∧y= .int .i64 0∧Bw F wc)
 case first=>
  have hSn:Bw F F.drew:=(Below.refl _ F).drew;refine G7 (S:=(fun u=>Bw F u)) (fun a=>?_);generalize F.drew=w9 at hSn ⊢;refine Bb 0 ?_;refine uU 1 (some 10) (v:=.agg #[.slice p.A s.Az.sectors.length p.c,s.Az.left,s.Az.down]) rfl (yieldsIf_load_mid (by rfl) 28 (.tmp 9) rfl w.heap.size 3 (by rfl) [.slice p.A s.Az.sectors.length p.c,.int .i64 s.Az.left,.bool s.Az.down] _ (fun u R j v Q=>by rw[Aa (Af k.out.Ao R)];rcases j with _|_|_|j<;>simp at Q ⊢<;>exact Q) Fy Kr Kr) ?_
  try simp only[Act.put,pS]
  refine uU 2 (some 11) (v:=.agg (Ak s p)) rfl (yieldsIf_load_mid (by rfl) 36 (.tmp 2) rfl w.heap.size 0 (by rfl) (Ak s p).toList _ (fun u R=>(by intro j v Q;rw[Nat.zero_add,Aa (Af k.out.Ao R)];simpa using Q)) Ar Kr Kr) ?_
  try simp only[Act.put,pS]
  refine Bb 3 ?_;refine Dg 4 fun K I=>?_
  go_simp
  (refine(r.out _).mono ?_);rintro e w4 ⟨rfl,z⟩;have g:=Ag hSn z;clear hSn;have hSn:=g;clear g
  refine Cw I (fun a=>?_);clear I K;refine Dg 5 fun K I=>?_
  go_simp
  (refine(i.out _ (k.out.below.trans (hSn.mono k.out.below.size))).mono ?_);rintro e w5 ⟨rfl,T⟩;have g:=Ag hSn T;clear hSn;have hSn:=g;clear g
  refine Cw I (fun a=>?_);clear I K;refine Bb 6 ?_;refine Bb 7 ?_;refine Bb 8 ?_;refine Bb 9 ?_;refine Bb 10 ?_;refine wpAnyH_done Kr ?_ _;clear a;go_wp2_with fail;go_meet
  case rel=>exact⟨rfl,rfl,hSn⟩
 case rest=>
  obtain⟨rfl,rfl,J⟩:=hcut;obtain⟨w1,rfl⟩:=ex wc;have f:=Hq (k.out.below.trans (J.mono k.out.below.size));clear J k r i;have a1:∀ W:World,(Instr.makeSlice 112 (.int .i64 512) (.int .i64 512)).run Tryz.prog W= .ok (.slice (some ⟨W.heap.size,0,none⟩) 512 512) (W.alloc (.cells (madeCells #[Value.int .u8 0] 512) 5)):=fun W=>Jw 512 (by omega) W;have U:=Jx 512;rw[show(⟨(List.replicate 512 0).toArray⟩:ByteArray)=Jm from rfl]at U;have l:=Ac w1 (.cells (madeCells #[Value.int .u8 0] 512) 5);rcases P with t|⟨t,L⟩
  ·have m:=Gv d.is
   have B:=Vd d.is;have D:=gD d;rw[← t]at m B D;have V:=m.2.2.2;have M:=Hq (fun W=>bZ b (by omega) W);rw[m.2.2.1]at M;have O:=Hq (fun W=>kR b (by omega) W);rw[D]at O;have hq:(b.toList==Jm.toList)=false:=by
    rw[beq_eq_false_iff_ne];intro h;rw[ByteArray.toList_eq,ByteArray.toList_eq]at h;exact B (ByteArray.ext (Array.toList_inj.1 h))
   clear m D B V t d
   go_wp2_with(first
    |(go_at_call 146;refine(M.out _).mono ?_;rintro e w2 ⟨rfl,E⟩)
    |(go_at_call 137;refine(O.out _).mono ?_;rintro e w3 ⟨rfl,z⟩))
   go_ret2;exact⟨rfl,f.out.trans ((l.mono f.out.size).trans ((Ag E z).mono (Nat.le_trans f.out.size l.size)))⟩
  ·have hq:(b.toList==Jm.toList)=true:=by rw[t];exact beq_self_eq_true _
   have X:=Hq (fun W=>show Cr 145 #[()] W (.string q) from by rw[L];exact fK 0 W);clear t L d
   go_wp2_with(go_at_call 145;refine(X.out _).mono ?_;rintro e w2 ⟨rfl,E⟩)
   go_ret2;exact⟨rfl,f.out.trans ((l.mono f.out.size).trans (E.mono (Nat.le_trans f.out.size l.size)))⟩
end Go.Proofs.YtmfkhdhnbkambaaGreatDoor
