import Derived.Test.YtmldoihahndcgaaGreatDoorHs00
import Derived.Test.YtmldoihahndcgaaGreatDoorHs07
import Derived.Test.YtmldoihahndcgaaGreatDoorHs06
import Derived.Test.YtmldoihahndcgaaGreatDoorHs01
import Derived.Test.YtmldoihahndcgaaGreatDoorHs02
set_option maxRecDepth 100000
set_option maxHeartbeats 16000000
set_option linter.unusedSimpArgs false
namespace Go.Proofs.YtmldoihahndcgaaGreatDoor
open Go.RowKit Sc
theorem qF {α:Type}{enc:α→List Value}{k:Nat}{e:TypeId}{B g c:Nat}{w:World}{l:List α}(hk:∀ x,(enc x).length=k)(o:En enc k e B w (.slice (some ⟨g,0,none⟩) l.length c) l)(i:Nat)(hi:i<l.length)(x:α)(j:Nat)(A:j<k)(v:Value)(q:∀ t,t<k→(enc x)[t]? =if t=j then some v else(enc l[i])[t]?):
 w.frozen? ⟨g,i*k+j,none⟩=false∧En enc k e B (w.setCell ⟨g,i*k+j,none⟩ v) (.slice (some ⟨g,0,none⟩) (l.set i x).length c) (l.set i x)∧Below B w (w.setCell ⟨g,i*k+j,none⟩ v):=by
 obtain⟨cur,b,C,d,f,s,u,m⟩:=V4 o;have y:i*k+k≤l.length*k:=by have:=Nat.mul_le_mul_right k (show i+1≤l.length from hi);rwa[Nat.add_mul,Nat.one_mul]at this
 have z:l.length*k≤c*k:=Nat.mul_le_mul_right _ f;refine⟨Ap d _,nF hk b (Cb (i*k+j) d v) (by rw[List.length_set];exact f) s (by rw[Array.size_setIfInBounds];exact u) (fun t h=>?_),(show Below B w w from⟨rfl,rfl,rfl,Nat.le_refl _,fun _ _=>rfl⟩).setCell (p:=⟨g,i*k+j,none⟩) b v⟩;rw[List.length_set]at h;rw[Y6 hk l i hi x t,Array.getElem?_setIfInBounds]
 by_cases a:i*k≤t∧t<i*k+k
 ·rw[if_pos a]
  obtain⟨r,rfl⟩:∃ r,t=i*k+r:=⟨t-i*k,by omega⟩;rw[Nat.add_sub_cancel_left,q r (by omega)]
  by_cases n:r=j
  ·subst n;rw[if_pos rfl,if_pos (by omega),if_pos rfl]
  ·rw[if_neg (by omega),if_neg n,m _ h,Ih hk l i r hi (by omega)]
 ·rw[if_neg a,if_neg (by omega),m t h]
def cS (s:Tx.St)(fs:List Fr)(w:World)(e:Ending)(w':World):Prop:=
 ∃ (x:Int) (q:SP) (fs':List Fr) (k:Nat),e= .returned (.tuple #[Ag {s with hand:=x} q,.int .i64 (k:Int)])∧(0≤x∧x≤64)∧k<fs.length∧Qt fs fs'∧Ao w' {s with hand:=x} q fs'∧Bw w w'
theorem Zj {N n:Nat}(s:Tx.St)(p:SP)(fs:List Fr)(C:Nat→ByteArray)(hI:PI N n s fs C)(w:World)(h:Ao w s p fs):
 Cq 212 #[Ag s p] w (cS s fs w):=by
 have b7:=hI.nf;have au:=hI.hd;have av:=Hq (fun i (hi:i<fs.length)=>hI.fr.pin i hi);have HP:=Hq h;have a7:=Hq h.fn;have a8:=Hq (fun W (hb:Bw w W)=>Sm fs (by omega) p.F p.fc W (h.fr.below hb));have aa:=Hq (fun(x:Int) (q:SP) (fs':List Fr) (k:Nat) w' (hx:0≤x∧x≤64) (hk:k<fs.length) (hm:Qt fs fs') (hp:Ao w' {s with hand:=x} q fs') (hb:Bw w w')=>show cS s fs w (.returned (.tuple #[Ag {s with hand:=x} q,.int .i64 (k:Int)])) w' from⟨x,q,fs',k,rfl,hx,hk,hm,hp,hb⟩);generalize cS s fs w=Q at aa ⊢;clear h hI;have b8:((fs.length:Int)==0)=false:=beq_eq_false_iff_ne.2 (by omega);have b9:(fs.length:Int)≠0:=by omega
 have ad:(0:Int)<(fs.length:Int):=by omega
 obtain⟨m,hm⟩:=ex (Int.tmod s.hand (fs.length:Int));have ba:0≤m∧m<(fs.length:Int):=by rw[hm];exact⟨Int.tmod_nonneg _ au.1,Int.tmod_lt_of_pos _ ad⟩
 have bb:Int.tmod s.hand (fs.length:Int)=m:=hm.symm;have bc:IntKind.i64.wrap m=m:=IntWalk.i64_in _ (by omega);have bd:IntKind.i64.wrap (m+(fs.length:Int))=m+(fs.length:Int):=IntWalk.i64_in _ (by omega);obtain⟨a,ha⟩:∃ a:Nat,(a:Int)=Int.tmod (m+(fs.length:Int)) (fs.length:Int):=⟨(Int.tmod (m+(fs.length:Int)) (fs.length:Int)).toNat,Int.toNat_of_nonneg (Int.tmod_nonneg _ (by omega))⟩;have bf:(a:Int)<(fs.length:Int):=by rw[ha];exact Int.tmod_lt_of_pos _ ad
 have bg:Int.tmod (m+(fs.length:Int)) (fs.length:Int)=(a:Int):=ha.symm;have bh:IntKind.i64.wrap (a:Int)=(a:Int):=IntWalk.i64_in _ (by omega);have bj:IntKind.i64.wrap (2*(fs.length:Int))=2*(fs.length:Int):=IntWalk.i64_in _ (by omega);clear hm ha;go_enter Tryz.func212,Tryz.ntmps212;go_upto_region 1 with fail;have O:=Hp w (Aj s p) 36 #[(),(),(),'s',(),false,(),(),(),(),"",'s',(),'s',()] 36;obtain⟨W0,ae⟩:=Ee O;rw[← ae]at O ⊢;clear ae;have hc:=show W0.cell? ⟨w.heap.size,11,none⟩=some (.slice p.F fs.length p.fc)from by rw[Aa O.out.Ai,← a7.out];rfl
 go_upto_region 3 with(go_at_call 207;refine(a8.out _ O.out.below).mono ?_;rintro e w1 ⟨v,rfl,ho,o⟩;obtain⟨g,c2,rfl,aw⟩:=Ji ho (by omega);have H1:=Hq (O.out.step o);have y:=show w1.cell? ⟨w.heap.size,11,none⟩=some (.slice p.F fs.length p.fc)from(by rw[Aa H1.out.Ai,← a7.out];rfl);have z:=Ap H1.out.Ai 11)
 have S:w.heap.size<W0.heap.size:=by have:=O.out.lt (i:=0) (by simp);omega
 have hM:w.heap.size+2≤W0.heap.size:=O.out.lt (i:=1) (by simp);have H2:=Hq (show D6 w.heap.size w [((Aj s {p with F:=some ⟨g,0,none⟩,fn:=fs.length,fc:=c2}),36),(#[(),(),(),'s',(),false,(),(),(),(),"",'s',(),'s',()],36)] (w1.setCell ⟨w.heap.size,11,none⟩ (.slice (some ⟨g,0,none⟩) fs.length c2))from by have h:=H1.out.set 0 11 (.slice (some ⟨g,0,none⟩) fs.length c2) _ rfl;simpa using h);have T:=Hq (Jm ho ⟨w.heap.size,11,none⟩ (.slice (some ⟨g,0,none⟩) fs.length c2) S);generalize w1.setCell ⟨w.heap.size,11,none⟩ (.slice (some ⟨g,0,none⟩) fs.length c2)=w2 at H2 T ⊢;have bk:=show w2.cell? ⟨w.heap.size,12,none⟩=some (.int .i64 s.hand)from by rw[Aa H2.out.Ai];rfl
 clear hc y z H1 O a8 ho o;generalize W0.heap.size=B at T aw S hM
 try simp only[Act.put]
 go_wp2_with fail
 go_loopw [34,5] (fun i x wr=>∃ (k:Nat) (fs':List Fr),k≤fs.length∧i= .int .i64 (k:Int)∧x= .int .i64 (((a+k)%fs'.length:Nat):Int)∧pV a k fs fs'∧D6 w.heap.size w [((Aj s {p with F:=some ⟨g,0,none⟩,fn:=fs.length,fc:=c2}),36),(#[(),(),(),'s',(),false,(),(),(),(),"",'s',(),'s',()],36)] wr∧wr.ownsRow B 116 5 (.slice (some ⟨g,0,none⟩) fs.length c2) fs.length (fs'.flatMap Ib)) (fun i _ _=>2*fs.length-(intOf i).toNat)
 case atStart=>exact⟨0,fs,Nat.zero_le _,rfl,by rw[Nat.add_zero,Nat.mod_eq_of_lt (by omega)],pW a fs,H2.out,T.out⟩
 case round=>
  obtain⟨k,fs',hk,rfl,rfl,d,af,ag⟩:=hrel;have E:=d.mr.len;have bl:(0:Int)≤(k:Int):=by omega
  have bm:(k:Int)<2*(fs.length:Int):=by omega
  have bn:IntKind.i64.wrap ((k:Int)+1)=(k:Int)+1:=IntWalk.i64_in _ (by omega);have G:(a+k)%fs'.length<fs'.length:=Nat.mod_lt _ (by omega);have ah:=nM a k fs'.length;have ax:(a+(k+1))%fs'.length<fs'.length:=Nat.mod_lt _ (by omega);have A:=fun(h1:k=fs.length)=>d.rV (by omega) E.symm h1 G;have U:En Ib 5 116 B wr (.slice (some ⟨g,0,none⟩) fs'.length c2) fs':=by unfold En;rw[E];exact ag
  have ai:=Hq (fun(G:(a+k)%fs'.length<fs'.length)=>d.step G);have ay:=Hq d.mr;have aj:=Hq af;have HO:=Hq U;have j:fs'[(a+k)%fs'.length].pins=0:=by rw[d.mr.at_ _ (by omega) G];exact av.out _ (by omega)
  have ak:Int.tmod ((((a+k)%fs'.length:Nat):Int)+1) (fs.length:Int)=(((a+(k+1))%fs'.length:Nat):Int):=by
   rw[← ah,← E];exact Int.tmod_eq_emod_of_nonneg (by omega)
  generalize bo:(a+k)%fs'.length=q at G A j ak ai;generalize an:(a+(k+1))%fs'.length=r at ax ak ⊢;have az:=Hq an;clear an;obtain⟨b,off,l,b0,b1,c⟩:=Bu Dh (Dr U) G
  injection l with l
  injection l with o V _
  subst o V;rw[Nat.zero_add]at c;have X:=Hq (show wr.rangeAt g (q*5) (Ib fs'[q])from c);obtain⟨f,Y⟩:=ex (fs'[q]);rw[← Y]at X A j;have b2:=Hq Y;have HL:=Hq E;have b6:(0:Int)≤(q:Int):=by omega
  have bp:(q:Int)<(fs.length:Int):=by omega
  have bq:IntKind.i64.wrap ((q:Int)+1)=(q:Int)+1:=IntWalk.i64_in _ (by omega);have br:IntKind.i64.wrap (r:Int)=(r:Int):=IntWalk.i64_in _ (by omega);have b3:=Hq (show(0:Int)≤(r:Int)∧(r:Int)≤64 from by omega);clear d af ag U c b0 ah Y E b1
  go_upto_region 9 with(first
   |(refine Cw Kr fun K hK=>wp_load_mid 116 (.tmp 38) rfl g (q*5) rfl (Ib f) _ X.out Fw Kr Kr (hK _ _ ?_))
   |with_reducible refine sN (Er f) ?_)
  have H5:=Hq (aj.out.step (Ab wr (.cells (Er f) 116)));have H:=Hq (heap_alloc_new wr (.cells (Er f) 116));have I:=Hq (Db HO.out (Ab wr (.cells (Er f) 116)));obtain⟨g6,hg⟩:=ex wr.heap.size;obtain⟨P,J⟩:=ex (wr.alloc (.cells (Er f) 116));rw[← hg,← J]at H;rw[← J]at H5 I;rw[← J,← hg];clear J hg aj X HO
  try simp only[Act.put]
  have ao:=show P.cell? ⟨g6,2,none⟩=some (.int .i64 0)from by rw[Aa H.out,← j];rfl
  cases u:f.mark with
  |false=>
   have Z:=show P.cell? ⟨g6,3,none⟩=some (.bool false)from(by rw[Aa H.out,← u];rfl);have y:=show P.cell? ⟨w.heap.size,12,none⟩=some (.int .i64 s.hand)from(by rw[Aa H5.out.Ai];rfl);have z:=Ap H5.out.Ai 12;clear u j A;go_upto_region 12 with fail;have R:=Hq (show D6 w.heap.size w [((Aj {s with hand:=((r:Nat):Int)} {p with F:=some ⟨g,0,none⟩,fn:=fs.length,fc:=c2}),36),(#[(),(),(),'s',(),false,(),(),(),(),"",'s',(),'s',()],36)] (P.setCell ⟨w.heap.size,12,none⟩ (.int .i64 (r:Int)))from by have h:=H5.out.set 0 12 (.int .i64 (r:Int)) _ rfl;simpa using h);have D:=Hq (Jm I.out ⟨w.heap.size,12,none⟩ (.int .i64 (r:Int)) S);generalize P.setCell ⟨w.heap.size,12,none⟩ (.int .i64 (r:Int))=w6 at R D ⊢;clear ao Z y z
   go_wp2_with(first|with_reducible refine lL R.out.Ai Ar ?_|(with_reducible refine lS (Aj {s with hand:=((r:Nat):Int)} {p with F:=some ⟨g,0,none⟩,fn:=fs.length,fc:=c2}) R.out.Am ?_))
   refine rT2 (.int .i64 (q:Int)) R.out.Am Ar ?_;have HB:=(R.out.row 1 (Aj {s with hand:=((r:Nat):Int)} {p with F:=some ⟨g,0,none⟩,fn:=fs.length,fc:=c2}) _ rfl).below;have L:=HP.out.below HB;have a1:=Ew D.out (w.heap.size+1) (Aj {s with hand:=((r:Nat):Int)} {p with F:=some ⟨g,0,none⟩,fn:=fs.length,fc:=c2}) (by omega);have E:=HL.out;refine aa.out (r:Int) {p with F:=some ⟨g,0,none⟩,fn:=fs.length,fc:=c2} fs' q _ b3.out (by omega) ay.out ⟨⟨L.st.dk,L.st.dt,L.st.tx,L.st.tt⟩,E.symm,?_,(Cp.own a1).mono (Nat.zero_le _)⟩ HB;rw[E];rw[E]at a1;exact Dr a1
  |true=>
   have Z:=show P.cell? ⟨g6,3,none⟩=some (.bool true)from(by rw[Aa H.out,← u];rfl);have bs:k≠fs.length:=fun e=>by have:=A e;rw[u]at this;cases this
   obtain⟨z,aq,ar⟩:=qF Dh I.out q G {fs'[q]with mark:=false} 3 (by decide) (.bool false) (by
    intro t ht;have:t=0∨t=1∨t=2∨t=3∨t=4:=(by omega);rcases this with rfl|rfl|rfl|rfl|rfl<;>rfl)
   have y:P.cell? ⟨g,q*5+3,none⟩=some (.bool true):=by
    obtain⟨b,off,l,_,_,c⟩:=Bu Dh (Dr I.out) G
    injection l with l
    injection l with o V _
    subst o V;have h3:=c 3 (.bool true) (by rw[← b2.out,← u];rfl);rw[Nat.zero_add]at h3;exact h3
   clear u j A;go_upto_region 15 with fail;have R:=Hq (H5.out.under (M:=B) (by simp;omega) ar);have D:=Hq aq;generalize P.setCell ⟨g,q*5+3,none⟩ (.bool false)=w6 at R D ⊢;clear ao Z y z aq ar
   try simp only[Act.put]
   go_wp2_with fail;go_roundw
   case rel=>
    have a6:=ai.out G;have h6:=D.out;generalize hF:fs'.set q {fs'[q]with mark:=false}=F2 at a6 h6;have b4:F2.length=fs'.length:=(by rw[← hF,List.length_set]);have b5:=a6.mr.len;unfold En at h6;rw[b5]at h6;exact⟨k+1,F2,by omega,by go_num,by rw[b4,az.out],a6,R.out,h6⟩
   case measure=>simp[intOf];omega
end Go.Proofs.YtmldoihahndcgaaGreatDoor
namespace Sc
open Rc Lg Ck
def Ky (d:Dk)(a:Nat)(b:ByteArray):Nat→Dk
 |0=>d
 |k+1=>{Ky d a b k with sectors:=(Ky d a b k).sectors.set (a+k) (Fh b k)}
theorem Wh {N M:Nat}{d:Dk}{g:Lo}(h:Pw N M d g){a:Nat}{b:ByteArray}(c:b.size=512)(f:1+N≤a)(e:a+4≤M):∀ k,k≤4→Pw N M (Ky d a b k) g:=by
 intro k
 induction k with
 |zero=>intro _;exact h
 |succ k ih=>intro hk;exact((ih (by omega)).write (Fm c (by omega)) (i:=a+k) (by omega) (by omega)).2
theorem qG {N M:Nat}{d:Dk}{g:Lo}(h:Pw N M d g){a:Nat}{b:ByteArray}(e:b.size=512)(j:1+N≤a)(c:a+4≤M){k:Nat}(hk:k<4):Bz (Ky d a b k) ((a:Int)+(k:Int)) (Fh b k)=(Ky d a b (k+1),0):=by
 have f:=((Wh h e j c k (by omega)).write (Fm e hk) (i:=a+k) (by omega) (by omega)).1;rw[show((a+k:Nat):Int)=(a:Int)+(k:Int)from by omega]at f;exact f
end Sc
namespace Go.Proofs.YtmldoihahndcgaaGreatDoor
open Go.RowKit Sc
def tH (d:Lg.Dk)(w:World)(e:Ending)(w':World):Prop:=∃ (A:Option Addr) (c:Nat),e= .returned (.tuple #[Cv d A c,()])∧Ca w' d A c∧Cp 0 w' 9 A∧Bw w w'
theorem Sn {N M:Nat}{g0:Lg.Lo}(d:Lg.Dk)(V:Pw N M d g0)(A:Option Addr)(c:Nat)(a:Nat)(ha:1+N≤a)(r:a+4≤M)(hM:M≤100000)(b:ByteArray)(X:b.size=512)(w:World)(h:Ca w d A c)(hT:Cp 0 w 9 A):
 Cq 231 #[Cv d A c,.int .i64 (a:Int),b] w (tH (Mp d a b) w):=by
 have hlen:=V.len;have F:=Hq (fun W=>Zh d A c a (by omega) h.small W);have a1:=Hq (Wh V X ha r);have a6:=Hq (fun(k:Nat) (hk:k<4) (B:Option Addr) (cc:Nat) W (hr:Ca W (Ky d a b k) B cc)=>show Cq 284 #[Cv (Ky d a b k) B cc,.int .i64 ((a:Int)+(k:Int)),.string (Fh b k)] W (D4 (Ky d a b (k+1),0) B W)from by
  have hl:=(Wh V X ha r k (by omega)).left;have h9:=Rz (Ky d a b k) (by rw[hl];decide) B cc ((a:Int)+(k:Int)) (Fh b k) W hr;rw[qG V X ha r hk]at h9;exact h9)
 have ay:=Hq (fun(k:Nat) (hk:k<4)=>show b.extract (k*128) ((k+1)*128)=Fh b k from by unfold Fh;rw[show(k+1)*128=k*128+128 by omega]);have a7:=V.up;have a8:Ca w (Ky d a b 0) A c:=h;have HR:=Hq a8;have HT:=Hq hT;rw[show Mp d a b=Ky d a b 4 from rfl];dsimp only[Cv]at F;have s:=a6;dsimp only[Cv]at s
 show Cq 231 #[.agg #[.slice A (Ky d a b 0).sectors.length c,.int .i64 (Ky d a b 0).left,.bool (Ky d a b 0).down],.int .i64 (a:Int),b] w _
 have G:=Hq (fun W=>show Cr 258 #[.agg #[.slice A (Ky d a b 0).sectors.length c,.int .i64 (Ky d a b 0).left,.bool (Ky d a b 0).down],.int .i64 (a:Int)] W (.bool true) from F.out W);have H:=Hq (show(Ky d a b 0).down=false from a7);have b2:a≤100000:=by omega
 have aa:=Hq (fun k (hk:k≤4)=>(a1.out k hk).len);clear F a6 a7 a8 h hT V ha r hlen a1;generalize hD:Ky d a b=D at HR s G H aa ⊢;clear hD;go_enter Tryz.func231,Tryz.ntmps231;go_upto_region 1 with fail;have Y:=Hp w #[.slice A (D 0).sectors.length c,.int .i64 (D 0).left,.bool (D 0).down] 28 #['s',(),false] 28;obtain⟨W0,ad⟩:=Ee Y;rw[← ad]at Y ⊢;clear ad;have hc:=show W0.cell? ⟨w.heap.size,2,none⟩=some (.bool false)from by rw[Aa Y.out.Ai,← H.out];rfl
 have az:((b.size:Int) != 512)=false:=by rw[X];rfl
 clear H
 go_upto_region 5 with(first|with_reducible refine lL Y.out.Ai Cu ?_|(go_at_call 258;(with_reducible refine(G.out _).mono ?_);rintro e w1 ⟨rfl,ae⟩))
 have H1:=Hq (Y.out.step ae);have af:=Hq (HR.out.below H1.out.below);have ag:=Hq (HT.out.below H1.out.below);clear hc az G Y ae;go_wp2_with fail
 go_loopw [26] (fun i wr=>∃ (k:Nat) (q:Option Addr) (c2:Nat),k≤4∧i= .int .i64 (k:Int)∧D6 w.heap.size w [(#[.slice q (D k).sectors.length c2,.int .i64 (D k).left,.bool (D k).down],28),(#['s',(),false],28)] wr∧Ca wr (D k) q c2∧Cp 0 wr 9 q) (fun i _=>4-(intOf i).toNat)
 case atStart=>exact⟨0,A,c,by omega,rfl,H1.out,af.out,ag.out⟩
 case round=>
  clear af ag H1 HR HT;obtain⟨k,q,c2,hk,rfl,ah,ai,aj⟩:=hrel;have m:=Hq ah;have I:=Hq ai;have t:=Hq aj;clear ah ai aj;have b3:(0:Int)≤(k:Int):=by omega
  by_cases J:k<4
  ·have b4:(k:Int)<4:=by omega
   have b5:IntKind.i64.wrap ((k:Int)+1)=(k:Int)+1:=IntWalk.i64_in _ (by omega);have b6:IntKind.i64.wrap ((a:Int)+(k:Int))=(a:Int)+(k:Int):=IntWalk.i64_in _ (by omega);have b7:IntKind.i64.wrap ((k:Int)*128)=(k:Int)*128:=IntWalk.i64_in _ (by omega);have b8:IntKind.i64.wrap (((k:Int)+1)*128)=((k:Int)+1)*128:=IntWalk.i64_in _ (by omega);have b9:(0:Int)≤(k:Int)*128:=(by omega);have ba:(k:Int)*128≤((k:Int)+1)*128:=(by omega);have bb:((k:Int)+1)*128≤(b.size:Int):=(by omega);have bc:(0:Int)≤((k:Int)+1)*128:=(by omega);have bd:(k:Int)≤(k:Int)+1:=(by omega);have bf:((k:Int)+1)*128≤512:=(by omega);have bg:((k:Int)*128).toNat=k*128:=(by omega);have bh:(((k:Int)+1)*128).toNat=(k+1)*128:=(by omega);have hex:=ay.out k J;have ak:=Hq (fun W (X:Bw wr W)=>s.out k J q c2 W (I.out.below X));have bj:(b.size:Int)=512:=(by omega);have n:=Hq (show ∀ W,Bw wr W→Cq 284 #[.agg #[.slice q (D k).sectors.length c2,.int .i64 (D k).left,.bool (D k).down],.int .i64 ((a:Int)+(k:Int)),.string (Fh b k)] W (D4 (D (k+1),0) q W)from ak.out);clear ak s aa;obtain⟨d3,L⟩:∃ x,D (k+1)=x:=⟨_,rfl⟩;rw[L]at n;have b0:=Hq L;clear L;clear J;go_upto_region 8 with fail
   go_cut [9,10] (fun x y wc=>∃ (gt:Nat) (A3:Option Addr) (c3:Nat),x= .pointer (some ⟨gt,0,none⟩)∧y= .int .i64 0∧wc.heap[gt]? =some (.cells #[.slice A3 d3.sectors.length c3,d3.left,d3.down] 28 (0,0))∧Ca wc d3 A3 c3∧Cp 0 wc 9 A3∧Bw wr wc)
   case first=>
    have Z0:Bw wr wr.drew:=(Below.refl _ wr).drew;refine Gd (S:=(fun u=>Bw wr u)) (fun f=>?_);refine fZ 0 (some 30) (v:=.agg #[.slice q (D k).sectors.length c2,.int .i64 (D k).left,.bool (D k).down]) rfl (yieldsIf_load_mid (by rfl) 28 (.tmp 3) rfl w.heap.size 0 (by rfl) #[.slice q (D k).sectors.length c2,.int .i64 (D k).left,.bool (D k).down].toList _ (fun u hu=>(by intro j v hj;rw[Nat.zero_add,Aa (Ae m.out.Ai hu)];simpa using hj)) Cu Kr Kr) ?_
    try simp only[Act.put,pS]
    refine Au 1 ?_;refine Au 2 ?_;refine Au 3 ?_;refine Au 4 ?_;refine Au 5 ?_;refine Au 6 ?_;refine Au 7 ?_;refine Au 8 ?_;refine Au 9 ?_;refine Au 10 ?_;refine wpAnyH_ready (rs:=[11,15]) Kr (by simp) ?_;refine(AllReadyH.cons (o:={dst:=some 41,op:=_,type:=_,pos:=_,after:=_,guard:=_}) rfl (fun K l=>?_) (AllReadyH.cons (o:={dst:=some 9,op:=_,type:=_,pos:=_,after:=_,guard:=_}) rfl (fun K l=>?_) AllReadyH.nil))
    ·
     go_simp
     refine(n.out _ Z0).mono ?_;rintro e z ⟨A3,c3,rfl,C,O,p⟩;have E:Cp 0 z 9 A3:=O.elim (fun e=>by rw[e];exact t.out.below (Ad Z0 p)) (fun e=>e.mono (Nat.zero_le _));have Z:=Ad Z0 p;try clear hSn
     have hSn:=Z;refine Bq l (fun f=>?_);clear l K;refine Au 12 ?_;refine Au 13 ?_;refine Au 14 ?_;refine Ch 15 fun K l=>?_
     go_simp
     have P:=heap_alloc_new z (.cells #['s',(),false] 28);have Z3:=Ad Z (Ab z (.cells #['s',(),false] 28));have an:=C.below (Ab z (.cells #['s',(),false] 28));have ao:=E.below (Ab z (.cells #['s',(),false] 28));clear hSn;have hSn:=Z3;refine Bq l (fun f=>?_);clear l K;refine Ch 16 fun K l=>?_;refine Ay (by rfl) ?_;refine sW #[.slice A3 d3.sectors.length c3,d3.left,d3.down] P ?_;have Z4:=E7 (g:=z.heap.size) (by have:=Z.size;omega) Z3 #[.slice A3 d3.sectors.length c3,d3.left,d3.down];have Q:=setRow_heap _ _ _ #[.slice A3 d3.sectors.length c3,d3.left,d3.down] _ _ P;have R:Ca _ d3 A3 c3:=⟨ao.Dx an.secs P (by decide) #[.slice A3 d3.sectors.length c3,d3.left,d3.down],an.small⟩;have T:=ao.row z.heap.size #[.slice A3 d3.sectors.length c3,d3.left,d3.down];clear hSn;have hSn:=Z4;refine Bq l (fun f=>?_);clear l K;refine Au 17 ?_;refine wpAnyH_done Kr ?_ _;clear f hSn;go_wp2_with fail;go_meet
     case rel=>exact⟨_,A3,c3,rfl,rfl,Q,R,T,Z4⟩
    ·
     go_simp
     have Z1:=Ad Z0 (Ab wr.drew (.cells #['s',(),false] 28));have hSn:=Z1;refine Bq l (fun f=>?_);clear l K;refine Ch 11 fun K l=>?_
     go_simp
     refine(n.out _ Z1).mono ?_;rintro e z ⟨A3,c3,rfl,C,O,p⟩;have E:Cp 0 z 9 A3:=O.elim (fun e=>by rw[e];exact t.out.below (Ad Z1 p)) (fun e=>e.mono (Nat.zero_le _));have Z:=Ad Z1 p;try clear hSn
     have hSn:=Z;have P:=Bo p;refine Bq l (fun f=>?_);clear l K;refine Au 12 ?_;refine Au 13 ?_;refine Au 14 ?_;refine Ch 16 fun K l=>?_;refine Ay (by rfl) ?_;refine sW #[.slice A3 d3.sectors.length c3,d3.left,d3.down] P ?_;have Z4:=E7 (g:=wr.drew.heap.size) (by show wr.heap.size≤wr.heap.size;omega) Z #[.slice A3 d3.sectors.length c3,d3.left,d3.down];have Q:=setRow_heap _ _ _ #[.slice A3 d3.sectors.length c3,d3.left,d3.down] _ _ P;have R:Ca _ d3 A3 c3:=⟨E.Dx C.secs P (by decide) #[.slice A3 d3.sectors.length c3,d3.left,d3.down],C.small⟩;have T:=E.row wr.drew.heap.size #[.slice A3 d3.sectors.length c3,d3.left,d3.down];clear hSn;have hSn:=Z4;refine Bq l (fun f=>?_);clear l K;refine Au 17 ?_;refine wpAnyH_done Kr ?_ _;clear f hSn;go_wp2_with fail;go_meet
     case rel=>exact⟨_,A3,c3,rfl,rfl,Q,R,T,Z4⟩
   case rest=>
    obtain⟨gt,A3,c3,rfl,rfl,aq,ar,au,av⟩:=hcut;obtain⟨w3,rfl⟩:=ex wc;have b1:=Hq aq;have aw:=Hq ar;have ax:=Hq au;have U:=Hq (m.out.step av);clear aq ar au av n
    go_wp2_with(first|with_reducible refine lL b1.out Cu ?_|with_reducible refine lS #[.slice A3 d3.sectors.length c3,d3.left,d3.down] U.out.Ai ?_)
    go_roundw
    case rel=>
     have hz:=b0.out;subst hz;exact⟨k+1,A3,c3,by omega,by go_num,U.out.row 0 #[.slice A3 (D (k+1)).sectors.length c3,.int .i64 (D (k+1)).left,.bool (D (k+1)).down] _ rfl,⟨ax.out.Dx aw.out.secs U.out.Ai (by decide) _,aw.out.small⟩,ax.out.row _ _⟩
    case measure=>simp[intOf];omega
  ·obtain rfl:k=4:=by omega
   go_wp2_with(first|with_reducible refine lL m.out.Ai Cu ?_|with_reducible refine lS #[.slice q (D 4).sectors.length c2,.int .i64 (D 4).left,.bool (D 4).down] m.out.Am ?_)
   refine rT2 () m.out.Am Cu ?_;exact⟨q,c2,rfl,⟨t.out.Dx I.out.secs m.out.Am (by decide) _,I.out.small⟩,t.out.row _ _,(m.out.row 1 #[.slice q (D 4).sectors.length c2,.int .i64 (D 4).left,.bool (D 4).down] _ rfl).below⟩
theorem jM {N n:Nat}(s:Tx.St)(p:SP)(fs:List Fr)(C:Nat→ByteArray)(o:PI N n s fs C)(pg:Nat)(Y:pg<n)(Z:¬ Pc fs pg)(w:World)(h:Ca w s.As p.A p.c):
 Cr 147 #[Ag s p,.int .i64 (pg:Int)] w (.tuple #[.string (C pg),()]):=by
 have G:=o.n1;have hlen:=o.pw.len;have r:=Hq (fun W=>Lv s p N pg o.zl G.2.2 (by omega) W);have i:=Hq (fun W (t:Bw w W)=>Tr s.As o.pw.up o.pw.whole p.A p.c (1+N+4*pg) (by omega) W (h.below t));have P:=o.dk pg Y Z;have d:=o.nm pg Y;unfold Lay at P;generalize F1 s.As (1+N+4*pg)=b at i P;generalize C pg=q at P d ⊢;clear h Z o G hlen;generalize 1+N+4*pg=at_ at r i;go_enter Tryz.func147,Tryz.ntmps147;go_upto_region 1 with fail;have k:=aI w (Aj s p) 36;obtain⟨F,H⟩:=Ee k;rw[← H]at k ⊢;clear H
 go_cut [6,7] (fun x y wc=>x= .string b∧y= .int .i64 0∧Bw F wc)
 case first=>
  have hSn:Bw F F.drew:=(Below.refl _ F).drew;refine Gd (S:=(fun u=>Bw F u)) (fun a=>?_);generalize F.drew=w9 at hSn ⊢;refine Au 0 ?_;refine fZ 1 (some 10) (v:=.agg #[.slice p.A s.As.sectors.length p.c,s.As.left,s.As.down]) rfl (yieldsIf_load_mid (by rfl) 28 (.tmp 9) rfl w.heap.size 3 (by rfl) [.slice p.A s.As.sectors.length p.c,.int .i64 s.As.left,.bool s.As.down] _ (fun u R j v Q=>by rw[Aa (Ae k.out.Ai R)];rcases j with _|_|_|j<;>simp at Q ⊢<;>exact Q) Cu Kr Kr) ?_
  try simp only[Act.put,pS]
  refine fZ 2 (some 11) (v:=.agg (Aj s p)) rfl (yieldsIf_load_mid (by rfl) 36 (.tmp 2) rfl w.heap.size 0 (by rfl) (Aj s p).toList _ (fun u R=>(by intro j v Q;rw[Nat.zero_add,Aa (Ae k.out.Ai R)];simpa using Q)) Ar Kr Kr) ?_
  try simp only[Act.put,pS]
  refine Au 3 ?_;refine Ch 4 fun K I=>?_
  go_simp
  (refine(r.out _).mono ?_);rintro e w4 ⟨rfl,z⟩;have g:=Ad hSn z;clear hSn;have hSn:=g;clear g
  refine Bq I (fun a=>?_);clear I K;refine Ch 5 fun K I=>?_
  go_simp
  (refine(i.out _ (k.out.below.trans (hSn.mono k.out.below.size))).mono ?_);rintro e w5 ⟨rfl,T⟩;have g:=Ad hSn T;clear hSn;have hSn:=g;clear g
  refine Bq I (fun a=>?_);clear I K;refine Au 6 ?_;refine Au 7 ?_;refine Au 8 ?_;refine Au 9 ?_;refine Au 10 ?_;refine wpAnyH_done Kr ?_ _;clear a;go_wp2_with fail;go_meet
  case rel=>exact⟨rfl,rfl,hSn⟩
 case rest=>
  obtain⟨rfl,rfl,J⟩:=hcut;obtain⟨w1,rfl⟩:=ex wc;have f:=Hq (k.out.below.trans (J.mono k.out.below.size));clear J k r i;have a1:∀ W:World,(Instr.makeSlice 104 (.int .i64 512) (.int .i64 512)).run Tryz.prog W= .ok (.slice (some ⟨W.heap.size,0,none⟩) 512 512) (W.alloc (.cells (madeCells #[Value.int .u8 0] 512) 5)):=fun W=>Hr 512 (by omega) W;have U:=Hs 512;rw[show(⟨(List.replicate 512 0).toArray⟩:ByteArray)=I4 from rfl]at U;have l:=Ab w1 (.cells (madeCells #[Value.int .u8 0] 512) 5);rcases P with t|⟨t,L⟩
  ·have m:=Gb d.is
   have B:=Ug d.is;have D:=fA d;rw[← t]at m B D;have V:=m.2.2.2;have M:=Hq (fun W=>aY b (by omega) W);rw[m.2.2.1]at M;have O:=Hq (fun W=>jI b (by omega) W);rw[D]at O;have hq:(b.toList==I4.toList)=false:=by
    rw[beq_eq_false_iff_ne];intro h;rw[ByteArray.toList_eq,ByteArray.toList_eq]at h;exact B (ByteArray.ext (Array.toList_inj.1 h))
   clear m D B V t d
   go_wp2_with(first
    |(go_at_call 210;refine(M.out _).mono ?_;rintro e w2 ⟨rfl,E⟩)
    |(go_at_call 211;refine(O.out _).mono ?_;rintro e w3 ⟨rfl,z⟩))
   go_ret2;exact⟨rfl,f.out.trans ((l.mono f.out.size).trans ((Ad E z).mono (Nat.le_trans f.out.size l.size)))⟩
  ·have hq:(b.toList==I4.toList)=true:=by rw[t];exact beq_self_eq_true _
   have X:=Hq (fun W=>show Cr 129 #[()] W (.string q) from by rw[L];exact Vs 0 W);clear t L d
   go_wp2_with(go_at_call 129;refine(X.out _).mono ?_;rintro e w2 ⟨rfl,E⟩)
   go_ret2;exact⟨rfl,f.out.trans ((l.mono f.out.size).trans (E.mono (Nat.le_trans f.out.size l.size)))⟩
end Go.Proofs.YtmldoihahndcgaaGreatDoor
