import Derived.Test.YtmfkhdhnbkambaaGreatDoorHw00
import Derived.Test.YtmfkhdhnbkambaaGreatDoorHw19
import Derived.Test.YtmfkhdhnbkambaaGreatDoorHw14
import Derived.Test.YtmfkhdhnbkambaaGreatDoorHw11
import Derived.Test.YtmfkhdhnbkambaaGreatDoorHw07
import Derived.Test.YtmfkhdhnbkambaaGreatDoorHw06
set_option maxRecDepth 100000
set_option maxHeartbeats 16000000
set_option linter.unusedSimpArgs false
namespace Go.Proofs.YtmfkhdhnbkambaaGreatDoor
open Go.RowKit Sc
theorem Pe (s:Tx.St)(p:SP)(b:Tx.Z7 s)(r:Rc.Rec)(q:r.txns=[])(t:r.dirty=[])(w:World)(l:r.kind=1∨r.kind=2∨r.kind=3∨r.kind=8):
 Cr 234 #[Ah s p,.agg (D3 r (.slice none 0 0) (.slice none 0 0))] w (.tuple #[Ah {s with log:=(Lg.As s.log r).1} p,.int .i64 (Lg.As s.log r).2.1,.int .i64 (Lg.As s.log r).2.2]):=by
 have u:=Hq (fun W=>show Cq 29 #[Nq s.log,.agg (D3 r (.slice none 0 0) (.slice none 0 0))] W (Ss (Lg.As s.log r) W)from by
  have v:=Qv s.log b.e0 (by have:=b.e1;omega) (by have:=b.n0;omega) (by have:=b.n1;omega) (by have:=b.t0;have:=b.e1;omega) r none none 0 0 W (O9 r W q t) l;simp only[q,t,List.length_nil]at v;exact v)
 generalize Lg.As s.log r=x at u ⊢;go_enter Tryz.func234,Tryz.ntmps234;go_upto_region 1 with fail;have c:=Ol w (Ak s p) 36 (D3 r (.slice none 0 0) (.slice none 0 0)) 49 #[(),(),(),"s",(),false,(),(),(),(),"","s",(),"s",()] 36;obtain⟨z,d⟩:=E0 c;rw[← d]at c ⊢;clear d
 go_upto_region 2 with(first
  |with_reducible refine lP #[s.log.from_,s.log.n,s.log.end_,s.log.safe,s.log.tail] c.out.Ao Jj ?_
  |with_reducible refine lL c.out.Aq C5 ?_
  |(go_at_call 29;(with_reducible refine(u.out _).mono ?_);rintro e f ⟨rfl,h⟩;have H1:=Hq (c.out.step h);clear h)
  |with_reducible refine sN #[x.1.from_,x.1.n,x.1.end_,x.1.safe,x.1.tail] ?_)
 have m:=Hq (H1.out.step (Ac f (.cells #[x.1.from_,x.1.n,x.1.end_,x.1.safe,x.1.tail] 30)));have y:=Hq (heap_alloc_new f (.cells #[x.1.from_,x.1.n,x.1.end_,x.1.safe,x.1.tail] 30));have o:w.heap.size+2<f.heap.size:=H1.out.lt (i:=2) (by simp);obtain⟨g,k⟩:=ex f.heap.size;obtain⟨A,a⟩:=ex (f.alloc (.cells #[x.1.from_,x.1.n,x.1.end_,x.1.safe,x.1.tail] 30));rw[← k,← a]at y;rw[← a]at m;rw[← a,← k];rw[← k]at o;clear a k c H1
 try simp only[Act.put]
 go_upto_region 3 with(first
  |with_reducible refine lL y.out Jj ?_
  |with_reducible refine lU #[x.1.from_,x.1.n,x.1.end_,x.1.safe,x.1.tail] (Ak {s with log:=x.1} p) m.out.Ao ?_)
 have j:=Hq (m.out.row 0 (Ak {s with log:=x.1} p) _ rfl);have B:=j.out.Ao
 go_wp2_with(first
  |with_reducible refine lL j.out.Ao Ar ?_
  |with_reducible refine lS (Ak {s with log:=x.1} p) j.out.Cd ?_)
 refine rT3 (x.2.1) (x.2.2) j.out.Cd Ar ?_;exact⟨rfl,(j.out.row 2 (Ak {s with log:=x.1} p) _ rfl).below⟩
theorem aS {N n B:Nat}(s:Tx.St)(p:SP)(fs:List Fr)(hW:Wf N n B s fs)(k:Nat)(hk:k<fs.length)(w:World)(h:Am w s p fs):
 Cq 233 #[Ah s p,.int .i64 (k:Int)] w (Nz (if(Fl s fs[k] fs[k].Ad).2.2=0 then⟨{s with log:=(Fl s fs[k] fs[k].Ad).1},fs.set k {fs[k]with rc:=(Fl s fs[k] fs[k].Ad).2.1},0⟩else⟨s,fs,(Fl s fs[k] fs[k].Ad).2.2⟩) w):=by
 have aj:fs.length≤100:=by have:=hW.nf;omega
 have H:=(hW.fr k hk).rc.1;have a1:=Hq (fun(b:ByteArray) (pg:Int) W=>Pe s p hW.lb (Pc pg b) rfl rfl W (.inr (.inr (.inr rfl))));have HP:=Hq h;have ak:=Hq h.fn;have b2:(0:Int)≤(k:Int):=by omega
 have b3:(k:Int)<(fs.length:Int):=by omega
 have a6:=h.ft.lt;obtain⟨f,u⟩:=ex (fs[k]);rw[← u]at H ⊢;have al:=Hq u;obtain⟨X,hX⟩:=ex (if(Fl s f f.Ad).2.2=0 then⟨{s with log:=(Fl s f f.Ad).1},fs.set k {f with rc:=(Fl s f f.Ad).2.1},0⟩else⟨s,fs,(Fl s f f.Ad).2.2⟩:Px);rw[← hX];have HZ:=Hq (fun(r:¬ f.rc=0) W (I:Bw w W)=>show Nz X w (.returned (.tuple #[Ah s p,()])) W from by
  have e:X=⟨s,fs,0⟩:=by
   rw[hX];unfold Fl;rw[if_neg r];simp only;rw[if_pos trivial,u,List.set_getElem_self]
  rw[e];exact⟨p,rfl,h.below I,I⟩)
 have V:=Hq (fun(r:f.rc=0) (m:¬ (Lg.As s.log (Pc f.Ad f.bytes)).2.2=0) W (I:Bw w W)=>show Nz X w (.returned (.tuple #[Ah s p,.int .i64 (Lg.As s.log (Pc f.Ad f.bytes)).2.2])) W from by
  have e:X=⟨s,fs,(Lg.As s.log (Pc f.Ad f.bytes)).2.2⟩:=by rw[hX];unfold Fl;rw[if_pos r,if_neg m]
  rw[e];exact⟨p,rfl,h.below I,I⟩)
 have Y:=Hq (fun(r:f.rc=0) (m:(Lg.As s.log (Pc f.Ad f.bytes)).2.2=0) W (q:SP) (hp:Am W {s with log:=(Lg.As s.log (Pc f.Ad f.bytes)).1} q (fs.set k {f with rc:=(Lg.As s.log (Pc f.Ad f.bytes)).2.1})) (I:Bw w W)=>show Nz X w (.returned (.tuple #[Ah {s with log:=(Lg.As s.log (Pc f.Ad f.bytes)).1} q,()])) W from by
  have e:X=⟨{s with log:=(Lg.As s.log (Pc f.Ad f.bytes)).1},fs.set k {f with rc:=(Lg.As s.log (Pc f.Ad f.bytes)).2.1},0⟩:=by rw[hX];unfold Fl;rw[if_pos r,if_pos m]
  rw[e];exact⟨q,rfl,hp,I⟩)
 have d:=Hq (fun W=>show Cq 234 #[Ah s p,.agg #[(),(),(),.int .i64 8,f.Ad,(),(),.int .i64 7,(),"",f.bytes,(),(),"",(),(),"s","s"]] W _ from a1.out f.bytes f.Ad W);generalize Nz X w=Q at HZ V Y ⊢;generalize Lg.As s.log (Pc f.Ad f.bytes)=ap at V Y d;obtain⟨o,D,e3⟩:=ap;simp only at V Y d;clear hX h hW u a1;go_enter Tryz.func233,Tryz.ntmps233;go_upto_region 1 with fail;have E:=Lx w (Ak s p) 36 #[(),(),(),"s",(),false,(),(),(),(),"","s",(),"s",()] 36;obtain⟨J,a7⟩:=E0 E;rw[← a7]at E ⊢;clear a7;have L:=Hq (HP.out.below E.out.below);obtain⟨b,off,a8,an,ao,a⟩:=Bz Eb L.out.fr hk;rw[← al.out]at a;have hc:=show J.cell? ⟨w.heap.size,11,none⟩=some (.slice (some ⟨b,off,none⟩) fs.length p.fc)from by rw[Aa E.out.Ao,← a8,← ak.out];rfl
 have aa:=Hq (show J.rangeAt b (off+k*5) (Kw f)from a);clear a an ao a8
 go_upto_region 2 with(first
  |(refine Da Kr fun K hK=>wp_load_mid 108 (.tmp 14) rfl b (off+k*5) rfl (Kw f) _ aa.out Gy Kr Kr (hK _ _ ?_))
  |with_reducible refine sN (Fs f) ?_)
 have O:=Ac J (.cells (Fs f) 108);have G:=Hq (E.out.step O);have c:=Hq (heap_alloc_new J (.cells (Fs f) 108));have P:=Hq (L.out.below O);have ae:w.heap.size+1<J.heap.size:=E.out.lt (i:=1) (by simp);obtain⟨g,hg⟩:=ex J.heap.size;obtain⟨w5,v⟩:=ex (J.alloc (.cells (Fs f) 108));rw[← hg,← v]at c;rw[← v]at G P;rw[← v,← hg];rw[← hg]at ae;have aq:=Hq (show ∀ ad,p.F=some ad→ad.block≠g from fun ad e=>by
  have m:=a6 ad e;have h2:=E.out.below.size;have h3:=ae;omega)
 have ar:g<w5.heap.size:=Bt c.out;clear v hg O aa E L hc a6
 try simp only[Act.put]
 have R:=show w5.cell? ⟨g,4,none⟩=some (.int .i64 f.rc)from by rw[Aa c.out];rfl
 by_cases r:f.rc=0
 ·have au:¬ (0:Int)<f.rc:=by omega
  have x:=Hq r;have av:=show w5.cell? ⟨g,0,none⟩=some (.int .i64 f.Ad)from(by rw[Aa c.out];rfl);have aw:=show w5.cell? ⟨g,1,none⟩=some (.string f.bytes)from(by rw[Aa c.out];rfl);clear r H HZ
  go_upto_region 5 with(first
   |with_reducible refine lL G.out.Ao Ar ?_
   |(go_at_call 234;refine(d.out _).mono ?_;rintro e Z ⟨rfl,y⟩)
   |with_reducible refine sN (Ak {s with log:=o} p) ?_)
  have z:=y.trans ((Ac Z (.cells (Ak {s with log:=o} p) 36)).mono y.size);have S:=Hq (G.out.step z);have T:=Hq (heap_alloc_new Z (.cells (Ak {s with log:=o} p) 36));have j:=Hq (Af c.out z);have U:=Hq (show Am (Z.alloc (.cells (Ak {s with log:=o} p) 36)) {s with log:=o} p fs from by
   have m:=P.out.below z;exact⟨⟨m.st.dk,m.st.dt,m.st.tx,m.st.tt⟩,m.fn,m.fr,m.ft⟩)
  have af:g<Z.heap.size:=Nat.lt_of_lt_of_le ar y.size;obtain⟨g2,A⟩:=ex Z.heap.size;obtain⟨w7,C⟩:=ex (Z.alloc (.cells (Ak {s with log:=o} p) 36));rw[← A,← C]at T;rw[← C]at S j U;rw[← C,← A];rw[← A]at af;clear C A y z G c P av aw R d
  try simp only[Act.put]
  by_cases l:e3=0
  ·have ax:(e3 != 0)=false:=by rw[l];rfl
   have HE:=Hq l;have R:=show w7.cell? ⟨g,4,none⟩=some (.int .i64 f.rc)from(by rw[Aa j.out];rfl);have ay:=Ap j.out 4;have az:=Hq (fun W (hp:Am W {s with log:=o} p fs)=>Lm {s with log:=o} p fs aj k hk {f with rc:=D} W hp);clear l V;go_upto_region 8 with fail;have ag:=Hq (show(w7.setCell ⟨g,4,none⟩ (.int .i64 D)).heap[g]? =some (.cells (Fs {f with rc:=D}) 108 (0,0))from by have:=Cp 4 j.out (.int .i64 D);simpa using this);have H8:=Hq (S.out.under (M:=g) (by simp;omega) ((show Below g w7 w7 from⟨rfl,rfl,rfl,Nat.le_refl _,fun _ _=>rfl⟩).setCell (p:=⟨g,4,none⟩) (Nat.le_refl _) (.int .i64 D)));have ah:=Hq (show(w7.setCell ⟨g,4,none⟩ (.int .i64 D)).heap[g2]? =some (.cells (Ak {s with log:=o} p) 36 (0,0))from by rw[Below.heap_setCell _ _ _ _ (by show g2≠g;omega)];exact T.out);have ai:=Hq (U.out.own j.out aq.out 4 (.int .i64 D));generalize w7.setCell ⟨g,4,none⟩ (.int .i64 D)=w8 at ag H8 ah ai ⊢;clear R ay S T j U
   try simp only[Act.put]
   go_wp2_with(first
    |with_reducible refine lL ah.out Ar ?_
    |with_reducible refine lL ag.out Gy ?_
    |(go_at_call 189;refine(az.out _ ai.out).mono ?_;rintro e w9 ⟨q,rfl,b0,b1⟩;have H9:=Hq (H8.out.step b1))
    |with_reducible refine lS (Ak {s with log:=o} q) H9.out.Aq ?_)
   refine rT2 () H9.out.Aq Ar ?_;exact Y.out x.out HE.out _ q (b0.other (t:=36) H9.out.Aq (by decide) (by decide) (by decide) _) (H9.out.row 1 (Ak {s with log:=o} q) _ rfl).below
  ·have ax:(e3 != 0)=true:=by rw[bne_iff_ne];exact l
   have HE:=Hq l;clear l Y
   go_wp2_with(first|with_reducible refine lL S.out.Ao Ar ?_|with_reducible refine lS (Ak s p) S.out.Aq ?_)
   refine rT2 e3 S.out.Aq Ar ?_;exact V.out x.out HE.out _ (S.out.row 1 (Ak s p) _ rfl).below
 ·have au:(0:Int)<f.rc:=by omega
  have x:=Hq r;clear r H V Y
  go_wp2_with(first|with_reducible refine lL G.out.Ao Ar ?_|with_reducible refine lS (Ak s p) G.out.Aq ?_)
  refine rT2 () G.out.Aq Ar ?_;exact HZ.out x.out _ (G.out.row 1 (Ak s p) _ rfl).below
theorem lR (s:Tx.St)(p:SP)(fs:List Fr)(ah:s.txns.length≤800000)(k:Nat)(hk:k<s.txns.length)(r:Rc.Rec)(W:¬ r.kind=3)(w:World)(h:Am w s p fs):
 Cq 235 #[Ah s p,k,.agg (D3 r (.slice none 0 0) (.slice none 0 0))] w fun e w'=>∃ q:SP,e= .returned (Ah {s with txns:=(s.txns.set k {Fm s.txns k with last:=r.lsn,next:=if r.kind=3 then r.next else r.lsn})} q)∧Am w' {s with txns:=(s.txns.set k {Fm s.txns k with last:=r.lsn,next:=if r.kind=3 then r.next else r.lsn})} q fs∧Bw w w':=by
 obtain⟨i0,X,Y,Z,a1⟩:=info_parts Zs;have HP:=Hq h;have ai:(r.kind==3)=false:=beq_eq_false_iff_ne.2 W;have a6:=Hq W;obtain⟨TN,o⟩:∃ TN:List Rc.Be,TN=(s.txns.set k {Fm s.txns k with last:=r.lsn,next:=if r.kind=3 then r.next else r.lsn}):=⟨_,rfl⟩;rw[← o];have a7:=Hq o;clear h W o;have ag:(0:Int)≤(k:Int):=by omega
 have aj:(k:Int)<(s.txns.length:Int):=by omega
 go_enter Tryz.func235,Tryz.ntmps235;go_upto_region 1 with fail;have j:=Ol w (Ak s p) 36 (D3 r (.slice none 0 0) (.slice none 0 0)) 49 #[(),(),(),"s",(),false,(),(),(),(),"","s",(),"s",()] 36;obtain⟨l,D⟩:=E0 j;rw[← D]at j ⊢;clear D;have E:=Hq (HP.out.below j.out.below);have c:=Ac l (.cells #[] 59);have a8:(l.alloc (.cells #[] 59)).cell? ⟨w.heap.size,13,none⟩=some (.slice p.T s.txns.length p.tc):=by rw[c.cell (p:=⟨w.heap.size,13,none⟩) (j.out.lt (i:=0) (by simp)),Aa j.out.Ao];rfl
 have F:=E.out.st.tx.below c
 go_upto_region 2 with(at_builtin;refine Da Kr fun K t=>Mx (l.alloc (.cells #[] 59)) (.tmp 8) (.tmp 10) 34 59 i0 (.agg #[(),(),(),false]) 4 32 dI X Y Z a1 rfl (by omega) rfl l.heap.size _ 0 [] rfl (L6 l 59 4) p.T s.txns.length p.tc (s.txns.flatMap F6) rfl F (by rw[Co Dr]) (Ri s.txns) (by omega) (by omega) c.size ?_;intro v2 R U hg hb;refine t _ _ ?_)
 rw[List.nil_append,Nat.zero_add]at U;obtain⟨g,c2,rfl,G⟩:=J3 U (by omega);have hM:w.heap.size+3≤l.heap.size:=j.out.lt (i:=2) (by simp);have hSn:Eg w.heap.size w [((Ak s p),36),((D3 r (.slice none 0 0) (.slice none 0 0)),49),(#[(),(),(),"s",(),false,(),(),(),(),"","s",(),"s",()],36)] R.drew:=(j.out.step (c.trans hb)).drew;have b:World.ownsRow R.drew l.heap.size 59 4 (.slice (some ⟨g,0,none⟩) s.txns.length c2) s.txns.length (s.txns.flatMap F6):=Bg U (Below.refl _ R).drew;obtain⟨v,x⟩:=ex ({s.txns[k]with last:=r.lsn}:Rc.Be);obtain⟨V,y⟩:=ex ({v with next:=r.lsn}:Rc.Be);have H:k<(s.txns.set k v).length:=by rw[List.length_set];exact hk
 have m:F6 V=(F6 (s.txns.set k v)[k]).set 2 (.int .i64 r.lsn):=by rw[List.getElem_set_self,y];rfl
 have n:F6 v=(F6 s.txns[k]).set 1 (.int .i64 r.lsn):=by rw[x];rfl
 have I:=Hq (show(s.txns.set k v).set k V=TN from by rw[a7.out,List.set_set,J4 hk,y,x,if_neg a6.out]);clear x y a8 F hg hb c U j E;have Hy:=Hq (fun(u:World) (aa:Eg w.heap.size w [((Ak s p),36),((D3 r (.slice none 0 0) (.slice none 0 0)),49),(#[(),(),(),"s",(),false,(),(),(),(),"","s",(),"s",()],36)] u)=>(show u.cell? ⟨w.heap.size+1,0,none⟩=some (.int .i64 r.lsn)from by rw[Aa aa.Aq];rfl));refine G7 (S:=(fun u=>Eg w.heap.size w [((Ak s p),36),((D3 r (.slice none 0 0) (.slice none 0 0)),49),(#[(),(),(),"s",(),false,(),(),(),(),"","s",(),"s",()],36)] u)) (fun a=>?_);generalize R.drew=w9 at hSn b ⊢;refine Bb 0 ?_;refine Bb 1 ?_;refine Bb 2 ?_;refine Bb 3 ?_;refine Bb 4 ?_;refine Bb 5 ?_;refine Bb 6 ?_;refine Bb 7 ?_;refine Bb 8 ?_;refine Bb 9 ?_;refine Dg 10 fun K t=>?_;obtain⟨z,A,d⟩:=Fe b rfl k hk 1 (by omega) (.int .i64 r.lsn) v n;have f:=hSn.under (M:=g) (by have:=G;simp;omega) ((Below.refl _ w9).setCell (p:=⟨g,k*4+1,none⟩) (Nat.le_refl _) (.int .i64 r.lsn))
 go_simp
 clear hSn b z A;have hSn:=f;have b:=d;clear f d;generalize w9.setCell ⟨g,k*4+1,none⟩ (.int .i64 r.lsn)=w3 at hSn b ⊢;refine Cw t (fun a=>?_);clear t K;refine Bb 11 ?_;refine Bb 12 ?_;refine Dg 13 fun K t=>?_;obtain⟨z,A,d⟩:=Fe b (by rw[List.length_set]) k H 2 (by omega) (.int .i64 r.lsn) V m;have f:=hSn.under (M:=g) (by have:=G;simp;omega) ((Below.refl _ w3).setCell (p:=⟨g,k*4+2,none⟩) (Nat.le_refl _) (.int .i64 r.lsn))
 go_simp
 clear hSn b z A;have hSn:=f;have b:=d;clear f d;generalize w3.setCell ⟨g,k*4+2,none⟩ (.int .i64 r.lsn)=w4 at hSn b ⊢;refine Cw t (fun a=>?_);clear t K;refine wpAnyH_done Kr ?_ _;obtain⟨M,B⟩:=ex ((s.txns.set k v).set k V);rw[← B]at b I;clear a;have hlen:M.length=s.txns.length:=by rw[B,List.length_set,List.length_set]
 have J:=Hq hSn;have L:=Hq b;have N:=Hq hlen;clear hSn b B hlen H m n;have ad:=show w4.cell? ⟨w.heap.size+1,3,none⟩=some (.int .i64 r.kind)from by rw[Aa J.out.Aq];rfl
 have ae:=show w4.cell? ⟨w.heap.size,13,none⟩=some (.slice p.T s.txns.length p.tc)from by rw[Aa J.out.Ao];rfl
 have af:=Ap J.out.Ao 13;go_upto_region 6 with fail;have HL:=N.out;have O:=Hq (show Eg w.heap.size w [((Ak {s with txns:=M} {p with T:=some ⟨g,0,none⟩,tc:=c2}),36),((D3 r (.slice none 0 0) (.slice none 0 0)),49),(#[(),(),(),"s",(),false,(),(),(),(),"","s",(),"s",()],36)] (w4.setCell ⟨w.heap.size,13,none⟩ (.slice (some ⟨g,0,none⟩) s.txns.length c2))from by have h5:=J.out.set 0 13 (.slice (some ⟨g,0,none⟩) s.txns.length c2) _ rfl;rw[← HL]at h5 ⊢;exact h5);have P:=Hq (J9 L.out ⟨w.heap.size,13,none⟩ (.slice (some ⟨g,0,none⟩) s.txns.length c2) (by show w.heap.size<l.heap.size;omega));generalize w4.setCell ⟨w.heap.size,13,none⟩ (.slice (some ⟨g,0,none⟩) s.txns.length c2)=w5 at O P ⊢;clear ae af ad J L HL
 go_wp2_with(first|with_reducible refine lL O.out.Ao Ar ?_|with_reducible refine lS (Ak {s with txns:=M} {p with T:=some ⟨g,0,none⟩,tc:=c2}) O.out.Cd ?_)
 have HF:=Hq (O.out.row 2 (Ak {s with txns:=M} {p with T:=some ⟨g,0,none⟩,tc:=c2}) _ rfl).below;refine rT1 O.out.Cd Ar ?_;have C:=He P.out (w.heap.size+2) (Ak {s with txns:=M} {p with T:=some ⟨g,0,none⟩,tc:=c2}) (by omega);rw[← N.out]at C;have Q:=HP.out.below HF.out;rw[← I.out];exact⟨{p with T:=some ⟨g,0,none⟩,tc:=c2},rfl,⟨⟨Q.st.dk,Q.st.dt,Cz C,(De.own C).mono (Nat.zero_le _)⟩,Q.fn,Q.fr,Q.ft⟩,HF.out⟩
theorem lT (s:Tx.St)(p:SP)(fs:List Fr)(an:s.txns.length≤800000)(k:Nat)(hk:k<s.txns.length)(r:Rc.Rec)(hr:r.kind=3)(w:World)(h:Am w s p fs):
 Cq 235 #[Ah s p,k,.agg (D3 r (.slice none 0 0) (.slice none 0 0))] w fun e w'=>∃ q:SP,e= .returned (Ah {s with txns:=(s.txns.set k {Fm s.txns k with last:=r.lsn,next:=if r.kind=3 then r.next else r.lsn})} q)∧Am w' {s with txns:=(s.txns.set k {Fm s.txns k with last:=r.lsn,next:=if r.kind=3 then r.next else r.lsn})} q fs∧Bw w w':=by
 obtain⟨i0,a1,a6,a7,a8⟩:=info_parts Zs;have HP:=Hq h;have ao:(r.kind==3)=true:=by rw[hr];rfl
 have aa:=Hq hr;obtain⟨TN,E⟩:∃ TN:List Rc.Be,TN=(s.txns.set k {Fm s.txns k with last:=r.lsn,next:=if r.kind=3 then r.next else r.lsn}):=⟨_,rfl⟩;rw[← E];have ad:=Hq E;clear h hr E;have al:(0:Int)≤(k:Int):=by omega
 have aq:(k:Int)<(s.txns.length:Int):=by omega
 go_enter Tryz.func235,Tryz.ntmps235;go_upto_region 1 with fail;have y:=Ol w (Ak s p) 36 (D3 r (.slice none 0 0) (.slice none 0 0)) 49 #[(),(),(),"s",(),false,(),(),(),(),"","s",(),"s",()] 36;obtain⟨z,Q⟩:=E0 y;rw[← Q]at y ⊢;clear Q;have R:=Hq (HP.out.below y.out.below);have f:=Ac z (.cells #[] 59);have ae:(z.alloc (.cells #[] 59)).cell? ⟨w.heap.size,13,none⟩=some (.slice p.T s.txns.length p.tc):=by rw[f.cell (p:=⟨w.heap.size,13,none⟩) (y.out.lt (i:=0) (by simp)),Aa y.out.Ao];rfl
 have U:=R.out.st.tx.below f
 go_upto_region 2 with(at_builtin;refine Da Kr fun K F=>Mx (z.alloc (.cells #[] 59)) (.tmp 8) (.tmp 10) 34 59 i0 (.agg #[(),(),(),false]) 4 32 dI a1 a6 a7 a8 rfl (by omega) rfl z.heap.size _ 0 [] rfl (L6 z 59 4) p.T s.txns.length p.tc (s.txns.flatMap F6) rfl U (by rw[Co Dr]) (Ri s.txns) (by omega) (by omega) f.size ?_;intro v2 w2 ho hg hb;refine F _ _ ?_)
 rw[List.nil_append,Nat.zero_add]at ho;obtain⟨g,c2,rfl,G⟩:=J3 ho (by omega);have hM:w.heap.size+3≤z.heap.size:=y.out.lt (i:=2) (by simp);have hSn:Eg w.heap.size w [((Ak s p),36),((D3 r (.slice none 0 0) (.slice none 0 0)),49),(#[(),(),(),"s",(),false,(),(),(),(),"","s",(),"s",()],36)] w2.drew:=(y.out.step (f.trans hb)).drew;have d:World.ownsRow w2.drew z.heap.size 59 4 (.slice (some ⟨g,0,none⟩) s.txns.length c2) s.txns.length (s.txns.flatMap F6):=Bg ho (Below.refl _ w2).drew;obtain⟨t,H⟩:=ex ({s.txns[k]with last:=r.lsn}:Rc.Be);obtain⟨I,J⟩:=ex ({t with next:=r.lsn}:Rc.Be);have V:k<(s.txns.set k t).length:=by rw[List.length_set];exact hk
 have A:F6 I=(F6 (s.txns.set k t)[k]).set 2 (.int .i64 r.lsn):=by rw[List.getElem_set_self,J];rfl
 have B:F6 t=(F6 s.txns[k]).set 1 (.int .i64 r.lsn):=by rw[H];rfl
 obtain⟨P,L⟩:=ex ({I with next:=r.next}:Rc.Be);have ar:k<((s.txns.set k t).set k I).length:=by rw[List.length_set,List.length_set];exact hk
 have C:F6 P=(F6 ((s.txns.set k t).set k I)[k]).set 2 (.int .i64 r.next):=by rw[List.getElem_set_self,L];rfl
 have N:=Hq (show((s.txns.set k t).set k I).set k P=TN from by rw[ad.out,List.set_set,List.set_set,J4 hk,L,J,H,if_pos aa.out]);clear L;clear H J ae U hg hb f ho y R;have Hy:=Hq (fun(u:World) (af:Eg w.heap.size w [((Ak s p),36),((D3 r (.slice none 0 0) (.slice none 0 0)),49),(#[(),(),(),"s",(),false,(),(),(),(),"","s",(),"s",()],36)] u)=>(show u.cell? ⟨w.heap.size+1,0,none⟩=some (.int .i64 r.lsn)from by rw[Aa af.Aq];rfl));refine G7 (S:=(fun u=>Eg w.heap.size w [((Ak s p),36),((D3 r (.slice none 0 0) (.slice none 0 0)),49),(#[(),(),(),"s",(),false,(),(),(),(),"","s",(),"s",()],36)] u)) (fun b=>?_);generalize w2.drew=w9 at hSn d ⊢;refine Bb 0 ?_;refine Bb 1 ?_;refine Bb 2 ?_;refine Bb 3 ?_;refine Bb 4 ?_;refine Bb 5 ?_;refine Bb 6 ?_;refine Bb 7 ?_;refine Bb 8 ?_;refine Bb 9 ?_;refine Dg 10 fun K F=>?_;obtain⟨j,l,a⟩:=Fe d rfl k hk 1 (by omega) (.int .i64 r.lsn) t B;have m:=hSn.under (M:=g) (by have:=G;simp;omega) ((Below.refl _ w9).setCell (p:=⟨g,k*4+1,none⟩) (Nat.le_refl _) (.int .i64 r.lsn))
 go_simp
 clear hSn d j l;have hSn:=m;have d:=a;clear m a;generalize w9.setCell ⟨g,k*4+1,none⟩ (.int .i64 r.lsn)=w3 at hSn d ⊢;refine Cw F (fun b=>?_);clear F K;refine Bb 11 ?_;refine Bb 12 ?_;refine Dg 13 fun K F=>?_;obtain⟨j,l,a⟩:=Fe d (by rw[List.length_set]) k V 2 (by omega) (.int .i64 r.lsn) I A;have m:=hSn.under (M:=g) (by have:=G;simp;omega) ((Below.refl _ w3).setCell (p:=⟨g,k*4+2,none⟩) (Nat.le_refl _) (.int .i64 r.lsn))
 go_simp
 clear hSn d j l;have hSn:=m;have d:=a;clear m a;generalize w3.setCell ⟨g,k*4+2,none⟩ (.int .i64 r.lsn)=w4 at hSn d ⊢;refine Cw F (fun b=>?_);clear F K;refine wpAnyH_done Kr ?_ _;obtain⟨M,v⟩:=ex ((s.txns.set k t).set k I);rw[← v]at d N;clear b;have hlen:M.length=s.txns.length:=by rw[v,List.length_set,List.length_set]
 have HS:=Hq hSn;have W:=Hq d;have x:=Hq hlen;clear hSn d hlen V A B;have ag:k<M.length:=by rw[x.out];exact hk
 have D:F6 P=(F6 M[k]).set 2 (.int .i64 r.next):=by subst v;exact C
 obtain⟨j,l,a⟩:=Fe W.out (by rw[x.out]) k ag 2 (by omega) (.int .i64 r.next) P D;have ah:=show w4.cell? ⟨w.heap.size+1,5,none⟩=some (.int .i64 r.next)from by rw[Aa HS.out.Aq];rfl
 have ai:=show w4.cell? ⟨w.heap.size+1,3,none⟩=some (.int .i64 r.kind)from by rw[Aa HS.out.Aq];rfl
 clear v C D;go_upto_region 5 with fail;have n:=Hq (HS.out.under (M:=g) (by have:=G;simp;omega) ((Below.refl _ w4).setCell (p:=⟨g,k*4+2,none⟩) (Nat.le_refl _) (.int .i64 r.next)));have c:=Hq a;have o:=Hq (show(M.set k P).length=s.txns.length from by rw[List.length_set];exact x.out);generalize w4.setCell ⟨g,k*4+2,none⟩ (.int .i64 r.next)=w4b at n c ⊢;clear j l a ah ai HS W x;obtain⟨M3,X⟩:=ex (M.set k P);rw[← X]at c o N;clear X
 try simp only[Act.put]
 have aj:=show w4b.cell? ⟨w.heap.size,13,none⟩=some (.slice p.T s.txns.length p.tc)from by rw[Aa n.out.Ao];rfl
 have ak:=Ap n.out.Ao 13;go_upto_region 6 with fail;have HL:=o.out;have Y:=Hq (show Eg w.heap.size w [((Ak {s with txns:=M3} {p with T:=some ⟨g,0,none⟩,tc:=c2}),36),((D3 r (.slice none 0 0) (.slice none 0 0)),49),(#[(),(),(),"s",(),false,(),(),(),(),"","s",(),"s",()],36)] (w4b.setCell ⟨w.heap.size,13,none⟩ (.slice (some ⟨g,0,none⟩) s.txns.length c2))from by have h5:=n.out.set 0 13 (.slice (some ⟨g,0,none⟩) s.txns.length c2) _ rfl;rw[← HL]at h5 ⊢;exact h5);have Z:=Hq (J9 c.out ⟨w.heap.size,13,none⟩ (.slice (some ⟨g,0,none⟩) s.txns.length c2) (by show w.heap.size<z.heap.size;omega));generalize w4b.setCell ⟨w.heap.size,13,none⟩ (.slice (some ⟨g,0,none⟩) s.txns.length c2)=w5 at Y Z ⊢;clear aj ak n c HL
 go_wp2_with(first|with_reducible refine lL Y.out.Ao Ar ?_|with_reducible refine lS (Ak {s with txns:=M3} {p with T:=some ⟨g,0,none⟩,tc:=c2}) Y.out.Cd ?_)
 have HF:=Hq (Y.out.row 2 (Ak {s with txns:=M3} {p with T:=some ⟨g,0,none⟩,tc:=c2}) _ rfl).below;refine rT1 Y.out.Cd Ar ?_;have O:=He Z.out (w.heap.size+2) (Ak {s with txns:=M3} {p with T:=some ⟨g,0,none⟩,tc:=c2}) (by omega);rw[← o.out]at O;have hq:=HP.out.below HF.out;rw[← N.out];exact⟨{p with T:=some ⟨g,0,none⟩,tc:=c2},rfl,⟨⟨hq.st.dk,hq.st.dt,Cz O,(De.own O).mono (Nat.zero_le _)⟩,hq.fn,hq.fr,hq.ft⟩,HF.out⟩
theorem aT (s:Tx.St)(p:SP)(fs:List Fr)(a:s.txns.length≤800000)(k:Nat)(hk:k<s.txns.length)(r:Rc.Rec)(w:World)(h:Am w s p fs):
 Cq 235 #[Ah s p,k,.agg (D3 r (.slice none 0 0) (.slice none 0 0))] w fun e w'=>∃ q:SP,e= .returned (Ah {s with txns:=(s.txns.set k {Fm s.txns k with last:=r.lsn,next:=if r.kind=3 then r.next else r.lsn})} q)∧Am w' {s with txns:=(s.txns.set k {Fm s.txns k with last:=r.lsn,next:=if r.kind=3 then r.next else r.lsn})} q fs∧Bw w w':=by
 by_cases b:r.kind=3
 ·exact lT s p fs a k hk r b w h
 ·exact lR s p fs a k hk r b w h
theorem lV (s:Tx.St)(p:SP)(n:Int)(E:s.txns.length≤800000)(w:World)(D:Xx w p.T p.tc s.txns):
 Cq 232 #[Ah s p,n] w fun e w'=>((e= .returned (.int .i64 (-1))∧s.txns.findIdx? (fun a=>decide (a.txn=n))=none)∨∃ k:Nat,k<s.txns.length∧e= .returned (.int .i64 k)∧s.txns.findIdx? (fun a=>decide (a.txn=n))=some k)∧Bw w w':=by
 have F:=Hq D;clear D;go_enter Tryz.func232,Tryz.ntmps232;go_upto_region 1 with fail;have o:=bP w (Ak s p) 36;obtain⟨v,q⟩:=E0 o;rw[← q]at o ⊢;clear q;have y:=show v.cell? ⟨w.heap.size,13,none⟩=some (.slice p.T s.txns.length p.tc)from by rw[Aa o.out.Ao];rfl
 have r:=Hq o.out.below;have G:=Hq (fun u (H:Bw v u)=>show u.cell? ⟨w.heap.size,13,none⟩=some (.slice p.T s.txns.length p.tc)from by rw[H.cell (p:=⟨w.heap.size,13,none⟩) (o.out.lt (i:=0) (by simp))];exact y);clear o;go_wp2_with fail
 go_loopw [5] (fun i wr=>∃ k:Nat,k≤s.txns.length∧i= .int .i64 k∧(∀ j (d:j<s.txns.length),j<k→¬ s.txns[j].txn=n)∧Bw v wr) (fun i _=>s.txns.length-(intOf i).toNat)
 case atStart=>exact⟨0,Nat.zero_le _,rfl,fun _ _ h=>absurd h (by omega),Below.refl _ _⟩
 case round=>
  obtain⟨k,hk,rfl,c,f⟩:=hrel;have z:=r.out.trans (f.mono r.out.size);have y:=G.out wr f;have I:(0:Int)≤(k:Int):=by omega
  by_cases g:k<s.txns.length
  ·have J:(k:Int)<(s.txns.length:Int):=by omega
   have K:IntKind.i64.wrap ((k:Int)+1)=(k:Int)+1:=IntWalk.i64_in _ (by omega);obtain⟨b,off,A,L,M,l⟩:=Bz Dr (F.out.below z) g;have B:=l 0 _ rfl;simp only[Nat.add_zero]at B;rw[A]at y
   by_cases t:s.txns[k].txn=n
   ·have C:(s.txns[k].txn==n)=true:=beq_iff_eq.2 t
    go_wp2_with fail;go_ret;exact⟨.inr ⟨k,g,rfl,Tm g (by simpa using t) fun j d m=>by simpa using c j d m⟩,z⟩
   ·have C:(s.txns[k].txn==n)=false:=beq_eq_false_iff_ne.2 t
    go_wp2_with fail;go_roundw
    case rel=>exact⟨k+1,by omega,by go_num,fun j d m=>by rcases Nat.lt_or_eq_of_le (Nat.le_of_lt_succ m)with h5|h5;(· exact c j d h5);(· subst h5;exact t),f⟩
    case measure=>simp[intOf];omega
  ·obtain rfl:k=s.txns.length:=by omega
   go_wp2_with fail;go_ret;exact⟨.inl ⟨rfl,Tl fun x B=>by obtain⟨j,d,rfl⟩:=List.getElem_of_mem B;simpa using c j d d⟩,z⟩
theorem Xp {N n B:Nat}(s:Tx.St)(p:SP)(fs:List Fr)(hW:Wf N n B s fs)(hN:N≤3000)(ez:Ik fs≠none)(z:Int)(b8:z=2∨z=3)(A pg C:Int)(o:Rc.Op)(G rt:Int)(c:Rc.Key)(D:ByteArray→ByteArray×Int)(hD:∀ b,(D b).2=0→Bk (D b).1=true)(w:World)
 (cp:∀ (b:ByteArray) W,b.size≤512→Bw w W→Cr 11 #[b,.agg #[o.kind,o.slot,o.By,o.new]] W (Kn (D b))) (h:Am w s p fs):
 Cq 193 #[Ah s p,.agg #[(),(),A,z,pg,C,(),o.kind,o.slot,o.By,o.new,G,rt,c.key,c.Ad,c.slot,"s","s"]] w (Nz (Cg s fs (⟨0,0,A,z,pg,C,0,o,G,rt,c,[],[]⟩:Rc.Rec) D) w):=by
 obtain⟨X,hX⟩:=ex (Cg s fs (⟨0,0,A,z,pg,C,0,o,G,rt,c,[],[]⟩:Rc.Rec) D);rw[← hX];have b9:=Hq (fun W=>aA s p pg W);have af:=Hq (fun W (hb:Bw w W) (e:Int)=>show X=⟨s,fs,e⟩→Nz X w (.returned (.tuple #[Ah s p,e])) W from fun he=>by rw[he];exact⟨p,rfl,h.below hb,hb⟩)
 by_cases hn:0≤pg∧pg<s.zpages
 ·rw[decide_eq_true hn]at b9
  have hh:Oj s pg:=hn;have dp:=hW.tl;have dq:=Hq (fun W (hb:Bw w W)=>lV s p A dp W (h.st.tx.below hb));have ag:=Hq (fun W (hb:Bw w W)=>show Cq 150 #[Ah s p,pg] W (vL ((Bj s fs pg).1,if(Bj s fs pg).1.e=0 then(Dx (Bj s fs pg).1.fs (Bj s fs pg).2).bytes else⟨#[]⟩) W)from Vv s p fs hW hN ez pg W (h.below hb));have dr:=Hq (fun(hi:s.txns.findIdx? (fun a=>decide (a.txn=A))=none)=>show X=⟨s,fs,21⟩from by
   rw[hX];unfold Cg;rw[if_neg (fun hn=>hn ⟨b8,hh⟩),hi])
  have ah:=Hq (fun(i:Nat) (hi:s.txns.findIdx? (fun a=>decide (a.txn=A))=some i)=>hX.trans (lB (s:=s) (fs:=fs) (r:=(⟨0,0,A,z,pg,C,0,o,G,rt,c,[],[]⟩:Rc.Rec)) (D:=D) ⟨b8,hh⟩ hi));have ba:=hW.held pg;have au:=(P4 s fs pg).1;have cq:=Hq (fun(Y:Px) (he:X=Y) w' (q:SP) (hp:Am w' Y.s q Y.fs) (hb:Bw w w')=>show Nz X w (.returned (.tuple #[Ah Y.s q,Y.e])) w' from by rw[he];exact⟨q,rfl,hp,hb⟩);have gu:=hW.n1.2.2;have gv:=hW.nf;have HD:=Hq hD;have du:=Hq cp;clear h hX hW hD cp hh hn;generalize Nz X w=Q at af cq ⊢;dsimp only at ah;generalize Bj s fs pg=rr at ag ah ba au;obtain⟨⟨xs,l,xe⟩,xk⟩:=rr;simp only at ag ah ba au;have ai:xk<l.length:=by omega
  have dv:l.length≤100:=by omega
  have aj:=ba.2.2.2;rw[Cu ai]at ah aj ag;have b3:=Hq ba.1;have cr:=Hq aj;have cb:=Hq au;clear ba aj au;obtain⟨f,bb⟩:=ex (l[xk]);rw[← bb]at ah cr ag;have dw:=Hq bb;have dx:f.bytes.size≤512:=by rw[bb];exact(b3.out.fr xk ai).sz
  have ct:=Hq (fun(q:SP) W (hp:Am W xs q l)=>aS xs q l b3.out xk ai W hp);rw[← bb]at ct;obtain⟨gb,cu⟩:=ex (if xe=0 then f.bytes else(⟨#[]⟩:ByteArray));rw[← cu]at ag;have fa:=Hq cu;clear bb cu;have dy:=Hq b8;clear b8;go_enter Tryz.func193,Tryz.ntmps193;go_upto_region 1 with fail;have H0:=Ol w (Ak s p) 36 #[(),(),A,z,pg,C,(),o.kind,o.slot,o.By,o.new,G,rt,c.key,c.Ad,c.slot,"s","s"] 49 #[(),(),(),"s",(),false,(),(),(),(),"","s",(),"s",()] 36;obtain⟨W0,bc⟩:=E0 H0;rw[← bc]at H0 ⊢;clear bc
  go_cut [28] (fun x wc=>x= .bool false∧Eg w.heap.size w [((Ak s p),36),(#[(),(),A,z,pg,C,(),o.kind,o.slot,o.By,o.new,G,rt,c.key,c.Ad,c.slot,"s","s"],49),(#[(),(),(),"s",(),false,(),(),(),(),"","s",(),"s",()],36)] wc)
  case first=>
   have cv:=show W0.cell? ⟨(w.heap.size+1),4,none⟩=some (.int .i64 pg)from(by rw[Aa H0.out.Aq];rfl);have fb:=show W0.cell? ⟨(w.heap.size+1),3,none⟩=some (.int .i64 z)from(by rw[Aa H0.out.Aq];rfl);rcases dy.out with rfl|rfl
   all_goals
    go_wp2_with(first|with_reducible refine lL H0.out.Ao Ar ?_|(go_at_call 187;refine(b9.out _).mono ?_;rintro e w1 ⟨rfl,cw⟩;have H1:=Hq (H0.out.step cw)))
    go_meet
    case rel=>exact⟨rfl,H1.out⟩
  case rest=>
  obtain⟨rfl,bf⟩:=hcut;obtain⟨w1,rfl⟩:=ex wc;have H1:=Hq bf;clear bf;have fe:=show w1.cell? ⟨(w.heap.size+1),2,none⟩=some (.int .i64 A)from by rw[Aa H1.out.Aq];rfl
  go_upto_region 4 with(first|with_reducible refine lL H1.out.Ao Ar ?_|(go_at_call 232;refine(dq.out _ H1.out.below).mono ?_;rintro e w2 ⟨hq,dz⟩;have H2:=Hq (H1.out.step dz);clear dz H0 H1 fe;rcases hq with⟨rfl,e0⟩|⟨H,ff,rfl,e1⟩))
  ·have gw:(-1:Int)<0:=by decide
   have fg:=Hq (dr.out e0);clear e0
   go_wp2_with(first|with_reducible refine lL H2.out.Ao Ar ?_|with_reducible refine lS (Ak s p) H2.out.Cd ?_)
   refine rT2 (.int .i64 21) H2.out.Cd Ar ?_;exact af.out _ (H2.out.row 2 (Ak s p) _ rfl).below 21 fg.out
  ·have gn:¬ (H:Int)<0:=by omega
   have gp:(0:Int)≤(H:Int):=(by omega);have bt:=Hq (ah.out H e1);have cv:=show w2.cell? ⟨(w.heap.size+1),4,none⟩=some (.int .i64 pg)from(by rw[Aa H2.out.Aq];rfl);clear b9 dq e1 ah dr
   go_upto_region 7 with(first
    |with_reducible refine lL H2.out.Ao Ar ?_
    |(go_at_call 150;refine(ag.out _ H2.out.below).mono ?_;rintro e w3 ⟨q,rfl,e2,bu⟩)
    |with_reducible refine sN (Ak xs q) ?_)
   have cx:=Ac w3 (.cells (Ak xs q) 36);have H4:=Hq (H2.out.step (bu.trans (cx.mono bu.size)));have bg:=Hq (heap_alloc_new w3 (.cells (Ak xs q) 36));have b4:=Hq (e2.below cx);have fh:(w.heap.size+2)<w3.heap.size:=Nat.lt_of_lt_of_le (H2.out.lt (i:=2) (by simp)) bu.size;obtain⟨g,hg⟩:=ex w3.heap.size;obtain⟨w4,bw⟩:=ex (w3.alloc (.cells (Ak xs q) 36));rw[← hg,← bw]at bg;rw[← bw]at H4 b4;rw[← bw,← hg];rw[← hg]at fh;clear bw hg bu cx e2 H2 ag cv
   try simp only[Act.put]
   by_cases hx:xe=0
   case neg=>
    have fi:(xe != 0)=true:=(by rw[bne_iff_ne];exact hx);have ak:=Hq (show X=⟨xs,l,xe⟩from by rw[bt.out,if_pos hx]);clear hx bt
    go_wp2_with(first|with_reducible refine lL bg.out Ar ?_|with_reducible refine lS (Ak xs q) H4.out.Cd ?_)
    refine rT2 xe H4.out.Cd Ar ?_;exact cq.out _ ak.out _ q (b4.out.other (t:=36) H4.out.Cd (by decide) (by decide) (by decide) _) (H4.out.row 2 (Ak xs q) _ rfl).below
   have fi:(xe != 0)=false:=(by rw[hx];rfl);have cy:=Hq (cr.out hx);have al:=Hq (show X=if ¬ (D f.bytes).2=0 then⟨s,fs,(D f.bytes).2⟩else Tn ⟨xs,l,xe⟩ xk H s fs (⟨0,0,A,z,pg,C,0,o,G,rt,c,[],[]⟩:Rc.Rec) (D f.bytes).1 from by rw[bt.out,if_neg (fun hn=>hn hx)]);have cc:=Hq (show gb=f.bytes from by rw[fa.out,if_pos hx]);clear bt cr hx;have bh:=Hq (du.out f.bytes w4 dx H4.out.below);rw[← cc.out]at bh;have bj:=Hq (HD.out f.bytes);rw[← cc.out]at bj al;generalize D gb=bd at bh bj al;obtain⟨b,be⟩:=bd;simp only at bh bj al;have e5:=Hq (fun W (hb:Bw w4 W)=>gC xs q l b4.out.fn dv pg W (b4.out.fr.below hb))
   go_upto_region 10 with(first
    |with_reducible refine lP #[o.kind,o.slot,o.By,o.new] H4.out.Aq oE ?_
    |(go_at_call 11;(refine bh.out.mono ?_);rintro e w5 ⟨rfl,bk⟩))
   have H5:=Hq (H4.out.step bk);have e6:=Hq (Af bg.out bk);clear bh du HD
   by_cases an:be=0
   case neg=>
    have fj:(be != 0)=true:=(by rw[bne_iff_ne];exact an);have ak:=Hq (show X=⟨s,fs,be⟩from by rw[al.out,if_pos an]);clear an al
    go_wp2_with(first|with_reducible refine lL H5.out.Ao Ar ?_|with_reducible refine lS (Ak s p) H5.out.Cd ?_)
    refine rT2 be H5.out.Cd Ar ?_;exact af.out _ (H5.out.row 2 (Ak s p) _ rfl).below be ak.out
   have fj:(be != 0)=false:=(by rw[an];rfl);have fk:=Hq (bj.out an);have e7:=Hq (al.out.trans (if_neg (fun hn=>hn an)));clear al bj an;have fl:=show w5.cell? ⟨(w.heap.size+1),4,none⟩=some (.int .i64 pg)from(by rw[Aa H5.out.Aq];rfl);have e8:=Hq (fun(e:Ending) (hq:(e= .returned (.int .i64 (-1))∧∀ j (hj:j<l.length),l[j].bytes≠⟨#[]⟩→l[j].Ad≠pg)∨∃ (k:Nat) (hk:k<l.length),e= .returned (.int .i64 k)∧l[k].bytes≠⟨#[]⟩∧l[k].Ad=pg)=>show e= .returned (.int .i64 (xk:Int))from by
    have hv:=cy.out.2;rw[dw.out]at hv;rcases hq with⟨_,hq⟩|⟨k,hk,rfl,fm,fo⟩
    ·exact absurd hv.2 (hq xk ai hv.1)
    ·have fp:k=xk:=Classical.byContradiction fun hc=>b3.out.ds k xk hk ai hc fm hv.1 (fo.trans hv.2.symm)
     rw[fp])
   go_upto_region 13 with(first
    |with_reducible refine lL e6.out Ar ?_
    |(go_at_call 188;refine(e5.out _ bk).mono ?_;rintro e w6 ⟨hq,e9⟩;obtain rfl:=e8.out e hq;clear hq))
   have av:=Ag bk e9;have H6:=Hq (H4.out.step av);have b5:=Hq (Af bg.out av);have ea:=Hq (b4.out.below av);clear bk e9 av H4 H5 bg e6 e5 b4 fl e8;have I:=Hq (ct.out q w6 ea.out);clear ct;rw[cy.out.2.2]at I;have T:=Hq (show X=(if ¬ (Fl xs f pg).2.2=0 then(⟨s,fs,(Fl xs f pg).2.2⟩:Px)else
    if ¬ (Lg.As (Fl xs f pg).1 (⟨0,(Fm xs.txns H).last,A,z,pg,C,0,o,G,rt,c,[],[]⟩:Rc.Rec)).2.2=0 then⟨s,fs,(Lg.As (Fl xs f pg).1 (⟨0,(Fm xs.txns H).last,A,z,pg,C,0,o,G,rt,c,[],[]⟩:Rc.Rec)).2.2⟩else
    ⟨{xs with log:=(Lg.As (Fl xs f pg).1 (⟨0,(Fm xs.txns H).last,A,z,pg,C,0,o,G,rt,c,[],[]⟩:Rc.Rec)).1,txns:=xs.txns.set H {Fm xs.txns H with last:=(Lg.As (Fl xs f pg).1 (⟨0,(Fm xs.txns H).last,A,z,pg,C,0,o,G,rt,c,[],[]⟩:Rc.Rec)).2.1,next:=if z=3 then C else(Lg.As (Fl xs f pg).1 (⟨0,(Fm xs.txns H).last,A,z,pg,C,0,o,G,rt,c,[],[]⟩:Rc.Rec)).2.1}},l.set xk ⟨f.Ad,Bl b (Lg.As (Fl xs f pg).1 (⟨0,(Fm xs.txns H).last,A,z,pg,C,0,o,G,rt,c,[],[]⟩:Rc.Rec)).2.1,f.pins,true,(Fl xs f pg).2.1⟩,0⟩)from by
    rw[e7.out];unfold Tn;simp only;rw[Cu ai,← dw.out])
   rw[cy.out.2.2]at T;have cz:=Hq (show aG N (Fl xs f pg).1 from by
    unfold Fl
    split
    ·exact b3.out.low.append _
    ·exact b3.out.low)
   clear e7;obtain⟨U,da⟩:=ex ((Fm xs.txns H).last);rw[← da]at T;have fq:=Hq da;generalize Fl xs f pg=m at T cz I;obtain⟨l3,V,e3⟩:=m;simp only at T cz I;clear da;have db:H<xs.txns.length:=(by rw[cb.out];exact ff);have gq:(H:Int)<(xs.txns.length:Int):=(by omega);have gr:(0:Int)≤(xk:Int):=by omega
   by_cases Z:e3=0
   case neg=>
    have fu:(e3 != 0)=true:=(by rw[bne_iff_ne];exact Z);have hm:=I.out;rw[if_neg Z]at hm;have HM:=Hq hm;have ak:=Hq (show X=⟨s,fs,e3⟩from by rw[T.out,if_pos Z]);clear Z hm I T
    go_upto_region 14 with(first
     |with_reducible refine lL b5.out Ar ?_
     |(go_at_call 233;(refine HM.out.mono ?_);rintro e w7 ⟨E,rfl,bx,ao⟩;have H7:=Hq (H6.out.step ao);have aq:=Hq (Af b5.out ao))
     |with_reducible refine lS (Ak xs E) aq.out ?_)
    have H8:=Hq (H7.out.under (M:=g) (by simp;omega) (Gx (g:=g) (Nat.le_refl g) (show Below g w7 w7 from⟨rfl,rfl,rfl,Nat.le_refl _,fun _ _=>rfl⟩) (Ak xs E)));generalize w7.setRow g (Ak xs E)=w8 at H8 ⊢;clear ao bx H7 aq H6 b5 HM
    try simp only[Act.put]
    go_wp2_with(first|with_reducible refine lL H8.out.Ao Ar ?_|with_reducible refine lS (Ak s p) H8.out.Cd ?_)
    refine rT2 e3 H8.out.Cd Ar ?_;exact af.out _ (H8.out.row 2 (Ak s p) _ rfl).below e3 ak.out
   have fu:(e3 != 0)=false:=(by rw[Z];rfl);have hm:=I.out;rw[if_pos Z]at hm;have HM:=Hq hm;have ar:=Hq (T.out.trans (if_neg (fun hn=>hn Z)));subst Z;clear hm I T;obtain⟨d,b6⟩:=ex (l.set xk (⟨pg,f.bytes,f.pins,f.mark,V⟩:Fr));rw[← b6]at HM;have cd:xk<d.length:=(by rw[b6,List.length_set];exact ai);have fv:d.length≤100:=(by rw[b6,List.length_set];exact dv);have fw:=Hq (show d[xk]=(⟨pg,f.bytes,f.pins,f.mark,V⟩:Fr)from by subst b6;exact List.getElem_set_self _);have fx:=Hq (fun v=>show d.set xk v=l.set xk v from by rw[b6,List.set_set]);clear b6
   go_upto_region 14 with(first
    |with_reducible refine lL b5.out Ar ?_
    |(go_at_call 233;(refine HM.out.mono ?_);rintro e w7 ⟨E,rfl,bx,ao⟩;have H7:=Hq (H6.out.step ao);have aq:=Hq (Af b5.out ao))
    |with_reducible refine lS (Ak {xs with log:=l3} E) aq.out ?_)
   have H8:=Hq (H7.out.under (M:=g) (by simp;omega) (Gx (g:=g) (Nat.le_refl g) (show Below g w7 w7 from⟨rfl,rfl,rfl,Nat.le_refl _,fun _ _=>rfl⟩) (Ak {xs with log:=l3} E)));have bz:=Hq (setRow_heap _ _ _ (Ak {xs with log:=l3} E) _ _ aq.out);have c1:=Hq (show Am (w7.setRow g (Ak {xs with log:=l3} E)) {xs with log:=l3} E d from bx.other (t:=36) aq.out (by decide) (by decide) (by decide) (Ak {xs with log:=l3} E));generalize w7.setRow g (Ak {xs with log:=l3} E)=w8 at H8 bz c1 ⊢;clear ao bx H7 aq H6 b5 HM ea
   try simp only[Act.put]
   obtain⟨tb,eb,ec,fy,ed,aw⟩:=Bz Dr c1.out.st.tx db;have fz:=aw 1 (.int .i64 U) (by rw[fq.out,J4 db];rfl);have ee:=show w8.cell? ⟨g,13,none⟩=some (.slice (some ⟨tb,eb,none⟩) xs.txns.length E.tc)from(by rw[Aa bz.out,← ec];rfl);have dc:=show w8.cell? ⟨(w.heap.size+1),1,none⟩=some (.int .i64 0)from(by rw[Aa H8.out.Aq];rfl);have dd:=Ap H8.out.Aq 1;clear aw fy ed ec;go_upto_region 17 with fail;have H9:=Hq (show Eg w.heap.size w [((Ak s p),36),(#[(),U,A,z,pg,C,(),o.kind,o.slot,o.By,o.new,G,rt,c.key,c.Ad,c.slot,"s","s"],49),(#[(),(),(),"s",(),false,(),(),(),(),"","s",(),"s",()],36)] (w8.setCell ⟨(w.heap.size+1),1,none⟩ (.int .i64 U))from H8.out.set 1 1 (.int .i64 U) _ rfl);have c6:=Hq (show(w8.setCell ⟨(w.heap.size+1),1,none⟩ (.int .i64 U)).heap[g]? =some (.cells (Ak {xs with log:=l3} E) 36 (0,0))from by rw[Below.heap_setCell _ _ _ _ (by show g≠w.heap.size+1;omega)];exact bz.out);have de:=Hq (c1.out.set H8.out.Aq (by decide) (by decide) (by decide) 1 (.int .i64 U));have bl:=Hq (fun W=>show Cq 234 #[Ah {xs with log:=l3} E,.agg #[(),U,A,z,pg,C,(),o.kind,o.slot,o.By,o.new,G,rt,c.key,c.Ad,c.slot,"s","s"]] W _ from Pe {xs with log:=l3} E (b3.out.log cz.out).lb (⟨0,U,A,z,pg,C,0,o,G,rt,c,[],[]⟩:Rc.Rec) rfl rfl W (by rcases dy.out with h|h;exact .inr (.inl h);exact .inr (.inr (.inl h))));generalize w8.setCell ⟨(w.heap.size+1),1,none⟩ (.int .i64 U)=w9 at H9 c6 de ⊢;clear ee dc dd fz H8 bz c1;dsimp only at bl ar;generalize Lg.As l3 (⟨0,U,A,z,pg,C,0,o,G,rt,c,[],[]⟩:Rc.Rec)=y at bl ar;obtain⟨l4,L,e4⟩:=y;simp only at bl ar
   try simp only[Act.put]
   go_upto_region 18 with(first
    |with_reducible refine lL c6.out Ar ?_
    |with_reducible refine lL H9.out.Aq C5 ?_
    |(go_at_call 234;refine(bl.out _).mono ?_;rintro e c7 ⟨rfl,ax⟩;have ef:=Hq (H9.out.step ax);have ay:=Hq (Af c6.out ax);have cf:=Hq (de.out.below ax);clear ax)
    |with_reducible refine lS (Ak {xs with log:=l4} E) ay.out ?_)
   have J:=Hq (ef.out.under (M:=g) (by simp;omega) (Gx (g:=g) (Nat.le_refl g) (show Below g c7 c7 from⟨rfl,rfl,rfl,Nat.le_refl _,fun _ _=>rfl⟩) (Ak {xs with log:=l4} E)));have bm:=Hq (setRow_heap _ _ _ (Ak {xs with log:=l4} E) _ _ ay.out);have bn:=Hq (show Am (c7.setRow g (Ak {xs with log:=l4} E)) {xs with log:=l4} E d from by
    have h1:=cf.out.other (t:=36) ay.out (by decide) (by decide) (by decide) (Ak {xs with log:=l4} E);exact⟨⟨h1.st.dk,h1.st.dt,h1.st.tx,h1.st.tt⟩,h1.fn,h1.fr,h1.ft⟩)
   generalize c7.setRow g (Ak {xs with log:=l4} E)=w11 at J bm bn ⊢;clear H9 c6 de ef ay cf bl
   try simp only[Act.put]
   by_cases b7:e4=0
   case neg=>
    have eg:(e4 != 0)=true:=(by rw[bne_iff_ne];exact b7);have ak:=Hq (ar.out.trans (if_pos b7));clear b7 ar
    go_wp2_with(first|with_reducible refine lL J.out.Ao Ar ?_|with_reducible refine lS (Ak s p) J.out.Cd ?_)
    refine rT2 e4 J.out.Cd Ar ?_;exact af.out _ (J.out.row 2 (Ak s p) _ rfl).below e4 ak.out
   have eg:(e4 != 0)=false:=(by rw[b7];rfl);have df:=Hq (ar.out.trans (if_neg (fun hn=>hn b7)));clear ar b7;have ga:=show w11.cell? ⟨(w.heap.size+1),0,none⟩=some (.int .i64 0)from(by rw[Aa J.out.Aq];rfl);have gd:=Ap J.out.Aq 0;go_upto_region 21 with fail;have dh:=Hq (show Eg w.heap.size w [((Ak s p),36),(#[L,U,A,z,pg,C,(),o.kind,o.slot,o.By,o.new,G,rt,c.key,c.Ad,c.slot,"s","s"],49),(#[(),(),(),"s",(),false,(),(),(),(),"","s",(),"s",()],36)] (w11.setCell ⟨(w.heap.size+1),0,none⟩ (.int .i64 L))from J.out.set 1 0 (.int .i64 L) _ rfl);have a1:=Hq (show(w11.setCell ⟨(w.heap.size+1),0,none⟩ (.int .i64 L)).heap[g]? =some (.cells (Ak {xs with log:=l4} E) 36 (0,0))from by rw[Below.heap_setCell _ _ _ _ (by show g≠w.heap.size+1;omega)];exact bm.out);have O:=Hq (bn.out.set J.out.Aq (by decide) (by decide) (by decide) 0 (.int .i64 L));generalize w11.setCell ⟨(w.heap.size+1),0,none⟩ (.int .i64 L)=w12 at dh a1 O ⊢;clear ga gd J bm bn
   try simp only[Act.put]
   obtain⟨di,bo,eh,gf,ei,P⟩:=Bz Eb O.out.fr cd;rw[fw.out]at P;have gx:(xk:Int)<(d.length:Int):=(by omega);have ej:=show w12.cell? ⟨g,11,none⟩=some (.slice (some ⟨di,bo,none⟩) d.length E.fc)from(by rw[Aa a1.out,← eh,← O.out.fn];rfl);have ek:=Hq (show w12.rangeAt di (bo+xk*5) (Kw (⟨pg,f.bytes,f.pins,f.mark,V⟩:Fr))from P);clear P gf ei eh;have dj:=Hq (fun W=>Jy b L (by have:=Hg fk.out;omega) W);generalize Bl b L=z2 at dj df
   go_upto_region 22 with(first
    |(refine Da Kr fun K hK=>wp_load_mid 108 (.tmp 98) rfl di (bo+xk*5) rfl (Kw (⟨pg,f.bytes,f.pins,f.mark,V⟩:Fr)) _ ek.out Gy Kr Kr (hK _ _ ?_))
    |with_reducible refine sN (Fs (⟨pg,f.bytes,f.pins,f.mark,V⟩:Fr)) ?_)
   have az:=Ac w12 (.cells (Fs (⟨pg,f.bytes,f.pins,f.mark,V⟩:Fr)) 108);have dm:=Hq (dh.out.step az);have bp:=Hq (heap_alloc_new w12 (.cells (Fs (⟨pg,f.bytes,f.pins,f.mark,V⟩:Fr)) 108));have bq:=Hq (Af a1.out az);have br:=Hq (O.out.below az);have en:=O.out.ft.lt;have eo:g<w12.heap.size:=Bt a1.out;obtain⟨g2,c8⟩:=ex w12.heap.size;obtain⟨gy,b0⟩:=ex (w12.alloc (.cells (Fs (⟨pg,f.bytes,f.pins,f.mark,V⟩:Fr)) 108));rw[← c8,← b0]at bp;rw[← b0]at dm bq br;rw[← b0,← c8];rw[← c8]at eo;have ep:=Hq (show ∀ ad,E.F=some ad→ad.block≠g2 from fun ad e=>by have:=en ad e;omega);clear b0 c8 az dh a1 O ek ej en
   try simp only[Act.put]
   go_upto_region 23 with(go_at_call 12;refine(dj.out _).mono ?_;rintro e a6 ⟨rfl,a7⟩;have er:=Hq (dm.out.step a7);have cg:=Hq (Af bq.out a7);have a8:=Hq (Af bp.out a7);have cj:=Hq (br.out.below a7);have aa:=Hq (Cp 1 a8.out (.string z2));have dc:=show a6.cell? ⟨g2,1,none⟩=some (.string f.bytes)from(by rw[Aa a8.out];rfl);have dd:=Ap a8.out 1;have gg:=show(a6.setCell ⟨g2,1,none⟩ (.string z2)).cell? ⟨g2,3,none⟩=some (.bool f.mark)from(by rw[Aa aa.out];rfl);have gh:=Ap aa.out 3)
   have ck:=Hq (show((a6.setCell ⟨g2,1,none⟩ (.string z2)).setCell ⟨g2,3,none⟩ (.bool true)).heap[g2]? =some (.cells (Fs (⟨pg,z2,f.pins,true,V⟩:Fr)) 108 (0,0))from by have:=Cp 3 aa.out (.bool true);simpa using this);have bs:Below g2 a6 ((a6.setCell ⟨g2,1,none⟩ (.string z2)).setCell ⟨g2,3,none⟩ (.bool true)):=((show Below g2 a6 a6 from⟨rfl,rfl,rfl,Nat.le_refl _,fun _ _=>rfl⟩).setCell (p:=⟨g2,1,none⟩) (Nat.le_refl _) (.string z2)).setCell (p:=⟨g2,3,none⟩) (Nat.le_refl _) (.bool true);have et:=Hq (er.out.under (M:=g2) (by simp;omega) bs);have cm:=Hq ((bs.block g (by omega)).trans cg.out);have cn:=Hq ((cj.out.own a8.out ep.out 1 (.string z2)).own aa.out ep.out 3 (.bool true));generalize (a6.setCell ⟨g2,1,none⟩ (.string z2)).setCell ⟨g2,3,none⟩ (.bool true)=w16 at et cm ck cn ⊢;clear dm bq bp br er cg a8 cj aa dc dd gg gh a7 bs dj;have eu:=Hq (fun W hp=>Lm {xs with log:=l4} E d fv xk cd (⟨pg,z2,f.pins,true,V⟩:Fr) W hp);have dn:=Hq (fun(q4:SP) W (hp:Am W {xs with log:=l4} q4 (d.set xk (⟨pg,z2,f.pins,true,V⟩:Fr)))=>show Cq 235 #[Ah {xs with log:=l4} q4,.int .i64 (H:Int),.agg #[L,U,A,z,pg,C,(),o.kind,o.slot,o.By,o.new,G,rt,c.key,c.Ad,c.slot,"s","s"]] W fun e w'=>∃ q:SP,e= .returned (Ah {xs with log:=l4,txns:=xs.txns.set H {Fm xs.txns H with last:=L,next:=if z=3 then C else L}} q)∧Am w' {xs with log:=l4,txns:=xs.txns.set H {Fm xs.txns H with last:=L,next:=if z=3 then C else L}} q (d.set xk (⟨pg,z2,f.pins,true,V⟩:Fr))∧Bw W w' from aT {xs with log:=l4} q4 (d.set xk (⟨pg,z2,f.pins,true,V⟩:Fr)) (by show xs.txns.length≤800000;rw[cb.out];exact dp) H db (⟨L,U,A,z,pg,C,0,o,G,rt,c,[],[]⟩:Rc.Rec) W hp);rw[fx.out]at dn eu;obtain⟨s5,ev⟩:=ex ({xs with log:=l4,txns:=xs.txns.set H {Fm xs.txns H with last:=L,next:=if z=3 then C else L}}:Tx.St);rw[← ev]at dn df;clear ev;have H9:=et.out.drew;have hSn:w16.drew.heap[g]? =some (.cells (Ak {xs with log:=l4} E) 36 (0,0))∧w16.drew.heap[g2]? =some (.cells (Fs (⟨pg,z2,f.pins,true,V⟩:Fr)) 108 (0,0))∧w16.drew.heap[w.heap.size+1]? =some (.cells #[L,U,A,z,pg,C,(),o.kind,o.slot,o.By,o.new,G,rt,c.key,c.Ad,c.slot,"s","s"] 49 (0,0)):=⟨cm.out,ck.out,H9.Aq⟩;have ew:=cn.out.below (Below.refl _ w16).drew
   try simp only[Act.put]
   refine G7 (S:=(fun u=>u.heap[g]? =some (.cells (Ak {xs with log:=l4} E) 36 (0,0))∧u.heap[g2]? =some (.cells (Fs (⟨pg,z2,f.pins,true,V⟩:Fr)) 108 (0,0))∧u.heap[w.heap.size+1]? =some (.cells #[L,U,A,z,pg,C,(),o.kind,o.slot,o.By,o.new,G,rt,c.key,c.Ad,c.slot,"s","s"] 49 (0,0)))) (fun R=>?_);generalize w16.drew=w9 at hSn H9 ew ⊢;refine fA 0 Ar ?_;refine Bb 1 ?_;refine uU 2 (some 107) (v:=.agg (Fs (⟨pg,z2,f.pins,true,V⟩:Fr))) rfl (yieldsIf_load_mid (by rfl) 108 (.tmp 13) rfl g2 0 (by rfl) (Fs (⟨pg,z2,f.pins,true,V⟩:Fr)).toList _ (fun u hu=>(by intro j v hj;rw[Nat.zero_add,Aa hu.2.1];simpa using hj)) Gy Kr Kr) ?_
   try simp only[Act.put,pS]
   refine Bb 4 ?_;refine uU 5 (some 110) (v:=.agg #[L,U,A,z,pg,C,(),o.kind,o.slot,o.By,o.new,G,rt,c.key,c.Ad,c.slot,"s","s"]) rfl (yieldsIf_load_mid (by rfl) 49 (.tmp 3) rfl (w.heap.size+1) 0 (by rfl) #[.int .i64 L,.int .i64 U,.int .i64 A,.int .i64 z,.int .i64 pg,.int .i64 C,.int .i64 0,.int .i64 o.kind,.int .i64 o.slot,.string o.By,.string o.new,.int .i64 G,.int .i64 rt,.string c.key,.int .i64 c.Ad,.int .i64 c.slot,.slice none 0 0,.slice none 0 0].toList _ (fun u hu=>(by intro j v hj;rw[Nat.zero_add,Aa hu.2.2];simpa using hj)) C5 Kr Kr) ?_
   try simp only[Act.put,pS]
   refine Dg 3 fun K hK=>?_
   go_simp
   (refine(eu.out _ ew).mono ?_);rintro e gz ⟨q4,rfl,gi,b1⟩;have ae:=And.intro (Af hSn.1 b1) (And.intro (Af hSn.2.1 b1) (Af hSn.2.2 b1));clear hSn;have hSn:=ae;clear ae;have gj:=H9.step b1
   refine Cw hK (fun R=>?_);clear hK K;refine Dg 6 fun K hK=>?_
   go_simp
   (refine(dn.out _ _ gi).mono ?_);rintro e h0 ⟨q5,rfl,gk,b2⟩;have ae:=And.intro (Af hSn.1 b2) (And.intro (Af hSn.2.1 b2) (Af hSn.2.2 b2));clear hSn;have hSn:=ae;clear ae;have ca:=gj.step b2
   refine Cw hK (fun R=>?_);clear hK K;refine Dg 7 fun K hK=>?_;refine Cc (by rfl) ?_;refine sW (Ak s5 q5) ca.Cd ?_;have gl:=ca.row 2 (Ak s5 q5) _ rfl;have ey:=gk.other (t:=36) ca.Cd (by decide) (by decide) (by decide) (Ak s5 q5);have ae:=And.intro ((Ae _ _ (Ak s5 q5) _ (show g≠w.heap.size+2 by omega)).trans hSn.1) (And.intro ((Ae _ _ (Ak s5 q5) _ (show g2≠w.heap.size+2 by omega)).trans hSn.2.1) ((Ae _ _ (Ak s5 q5) _ (show w.heap.size+1≠w.heap.size+2 by omega)).trans hSn.2.2));clear hSn;have hSn:=ae;clear ae;refine Cw hK (fun R=>?_);clear hK K;refine Bb 8 ?_;refine wpAnyH_done Kr ?_ _;clear R;go_wp2_with fail;refine rT2 () ca.Cd Ar ?_;exact cq.out _ df.out _ q5 ey gl.below
 ·rw[decide_eq_false hn]at b9
  have gm:=Hq (show X=⟨s,fs,1⟩from by rw[hX];unfold Cg;rw[if_pos (fun hc=>hn hc.2)]);clear hX hn hD cp h hW;generalize Nz X w=Q at af ⊢;go_enter Tryz.func193,Tryz.ntmps193;go_upto_region 1 with fail;have H0:=Ol w (Ak s p) 36 #[(),(),A,z,pg,C,(),o.kind,o.slot,o.By,o.new,G,rt,c.key,c.Ad,c.slot,"s","s"] 49 #[(),(),(),"s",(),false,(),(),(),(),"","s",(),"s",()] 36;obtain⟨W0,bc⟩:=E0 H0;rw[← bc]at H0 ⊢;clear bc
  go_cut [28] (fun x wc=>x= .bool true∧Eg w.heap.size w [((Ak s p),36),(#[(),(),A,z,pg,C,(),o.kind,o.slot,o.By,o.new,G,rt,c.key,c.Ad,c.slot,"s","s"],49),(#[(),(),(),"s",(),false,(),(),(),(),"","s",(),"s",()],36)] wc)
  case first=>
   have cv:=show W0.cell? ⟨(w.heap.size+1),4,none⟩=some (.int .i64 pg)from(by rw[Aa H0.out.Aq];rfl);have fb:=show W0.cell? ⟨(w.heap.size+1),3,none⟩=some (.int .i64 z)from(by rw[Aa H0.out.Aq];rfl);rcases b8 with rfl|rfl
   all_goals
    go_wp2_with(first|with_reducible refine lL H0.out.Ao Ar ?_|(go_at_call 187;refine(b9.out _).mono ?_;rintro e w1 ⟨rfl,cw⟩;have H1:=Hq (H0.out.step cw)))
    go_meet
    case rel=>exact⟨rfl,H1.out⟩
  case rest=>
   obtain⟨rfl,bf⟩:=hcut;have H1:=Hq bf;clear bf
   go_wp2_with(first|with_reducible refine lL H1.out.Ao Ar ?_|with_reducible refine lS (Ak s p) H1.out.Cd ?_)
   refine rT2 (.int .i64 1) H1.out.Cd Ar ?_;exact af.out _ (H1.out.row 2 (Ak s p) _ rfl).below 1 gm.out
end Go.Proofs.YtmfkhdhnbkambaaGreatDoor
