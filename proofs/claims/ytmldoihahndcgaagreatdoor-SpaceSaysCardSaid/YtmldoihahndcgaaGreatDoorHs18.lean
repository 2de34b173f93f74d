import Derived.Test.YtmldoihahndcgaaGreatDoorHs00
import Derived.Test.YtmldoihahndcgaaGreatDoorHs17
import Derived.Test.YtmldoihahndcgaaGreatDoorHs13
import Derived.Test.YtmldoihahndcgaaGreatDoorHs10
import Derived.Test.YtmldoihahndcgaaGreatDoorHs06
import Derived.Test.YtmldoihahndcgaaGreatDoorHs05
set_option maxRecDepth 100000
set_option maxHeartbeats 16000000
set_option linter.unusedSimpArgs false
namespace Go.Proofs.YtmldoihahndcgaaGreatDoor
open Go.RowKit Sc
theorem Oi (s:Tx.St)(p:SP)(b:Tx.Y4 s)(r:Rc.Rec)(q:r.txns=[])(t:r.dirty=[])(w:World)(l:r.kind=1∨r.kind=2∨r.kind=3∨r.kind=8):
 Cr 188 #[Ag s p,.agg (Dz r (.slice none 0 0) (.slice none 0 0))] w (.tuple #[Ag {s with log:=(Lg.Aw s.log r).1} p,.int .i64 (Lg.Aw s.log r).2.1,.int .i64 (Lg.Aw s.log r).2.2]):=by
 have u:=Hq (fun W=>show Cq 103 #[Kv s.log,.agg (Dz r (.slice none 0 0) (.slice none 0 0))] W (V1 (Lg.Aw s.log r) W)from by
  have v:=Zm s.log b.e0 (by have:=b.e1;omega) (by have:=b.n0;omega) (by have:=b.n1;omega) (by have:=b.t0;have:=b.e1;omega) r none none 0 0 W (R7 r W q t) l;simp only[q,t,List.length_nil]at v;exact v)
 generalize Lg.Aw s.log r=x at u ⊢;go_enter Tryz.func188,Tryz.ntmps188;go_upto_region 1 with fail;have c:=Q6 w (Aj s p) 36 (Dz r (.slice none 0 0) (.slice none 0 0)) 88 #[(),(),(),'s',(),false,(),(),(),(),"",'s',(),'s',()] 36;obtain⟨z,d⟩:=Ee c;rw[← d]at c ⊢;clear d
 go_upto_region 2 with(first
  |with_reducible refine lP #[s.log.from_,s.log.n,s.log.end_,s.log.safe,s.log.tail] c.out.Ai Fi ?_
  |with_reducible refine lL c.out.Am Da ?_
  |(go_at_call 103;(with_reducible refine(u.out _).mono ?_);rintro e f ⟨rfl,h⟩;have H1:=Hq (c.out.step h);clear h)
  |with_reducible refine sN #[x.1.from_,x.1.n,x.1.end_,x.1.safe,x.1.tail] ?_)
 have m:=Hq (H1.out.step (Ab f (.cells #[x.1.from_,x.1.n,x.1.end_,x.1.safe,x.1.tail] 30)));have y:=Hq (heap_alloc_new f (.cells #[x.1.from_,x.1.n,x.1.end_,x.1.safe,x.1.tail] 30));have o:w.heap.size+2<f.heap.size:=H1.out.lt (i:=2) (by simp);obtain⟨g,k⟩:=ex f.heap.size;obtain⟨A,a⟩:=ex (f.alloc (.cells #[x.1.from_,x.1.n,x.1.end_,x.1.safe,x.1.tail] 30));rw[← k,← a]at y;rw[← a]at m;rw[← a,← k];rw[← k]at o;clear a k c H1
 try simp only[Act.put]
 go_upto_region 3 with(first
  |with_reducible refine lL y.out Fi ?_
  |with_reducible refine lU #[x.1.from_,x.1.n,x.1.end_,x.1.safe,x.1.tail] (Aj {s with log:=x.1} p) m.out.Ai ?_)
 have j:=Hq (m.out.row 0 (Aj {s with log:=x.1} p) _ rfl);have B:=j.out.Ai
 go_wp2_with(first
  |with_reducible refine lL j.out.Ai Ar ?_
  |with_reducible refine lS (Aj {s with log:=x.1} p) j.out.Cj ?_)
 refine rT3 (x.2.1) (x.2.2) j.out.Cj Ar ?_;exact⟨rfl,(j.out.row 2 (Aj {s with log:=x.1} p) _ rfl).below⟩
theorem Zw {N n B:Nat}(s:Tx.St)(p:SP)(fs:List Fr)(hW:Wf N n B s fs)(k:Nat)(hk:k<fs.length)(w:World)(h:Ao w s p fs):
 Cq 187 #[Ag s p,.int .i64 (k:Int)] w (Ie (if(Fp s fs[k] fs[k].Ac).2.2=0 then⟨{s with log:=(Fp s fs[k] fs[k].Ac).1},fs.set k {fs[k]with rc:=(Fp s fs[k] fs[k].Ac).2.1},0⟩else⟨s,fs,(Fp s fs[k] fs[k].Ac).2.2⟩) w):=by
 have aj:fs.length≤100:=by have:=hW.nf;omega
 have H:=(hW.fr k hk).rc.1;have a1:=Hq (fun(b:ByteArray) (pg:Int) W=>Oi s p hW.lb (Od pg b) rfl rfl W (.inr (.inr (.inr rfl))));have HP:=Hq h;have ak:=Hq h.fn;have b3:(0:Int)≤(k:Int):=by omega
 have b4:(k:Int)<(fs.length:Int):=by omega
 have a6:=h.ft.lt;obtain⟨f,u⟩:=ex (fs[k]);rw[← u]at H ⊢;have an:=Hq u;obtain⟨X,hX⟩:=ex (if(Fp s f f.Ac).2.2=0 then⟨{s with log:=(Fp s f f.Ac).1},fs.set k {f with rc:=(Fp s f f.Ac).2.1},0⟩else⟨s,fs,(Fp s f f.Ac).2.2⟩:Px);rw[← hX];have HZ:=Hq (fun(r:¬ f.rc=0) W (I:Bw w W)=>show Ie X w (.returned (.tuple #[Ag s p,()])) W from by
  have e:X=⟨s,fs,0⟩:=by
   rw[hX];unfold Fp;rw[if_neg r];simp only;rw[if_pos trivial,u,List.set_getElem_self]
  rw[e];exact⟨p,rfl,h.below I,I⟩)
 have V:=Hq (fun(r:f.rc=0) (m:¬ (Lg.Aw s.log (Od f.Ac f.bytes)).2.2=0) W (I:Bw w W)=>show Ie X w (.returned (.tuple #[Ag s p,.int .i64 (Lg.Aw s.log (Od f.Ac f.bytes)).2.2])) W from by
  have e:X=⟨s,fs,(Lg.Aw s.log (Od f.Ac f.bytes)).2.2⟩:=by rw[hX];unfold Fp;rw[if_pos r,if_neg m]
  rw[e];exact⟨p,rfl,h.below I,I⟩)
 have Y:=Hq (fun(r:f.rc=0) (m:(Lg.Aw s.log (Od f.Ac f.bytes)).2.2=0) W (q:SP) (hp:Ao W {s with log:=(Lg.Aw s.log (Od f.Ac f.bytes)).1} q (fs.set k {f with rc:=(Lg.Aw s.log (Od f.Ac f.bytes)).2.1})) (I:Bw w W)=>show Ie X w (.returned (.tuple #[Ag {s with log:=(Lg.Aw s.log (Od f.Ac f.bytes)).1} q,()])) W from by
  have e:X=⟨{s with log:=(Lg.Aw s.log (Od f.Ac f.bytes)).1},fs.set k {f with rc:=(Lg.Aw s.log (Od f.Ac f.bytes)).2.1},0⟩:=by rw[hX];unfold Fp;rw[if_pos r,if_pos m]
  rw[e];exact⟨q,rfl,hp,I⟩)
 have d:=Hq (fun W=>show Cq 188 #[Ag s p,.agg #[(),(),(),.int .i64 8,f.Ac,(),(),.int .i64 7,(),"",f.bytes,(),(),"",(),(),'s','s']] W _ from a1.out f.bytes f.Ac W);generalize Ie X w=Q at HZ V Y ⊢;generalize Lg.Aw s.log (Od f.Ac f.bytes)=ap at V Y d;obtain⟨o,D,e3⟩:=ap;simp only at V Y d;clear hX h hW u a1;go_enter Tryz.func187,Tryz.ntmps187;go_upto_region 1 with fail;have E:=Hp w (Aj s p) 36 #[(),(),(),'s',(),false,(),(),(),(),"",'s',(),'s',()] 36;obtain⟨J,a7⟩:=Ee E;rw[← a7]at E ⊢;clear a7;have L:=Hq (HP.out.below E.out.below);obtain⟨b,off,a8,ao,aq,a⟩:=Bu Dh L.out.fr hk;rw[← an.out]at a;have hc:=show J.cell? ⟨w.heap.size,11,none⟩=some (.slice (some ⟨b,off,none⟩) fs.length p.fc)from by rw[Aa E.out.Ai,← a8,← ak.out];rfl
 have aa:=Hq (show J.rangeAt b (off+k*5) (Ib f)from a);clear a ao aq a8
 go_upto_region 2 with(first
  |(refine Cw Kr fun K hK=>wp_load_mid 116 (.tmp 14) rfl b (off+k*5) rfl (Ib f) _ aa.out Fw Kr Kr (hK _ _ ?_))
  |with_reducible refine sN (Er f) ?_)
 have O:=Ab J (.cells (Er f) 116);have G:=Hq (E.out.step O);have c:=Hq (heap_alloc_new J (.cells (Er f) 116));have P:=Hq (L.out.below O);have ae:w.heap.size+1<J.heap.size:=E.out.lt (i:=1) (by simp);obtain⟨g,hg⟩:=ex J.heap.size;obtain⟨w5,v⟩:=ex (J.alloc (.cells (Er f) 116));rw[← hg,← v]at c;rw[← v]at G P;rw[← v,← hg];rw[← hg]at ae;have ar:=Hq (show ∀ ad,p.F=some ad→ad.block≠g from fun ad e=>by
  have m:=a6 ad e;have h2:=E.out.below.size;have h3:=ae;omega)
 have au:g<w5.heap.size:=By c.out;clear v hg O aa E L hc a6
 try simp only[Act.put]
 have R:=show w5.cell? ⟨g,4,none⟩=some (.int .i64 f.rc)from by rw[Aa c.out];rfl
 by_cases r:f.rc=0
 ·have av:¬ (0:Int)<f.rc:=by omega
  have x:=Hq r;have aw:=show w5.cell? ⟨g,0,none⟩=some (.int .i64 f.Ac)from(by rw[Aa c.out];rfl);have ax:=show w5.cell? ⟨g,1,none⟩=some (.string f.bytes)from(by rw[Aa c.out];rfl);clear r H HZ
  go_upto_region 5 with(first
   |with_reducible refine lL G.out.Ai Ar ?_
   |(go_at_call 188;refine(d.out _).mono ?_;rintro e Z ⟨rfl,y⟩)
   |with_reducible refine sN (Aj {s with log:=o} p) ?_)
  have z:=y.trans ((Ab Z (.cells (Aj {s with log:=o} p) 36)).mono y.size);have S:=Hq (G.out.step z);have T:=Hq (heap_alloc_new Z (.cells (Aj {s with log:=o} p) 36));have j:=Hq (Ae c.out z);have U:=Hq (show Ao (Z.alloc (.cells (Aj {s with log:=o} p) 36)) {s with log:=o} p fs from by
   have m:=P.out.below z;exact⟨⟨m.st.dk,m.st.dt,m.st.tx,m.st.tt⟩,m.fn,m.fr,m.ft⟩)
  have af:g<Z.heap.size:=Nat.lt_of_lt_of_le au y.size;obtain⟨g2,A⟩:=ex Z.heap.size;obtain⟨w7,C⟩:=ex (Z.alloc (.cells (Aj {s with log:=o} p) 36));rw[← A,← C]at T;rw[← C]at S j U;rw[← C,← A];rw[← A]at af;clear C A y z G c P aw ax R d
  try simp only[Act.put]
  by_cases l:e3=0
  ·have ay:(e3 != 0)=false:=by rw[l];rfl
   have HE:=Hq l;have R:=show w7.cell? ⟨g,4,none⟩=some (.int .i64 f.rc)from(by rw[Aa j.out];rfl);have az:=Ap j.out 4;have b0:=Hq (fun W (hp:Ao W {s with log:=o} p fs)=>Hd {s with log:=o} p fs aj k hk {f with rc:=D} W hp);clear l V;go_upto_region 8 with fail;have ag:=Hq (show(w7.setCell ⟨g,4,none⟩ (.int .i64 D)).heap[g]? =some (.cells (Er {f with rc:=D}) 116 (0,0))from by have:=Cb 4 j.out (.int .i64 D);simpa using this);have H8:=Hq (S.out.under (M:=g) (by simp;omega) ((show Below g w7 w7 from⟨rfl,rfl,rfl,Nat.le_refl _,fun _ _=>rfl⟩).setCell (p:=⟨g,4,none⟩) (Nat.le_refl _) (.int .i64 D)));have ah:=Hq (show(w7.setCell ⟨g,4,none⟩ (.int .i64 D)).heap[g2]? =some (.cells (Aj {s with log:=o} p) 36 (0,0))from by rw[Below.heap_setCell _ _ _ _ (by show g2≠g;omega)];exact T.out);have ai:=Hq (U.out.own j.out ar.out 4 (.int .i64 D));generalize w7.setCell ⟨g,4,none⟩ (.int .i64 D)=w8 at ag H8 ah ai ⊢;clear R az S T j U
   try simp only[Act.put]
   go_wp2_with(first
    |with_reducible refine lL ah.out Ar ?_
    |with_reducible refine lL ag.out Fw ?_
    |(go_at_call 169;refine(b0.out _ ai.out).mono ?_;rintro e w9 ⟨q,rfl,b1,b2⟩;have H9:=Hq (H8.out.step b2))
    |with_reducible refine lS (Aj {s with log:=o} q) H9.out.Am ?_)
   refine rT2 () H9.out.Am Ar ?_;exact Y.out x.out HE.out _ q (b1.other (t:=36) H9.out.Am (by decide) (by decide) (by decide) _) (H9.out.row 1 (Aj {s with log:=o} q) _ rfl).below
  ·have ay:(e3 != 0)=true:=by rw[bne_iff_ne];exact l
   have HE:=Hq l;clear l Y
   go_wp2_with(first|with_reducible refine lL S.out.Ai Ar ?_|with_reducible refine lS (Aj s p) S.out.Am ?_)
   refine rT2 e3 S.out.Am Ar ?_;exact V.out x.out HE.out _ (S.out.row 1 (Aj s p) _ rfl).below
 ·have av:(0:Int)<f.rc:=by omega
  have x:=Hq r;clear r H V Y
  go_wp2_with(first|with_reducible refine lL G.out.Ai Ar ?_|with_reducible refine lS (Aj s p) G.out.Am ?_)
  refine rT2 () G.out.Am Ar ?_;exact HZ.out x.out _ (G.out.row 1 (Aj s p) _ rfl).below
theorem kA (s:Tx.St)(p:SP)(fs:List Fr)(ag:s.txns.length≤800000)(k:Nat)(hk:k<s.txns.length)(r:Rc.Rec)(V:¬ r.kind=3)(w:World)(h:Ao w s p fs):
 Cq 189 #[Ag s p,k,.agg (Dz r (.slice none 0 0) (.slice none 0 0))] w fun e w'=>∃ q:SP,e= .returned (Ag {s with txns:=(s.txns.set k {Fq s.txns k with last:=r.lsn,next:=if r.kind=3 then r.next else r.lsn})} q)∧Ao w' {s with txns:=(s.txns.set k {Fq s.txns k with last:=r.lsn,next:=if r.kind=3 then r.next else r.lsn})} q fs∧Bw w w':=by
 obtain⟨i0,W,X,Y,Z⟩:=info_parts Yz;have HP:=Hq h;have ah:(r.kind==3)=false:=beq_eq_false_iff_ne.2 V;have a1:=Hq V;obtain⟨TN,n⟩:∃ TN:List Rc.A9,TN=(s.txns.set k {Fq s.txns k with last:=r.lsn,next:=if r.kind=3 then r.next else r.lsn}):=⟨_,rfl⟩;rw[← n];have a6:=Hq n;clear h V n;have af:(0:Int)≤(k:Int):=by omega
 have ai:(k:Int)<(s.txns.length:Int):=by omega
 go_enter Tryz.func189,Tryz.ntmps189;go_upto_region 1 with fail;have f:=Q6 w (Aj s p) 36 (Dz r (.slice none 0 0) (.slice none 0 0)) 88 #[(),(),(),'s',(),false,(),(),(),(),"",'s',(),'s',()] 36;obtain⟨j,C⟩:=Ee f;rw[← C]at f ⊢;clear C;have D:=Hq (HP.out.below f.out.below);have b:=Ab j (.cells #[] 134);have a7:(j.alloc (.cells #[] 134)).cell? ⟨w.heap.size,13,none⟩=some (.slice p.T s.txns.length p.tc):=by rw[b.cell (p:=⟨w.heap.size,13,none⟩) (f.out.lt (i:=0) (by simp)),Aa f.out.Ai];rfl
 have E:=D.out.st.tx.below b
 go_upto_region 2 with(at_builtin;refine Cw Kr fun K o=>Ki (j.alloc (.cells #[] 134)) (.tmp 8) (.tmp 10) 34 134 i0 (.agg #[(),(),(),false]) 4 32 cE W X Y Z rfl (by omega) rfl j.heap.size _ 0 [] rfl (Jt j 134 4) p.T s.txns.length p.tc (s.txns.flatMap Fz) rfl E (by rw[Cc Dw]) (Qp s.txns) (by omega) (by omega) b.size ?_;intro v2 Q R hg hb;refine o _ _ ?_)
 rw[List.nil_append,Nat.zero_add]at R;obtain⟨g,c2,rfl,F⟩:=Ji R (by omega);have hM:w.heap.size+3≤j.heap.size:=f.out.lt (i:=2) (by simp);have hSn:D6 w.heap.size w [((Aj s p),36),((Dz r (.slice none 0 0) (.slice none 0 0)),88),(#[(),(),(),'s',(),false,(),(),(),(),"",'s',(),'s',()],36)] Q.drew:=(f.out.step (b.trans hb)).drew;have hO:World.ownsRow Q.drew j.heap.size 134 4 (.slice (some ⟨g,0,none⟩) s.txns.length c2) s.txns.length (s.txns.flatMap Fz):=Db R (Below.refl _ Q).drew;obtain⟨t,v⟩:=ex ({s.txns[k]with last:=r.lsn}:Rc.A9);obtain⟨U,x⟩:=ex ({t with next:=r.lsn}:Rc.A9);have G:k<(s.txns.set k t).length:=by rw[List.length_set];exact hk
 have l:Fz U=(Fz (s.txns.set k t)[k]).set 2 (.int .i64 r.lsn):=by rw[List.getElem_set_self,x];rfl
 have m:Fz t=(Fz s.txns[k]).set 1 (.int .i64 r.lsn):=by rw[v];rfl
 have H:=Hq (show(s.txns.set k t).set k U=TN from by rw[a6.out,List.set_set,Jk hk,x,v,if_neg a1.out]);clear v x a7 E hg hb b R f D;have Hy:=Hq (fun(u:World) (a8:D6 w.heap.size w [((Aj s p),36),((Dz r (.slice none 0 0) (.slice none 0 0)),88),(#[(),(),(),'s',(),false,(),(),(),(),"",'s',(),'s',()],36)] u)=>(show u.cell? ⟨w.heap.size+1,0,none⟩=some (.int .i64 r.lsn)from by rw[Aa a8.Am];rfl));refine Gd (S:=(fun u=>D6 w.heap.size w [((Aj s p),36),((Dz r (.slice none 0 0) (.slice none 0 0)),88),(#[(),(),(),'s',(),false,(),(),(),(),"",'s',(),'s',()],36)] u)) (fun a=>?_);generalize Q.drew=w9 at hSn hO ⊢;refine Au 0 ?_;refine Au 1 ?_;refine Au 2 ?_;refine Au 3 ?_;refine Au 4 ?_;refine Au 5 ?_;refine Au 6 ?_;refine Au 7 ?_;refine Au 8 ?_;refine Au 9 ?_;refine Ch 10 fun K o=>?_;obtain⟨y,z,c⟩:=Ff hO rfl k hk 1 (by omega) (.int .i64 r.lsn) t m;have d:=hSn.under (M:=g) (by have:=F;simp;omega) ((Below.refl _ w9).setCell (p:=⟨g,k*4+1,none⟩) (Nat.le_refl _) (.int .i64 r.lsn))
 go_simp
 clear hSn hO y z;have hSn:=d;have hO:=c;clear d c;generalize w9.setCell ⟨g,k*4+1,none⟩ (.int .i64 r.lsn)=w3 at hSn hO ⊢;refine Bq o (fun a=>?_);clear o K;refine Au 11 ?_;refine Au 12 ?_;refine Ch 13 fun K o=>?_;obtain⟨y,z,c⟩:=Ff hO (by rw[List.length_set]) k G 2 (by omega) (.int .i64 r.lsn) U l;have d:=hSn.under (M:=g) (by have:=F;simp;omega) ((Below.refl _ w3).setCell (p:=⟨g,k*4+2,none⟩) (Nat.le_refl _) (.int .i64 r.lsn))
 go_simp
 clear hSn hO y z;have hSn:=d;have hO:=c;clear d c;generalize w3.setCell ⟨g,k*4+2,none⟩ (.int .i64 r.lsn)=w4 at hSn hO ⊢;refine Bq o (fun a=>?_);clear o K;refine wpAnyH_done Kr ?_ _;obtain⟨M,A⟩:=ex ((s.txns.set k t).set k U);rw[← A]at hO H;clear a;have hlen:M.length=s.txns.length:=by rw[A,List.length_set,List.length_set]
 have I:=Hq hSn;have J:=Hq hO;have L:=Hq hlen;clear hSn hO A hlen G l m;have aa:=show w4.cell? ⟨w.heap.size+1,3,none⟩=some (.int .i64 r.kind)from by rw[Aa I.out.Am];rfl
 have ad:=show w4.cell? ⟨w.heap.size,13,none⟩=some (.slice p.T s.txns.length p.tc)from by rw[Aa I.out.Ai];rfl
 have ae:=Ap I.out.Ai 13;go_upto_region 6 with fail;have HL:=L.out;have N:=Hq (show D6 w.heap.size w [((Aj {s with txns:=M} {p with T:=some ⟨g,0,none⟩,tc:=c2}),36),((Dz r (.slice none 0 0) (.slice none 0 0)),88),(#[(),(),(),'s',(),false,(),(),(),(),"",'s',(),'s',()],36)] (w4.setCell ⟨w.heap.size,13,none⟩ (.slice (some ⟨g,0,none⟩) s.txns.length c2))from by have h5:=I.out.set 0 13 (.slice (some ⟨g,0,none⟩) s.txns.length c2) _ rfl;rw[← HL]at h5 ⊢;exact h5);have O:=Hq (Jm J.out ⟨w.heap.size,13,none⟩ (.slice (some ⟨g,0,none⟩) s.txns.length c2) (by show w.heap.size<j.heap.size;omega));generalize w4.setCell ⟨w.heap.size,13,none⟩ (.slice (some ⟨g,0,none⟩) s.txns.length c2)=w5 at N O ⊢;clear ad ae aa I J HL
 go_wp2_with(first|with_reducible refine lL N.out.Ai Ar ?_|with_reducible refine lS (Aj {s with txns:=M} {p with T:=some ⟨g,0,none⟩,tc:=c2}) N.out.Cj ?_)
 have HF:=Hq (N.out.row 2 (Aj {s with txns:=M} {p with T:=some ⟨g,0,none⟩,tc:=c2}) _ rfl).below;refine rT1 N.out.Cj Ar ?_;have B:=Ew O.out (w.heap.size+2) (Aj {s with txns:=M} {p with T:=some ⟨g,0,none⟩,tc:=c2}) (by omega);rw[← L.out]at B;have P:=HP.out.below HF.out;rw[← H.out];exact⟨{p with T:=some ⟨g,0,none⟩,tc:=c2},rfl,⟨⟨P.st.dk,P.st.dt,Dr B,(Cp.own B).mono (Nat.zero_le _)⟩,P.fn,P.fr,P.ft⟩,HF.out⟩
theorem kB (s:Tx.St)(p:SP)(fs:List Fr)(ao:s.txns.length≤800000)(k:Nat)(hk:k<s.txns.length)(r:Rc.Rec)(hr:r.kind=3)(w:World)(h:Ao w s p fs):
 Cq 189 #[Ag s p,k,.agg (Dz r (.slice none 0 0) (.slice none 0 0))] w fun e w'=>∃ q:SP,e= .returned (Ag {s with txns:=(s.txns.set k {Fq s.txns k with last:=r.lsn,next:=if r.kind=3 then r.next else r.lsn})} q)∧Ao w' {s with txns:=(s.txns.set k {Fq s.txns k with last:=r.lsn,next:=if r.kind=3 then r.next else r.lsn})} q fs∧Bw w w':=by
 obtain⟨i0,a1,a6,a7,a8⟩:=info_parts Yz;have HP:=Hq h;have aq:(r.kind==3)=true:=by rw[hr];rfl
 have aa:=Hq hr;obtain⟨TN,D⟩:∃ TN:List Rc.A9,TN=(s.txns.set k {Fq s.txns k with last:=r.lsn,next:=if r.kind=3 then r.next else r.lsn}):=⟨_,rfl⟩;rw[← D];have ad:=Hq D;clear h hr D;have an:(0:Int)≤(k:Int):=by omega
 have ar:(k:Int)<(s.txns.length:Int):=by omega
 go_enter Tryz.func189,Tryz.ntmps189;go_upto_region 1 with fail;have x:=Q6 w (Aj s p) 36 (Dz r (.slice none 0 0) (.slice none 0 0)) 88 #[(),(),(),'s',(),false,(),(),(),(),"",'s',(),'s',()] 36;obtain⟨y,P⟩:=Ee x;rw[← P]at x ⊢;clear P;have Q:=Hq (HP.out.below x.out.below);have d:=Ab y (.cells #[] 134);have ae:(y.alloc (.cells #[] 134)).cell? ⟨w.heap.size,13,none⟩=some (.slice p.T s.txns.length p.tc):=by rw[d.cell (p:=⟨w.heap.size,13,none⟩) (x.out.lt (i:=0) (by simp)),Aa x.out.Ai];rfl
 have R:=Q.out.st.tx.below d
 go_upto_region 2 with(at_builtin;refine Cw Kr fun K E=>Ki (y.alloc (.cells #[] 134)) (.tmp 8) (.tmp 10) 34 134 i0 (.agg #[(),(),(),false]) 4 32 cE a1 a6 a7 a8 rfl (by omega) rfl y.heap.size _ 0 [] rfl (Jt y 134 4) p.T s.txns.length p.tc (s.txns.flatMap Fz) rfl R (by rw[Cc Dw]) (Qp s.txns) (by omega) (by omega) d.size ?_;intro v2 w2 ho hg hb;refine E _ _ ?_)
 rw[List.nil_append,Nat.zero_add]at ho;obtain⟨g,c2,rfl,F⟩:=Ji ho (by omega);have hM:w.heap.size+3≤y.heap.size:=x.out.lt (i:=2) (by simp);have hSn:D6 w.heap.size w [((Aj s p),36),((Dz r (.slice none 0 0) (.slice none 0 0)),88),(#[(),(),(),'s',(),false,(),(),(),(),"",'s',(),'s',()],36)] w2.drew:=(x.out.step (d.trans hb)).drew;have hO:World.ownsRow w2.drew y.heap.size 134 4 (.slice (some ⟨g,0,none⟩) s.txns.length c2) s.txns.length (s.txns.flatMap Fz):=Db ho (Below.refl _ w2).drew;obtain⟨o,G⟩:=ex ({s.txns[k]with last:=r.lsn}:Rc.A9);obtain⟨H,I⟩:=ex ({o with next:=r.lsn}:Rc.A9);have U:k<(s.txns.set k o).length:=by rw[List.length_set];exact hk
 have z:Fz H=(Fz (s.txns.set k o)[k]).set 2 (.int .i64 r.lsn):=by rw[List.getElem_set_self,I];rfl
 have A:Fz o=(Fz s.txns[k]).set 1 (.int .i64 r.lsn):=by rw[G];rfl
 obtain⟨O,J⟩:=ex ({H with next:=r.next}:Rc.A9);have au:k<((s.txns.set k o).set k H).length:=by rw[List.length_set,List.length_set];exact hk
 have B:Fz O=(Fz ((s.txns.set k o).set k H)[k]).set 2 (.int .i64 r.next):=by rw[List.getElem_set_self,J];rfl
 have L:=Hq (show((s.txns.set k o).set k H).set k O=TN from by rw[ad.out,List.set_set,List.set_set,Jk hk,J,I,G,if_pos aa.out]);clear J;clear G I ae R hg hb d ho x Q;have Hy:=Hq (fun(u:World) (af:D6 w.heap.size w [((Aj s p),36),((Dz r (.slice none 0 0) (.slice none 0 0)),88),(#[(),(),(),'s',(),false,(),(),(),(),"",'s',(),'s',()],36)] u)=>(show u.cell? ⟨w.heap.size+1,0,none⟩=some (.int .i64 r.lsn)from by rw[Aa af.Am];rfl));refine Gd (S:=(fun u=>D6 w.heap.size w [((Aj s p),36),((Dz r (.slice none 0 0) (.slice none 0 0)),88),(#[(),(),(),'s',(),false,(),(),(),(),"",'s',(),'s',()],36)] u)) (fun b=>?_);generalize w2.drew=w9 at hSn hO ⊢;refine Au 0 ?_;refine Au 1 ?_;refine Au 2 ?_;refine Au 3 ?_;refine Au 4 ?_;refine Au 5 ?_;refine Au 6 ?_;refine Au 7 ?_;refine Au 8 ?_;refine Au 9 ?_;refine Ch 10 fun K E=>?_;obtain⟨f,j,a⟩:=Ff hO rfl k hk 1 (by omega) (.int .i64 r.lsn) o A;have l:=hSn.under (M:=g) (by have:=F;simp;omega) ((Below.refl _ w9).setCell (p:=⟨g,k*4+1,none⟩) (Nat.le_refl _) (.int .i64 r.lsn))
 go_simp
 clear hSn hO f j;have hSn:=l;have hO:=a;clear l a;generalize w9.setCell ⟨g,k*4+1,none⟩ (.int .i64 r.lsn)=w3 at hSn hO ⊢;refine Bq E (fun b=>?_);clear E K;refine Au 11 ?_;refine Au 12 ?_;refine Ch 13 fun K E=>?_;obtain⟨f,j,a⟩:=Ff hO (by rw[List.length_set]) k U 2 (by omega) (.int .i64 r.lsn) H z;have l:=hSn.under (M:=g) (by have:=F;simp;omega) ((Below.refl _ w3).setCell (p:=⟨g,k*4+2,none⟩) (Nat.le_refl _) (.int .i64 r.lsn))
 go_simp
 clear hSn hO f j;have hSn:=l;have hO:=a;clear l a;generalize w3.setCell ⟨g,k*4+2,none⟩ (.int .i64 r.lsn)=w4 at hSn hO ⊢;refine Bq E (fun b=>?_);clear E K;refine wpAnyH_done Kr ?_ _;obtain⟨M,t⟩:=ex ((s.txns.set k o).set k H);rw[← t]at hO L;clear b;have hlen:M.length=s.txns.length:=by rw[t,List.length_set,List.length_set]
 have HS:=Hq hSn;have V:=Hq hO;have v:=Hq hlen;clear hSn hO hlen U z A;have ag:k<M.length:=by rw[v.out];exact hk
 have C:Fz O=(Fz M[k]).set 2 (.int .i64 r.next):=by subst t;exact B
 obtain⟨f,j,a⟩:=Ff V.out (by rw[v.out]) k ag 2 (by omega) (.int .i64 r.next) O C;have ah:=show w4.cell? ⟨w.heap.size+1,5,none⟩=some (.int .i64 r.next)from by rw[Aa HS.out.Am];rfl
 have ai:=show w4.cell? ⟨w.heap.size+1,3,none⟩=some (.int .i64 r.kind)from by rw[Aa HS.out.Am];rfl
 clear t B C;go_upto_region 5 with fail;have m:=Hq (HS.out.under (M:=g) (by have:=F;simp;omega) ((Below.refl _ w4).setCell (p:=⟨g,k*4+2,none⟩) (Nat.le_refl _) (.int .i64 r.next)));have c:=Hq a;have n:=Hq (show(M.set k O).length=s.txns.length from by rw[List.length_set];exact v.out);generalize w4.setCell ⟨g,k*4+2,none⟩ (.int .i64 r.next)=w4b at m c ⊢;clear f j a ah ai HS V v;obtain⟨M3,W⟩:=ex (M.set k O);rw[← W]at c n L;clear W
 try simp only[Act.put]
 have aj:=show w4b.cell? ⟨w.heap.size,13,none⟩=some (.slice p.T s.txns.length p.tc)from by rw[Aa m.out.Ai];rfl
 have ak:=Ap m.out.Ai 13;go_upto_region 6 with fail;have HL:=n.out;have X:=Hq (show D6 w.heap.size w [((Aj {s with txns:=M3} {p with T:=some ⟨g,0,none⟩,tc:=c2}),36),((Dz r (.slice none 0 0) (.slice none 0 0)),88),(#[(),(),(),'s',(),false,(),(),(),(),"",'s',(),'s',()],36)] (w4b.setCell ⟨w.heap.size,13,none⟩ (.slice (some ⟨g,0,none⟩) s.txns.length c2))from by have h5:=m.out.set 0 13 (.slice (some ⟨g,0,none⟩) s.txns.length c2) _ rfl;rw[← HL]at h5 ⊢;exact h5);have Y:=Hq (Jm c.out ⟨w.heap.size,13,none⟩ (.slice (some ⟨g,0,none⟩) s.txns.length c2) (by show w.heap.size<y.heap.size;omega));generalize w4b.setCell ⟨w.heap.size,13,none⟩ (.slice (some ⟨g,0,none⟩) s.txns.length c2)=w5 at X Y ⊢;clear aj ak m c HL
 go_wp2_with(first|with_reducible refine lL X.out.Ai Ar ?_|with_reducible refine lS (Aj {s with txns:=M3} {p with T:=some ⟨g,0,none⟩,tc:=c2}) X.out.Cj ?_)
 have HF:=Hq (X.out.row 2 (Aj {s with txns:=M3} {p with T:=some ⟨g,0,none⟩,tc:=c2}) _ rfl).below;refine rT1 X.out.Cj Ar ?_;have N:=Ew Y.out (w.heap.size+2) (Aj {s with txns:=M3} {p with T:=some ⟨g,0,none⟩,tc:=c2}) (by omega);rw[← n.out]at N;have Z:=HP.out.below HF.out;rw[← L.out];exact⟨{p with T:=some ⟨g,0,none⟩,tc:=c2},rfl,⟨⟨Z.st.dk,Z.st.dt,Dr N,(Cp.own N).mono (Nat.zero_le _)⟩,Z.fn,Z.fr,Z.ft⟩,HF.out⟩
theorem Zx (s:Tx.St)(p:SP)(fs:List Fr)(a:s.txns.length≤800000)(k:Nat)(hk:k<s.txns.length)(r:Rc.Rec)(w:World)(h:Ao w s p fs):
 Cq 189 #[Ag s p,k,.agg (Dz r (.slice none 0 0) (.slice none 0 0))] w fun e w'=>∃ q:SP,e= .returned (Ag {s with txns:=(s.txns.set k {Fq s.txns k with last:=r.lsn,next:=if r.kind=3 then r.next else r.lsn})} q)∧Ao w' {s with txns:=(s.txns.set k {Fq s.txns k with last:=r.lsn,next:=if r.kind=3 then r.next else r.lsn})} q fs∧Bw w w':=by
 by_cases b:r.kind=3
 ·exact kB s p fs a k hk r b w h
 ·exact kA s p fs a k hk r b w h
theorem kC (s:Tx.St)(p:SP)(n:Int)(E:s.txns.length≤800000)(w:World)(D:Wv w p.T p.tc s.txns):
 Cq 185 #[Ag s p,n] w fun e w'=>((e= .returned (.int .i64 (-1))∧s.txns.findIdx? (fun a=>decide (a.txn=n))=none)∨∃ k:Nat,k<s.txns.length∧e= .returned (.int .i64 k)∧s.txns.findIdx? (fun a=>decide (a.txn=n))=some k)∧Bw w w':=by
 have F:=Hq D;clear D;go_enter Tryz.func185,Tryz.ntmps185;go_upto_region 1 with fail;have o:=aI w (Aj s p) 36;obtain⟨v,q⟩:=Ee o;rw[← q]at o ⊢;clear q;have y:=show v.cell? ⟨w.heap.size,13,none⟩=some (.slice p.T s.txns.length p.tc)from by rw[Aa o.out.Ai];rfl
 have r:=Hq o.out.below;have G:=Hq (fun u (H:Bw v u)=>show u.cell? ⟨w.heap.size,13,none⟩=some (.slice p.T s.txns.length p.tc)from by rw[H.cell (p:=⟨w.heap.size,13,none⟩) (o.out.lt (i:=0) (by simp))];exact y);clear o;go_wp2_with fail
 go_loopw [5] (fun i wr=>∃ k:Nat,k≤s.txns.length∧i= .int .i64 k∧(∀ j (d:j<s.txns.length),j<k→¬ s.txns[j].txn=n)∧Bw v wr) (fun i _=>s.txns.length-(intOf i).toNat)
 case atStart=>exact⟨0,Nat.zero_le _,rfl,fun _ _ h=>absurd h (by omega),Below.refl _ _⟩
 case round=>
  obtain⟨k,hk,rfl,c,f⟩:=hrel;have z:=r.out.trans (f.mono r.out.size);have y:=G.out wr f;have I:(0:Int)≤(k:Int):=by omega
  by_cases g:k<s.txns.length
  ·have J:(k:Int)<(s.txns.length:Int):=by omega
   have K:IntKind.i64.wrap ((k:Int)+1)=(k:Int)+1:=IntWalk.i64_in _ (by omega);obtain⟨b,off,A,L,M,l⟩:=Bu Dw (F.out.below z) g;have B:=l 0 _ rfl;simp only[Nat.add_zero]at B;rw[A]at y
   by_cases t:s.txns[k].txn=n
   ·have C:(s.txns[k].txn==n)=true:=beq_iff_eq.2 t
    go_wp2_with fail;go_ret;exact⟨.inr ⟨k,g,rfl,Si g (by simpa using t) fun j d m=>by simpa using c j d m⟩,z⟩
   ·have C:(s.txns[k].txn==n)=false:=beq_eq_false_iff_ne.2 t
    go_wp2_with fail;go_roundw
    case rel=>exact⟨k+1,by omega,by go_num,fun j d m=>by rcases Nat.lt_or_eq_of_le (Nat.le_of_lt_succ m)with h5|h5;(· exact c j d h5);(· subst h5;exact t),f⟩
    case measure=>simp[intOf];omega
  ·obtain rfl:k=s.txns.length:=by omega
   go_wp2_with fail;go_ret;exact⟨.inl ⟨rfl,Sh fun x B=>by obtain⟨j,d,rfl⟩:=List.getElem_of_mem B;simpa using c j d d⟩,z⟩
theorem Wq {N n B:Nat}(s:Tx.St)(p:SP)(fs:List Fr)(hW:Wf N n B s fs)(hN:N≤3000)(z:Int)(b9:z=2∨z=3)(A pg C:Int)(o:Rc.Op)(G rt:Int)(c:Rc.Key)(D:ByteArray→ByteArray×Int)(hD:∀ b,(D b).2=0→Bk (D b).1=true)(w:World)
 (cr:∀ (b:ByteArray) W,b.size≤512→Bw w W→Cr 186 #[b,.agg #[o.kind,o.slot,o.Cs,o.new]] W (Mm (D b))) (h:Ao w s p fs):
 Cq 116 #[Ag s p,.agg #[(),(),A,z,pg,C,(),o.kind,o.slot,o.Cs,o.new,G,rt,c.key,c.Ac,c.slot,'s','s']] w (Ie (Cn s fs (⟨0,0,A,z,pg,C,0,o,G,rt,c,[],[]⟩:Rc.Rec) D) w):=by
 obtain⟨X,hX⟩:=ex (Cn s fs (⟨0,0,A,z,pg,C,0,o,G,rt,c,[],[]⟩:Rc.Rec) D);rw[← hX];have ba:=Hq (fun W=>Y7 s p pg W);have af:=Hq (fun W (hb:Bw w W) (e:Int)=>show X=⟨s,fs,e⟩→Ie X w (.returned (.tuple #[Ag s p,e])) W from fun he=>by rw[he];exact⟨p,rfl,h.below hb,hb⟩)
 by_cases hn:0≤pg∧pg<s.zpages
 ·rw[decide_eq_true hn]at ba
  have hh:Nd s pg:=hn;have dr:=hW.tl;have du:=Hq (fun W (hb:Bw w W)=>kC s p A dr W (h.st.tx.below hb));have ag:=Hq (fun W (hb:Bw w W)=>show Cq 96 #[Ag s p,pg] W (rZ ((Bf s fs pg).1,if(Bf s fs pg).1.e=0 then(Dc (Bf s fs pg).1.fs (Bf s fs pg).2).bytes else⟨#[]⟩) W)from Uw s p fs hW hN pg W (h.below hb));have dv:=Hq (fun(hi:s.txns.findIdx? (fun a=>decide (a.txn=A))=none)=>show X=⟨s,fs,21⟩from by
   rw[hX];unfold Cn;rw[if_neg (fun hn=>hn ⟨b9,hh⟩),hi])
  have ah:=Hq (fun(i:Nat) (hi:s.txns.findIdx? (fun a=>decide (a.txn=A))=some i)=>hX.trans (jO (s:=s) (fs:=fs) (r:=(⟨0,0,A,z,pg,C,0,o,G,rt,c,[],[]⟩:Rc.Rec)) (D:=D) ⟨b9,hh⟩ hi));have bb:=hW.held pg;have av:=(Pd s fs pg).1;have ct:=Hq (fun(Y:Px) (he:X=Y) w' (q:SP) (hp:Ao w' Y.s q Y.fs) (hb:Bw w w')=>show Ie X w (.returned (.tuple #[Ag Y.s q,Y.e])) w' from by rw[he];exact⟨q,rfl,hp,hb⟩);have gw:=hW.n1.2.2;have gx:=hW.nf;have HD:=Hq hD;have dw:=Hq cr;clear h hX hW hD cr hh hn;generalize Ie X w=Q at af ct ⊢;dsimp only at ah;generalize Bf s fs pg=rr at ag ah bb av;obtain⟨⟨xs,l,xe⟩,xk⟩:=rr;simp only at ag ah bb av;have ai:xk<l.length:=by omega
  have dx:l.length≤100:=by omega
  have aj:=bb.2.2.2;rw[Cg ai]at ah aj ag;have b4:=Hq bb.1;have cu:=Hq aj;have cd:=Hq av;clear bb aj av;obtain⟨f,bc⟩:=ex (l[xk]);rw[← bc]at ah cu ag;have dy:=Hq bc;have dz:f.bytes.size≤512:=by rw[bc];exact(b4.out.fr xk ai).sz
  have cv:=Hq (fun(q:SP) W (hp:Ao W xs q l)=>Zw xs q l b4.out xk ai W hp);rw[← bc]at cv;obtain⟨gb,cw⟩:=ex (if xe=0 then f.bytes else(⟨#[]⟩:ByteArray));rw[← cw]at ag;have fe:=Hq cw;clear bc cw;have e0:=Hq b9;clear b9;go_enter Tryz.func116,Tryz.ntmps116;go_upto_region 1 with fail;have H0:=Q6 w (Aj s p) 36 #[(),(),A,z,pg,C,(),o.kind,o.slot,o.Cs,o.new,G,rt,c.key,c.Ac,c.slot,'s','s'] 88 #[(),(),(),'s',(),false,(),(),(),(),"",'s',(),'s',()] 36;obtain⟨W0,bf⟩:=Ee H0;rw[← bf]at H0 ⊢;clear bf
  go_cut [28] (fun x wc=>x= .bool false∧D6 w.heap.size w [((Aj s p),36),(#[(),(),A,z,pg,C,(),o.kind,o.slot,o.Cs,o.new,G,rt,c.key,c.Ac,c.slot,'s','s'],88),(#[(),(),(),'s',(),false,(),(),(),(),"",'s',(),'s',()],36)] wc)
  case first=>
   have cx:=show W0.cell? ⟨(w.heap.size+1),4,none⟩=some (.int .i64 pg)from(by rw[Aa H0.out.Am];rfl);have ff:=show W0.cell? ⟨(w.heap.size+1),3,none⟩=some (.int .i64 z)from(by rw[Aa H0.out.Am];rfl);rcases e0.out with rfl|rfl
   all_goals
    go_wp2_with(first|with_reducible refine lL H0.out.Ai Ar ?_|(go_at_call 168;refine(ba.out _).mono ?_;rintro e w1 ⟨rfl,cy⟩;have H1:=Hq (H0.out.step cy)))
    go_meet
    case rel=>exact⟨rfl,H1.out⟩
  case rest=>
  obtain⟨rfl,bg⟩:=hcut;obtain⟨w1,rfl⟩:=ex wc;have H1:=Hq bg;clear bg;have fg:=show w1.cell? ⟨(w.heap.size+1),2,none⟩=some (.int .i64 A)from by rw[Aa H1.out.Am];rfl
  go_upto_region 4 with(first|with_reducible refine lL H1.out.Ai Ar ?_|(go_at_call 185;refine(du.out _ H1.out.below).mono ?_;rintro e w2 ⟨hq,e1⟩;have H2:=Hq (H1.out.step e1);clear e1 H0 H1 fg;rcases hq with⟨rfl,e2⟩|⟨H,fh,rfl,e5⟩))
  ·have gy:(-1:Int)<0:=by decide
   have fi:=Hq (dv.out e2);clear e2
   go_wp2_with(first|with_reducible refine lL H2.out.Ai Ar ?_|with_reducible refine lS (Aj s p) H2.out.Cj ?_)
   refine rT2 (.int .i64 21) H2.out.Cj Ar ?_;exact af.out _ (H2.out.row 2 (Aj s p) _ rfl).below 21 fi.out
  ·have gq:¬ (H:Int)<0:=by omega
   have gr:(0:Int)≤(H:Int):=(by omega);have bu:=Hq (ah.out H e5);have cx:=show w2.cell? ⟨(w.heap.size+1),4,none⟩=some (.int .i64 pg)from(by rw[Aa H2.out.Am];rfl);clear ba du e5 ah dv
   go_upto_region 7 with(first
    |with_reducible refine lL H2.out.Ai Ar ?_
    |(go_at_call 96;refine(ag.out _ H2.out.below).mono ?_;rintro e w3 ⟨q,rfl,e6,bw⟩)
    |with_reducible refine sN (Aj xs q) ?_)
   have cz:=Ab w3 (.cells (Aj xs q) 36);have H4:=Hq (H2.out.step (bw.trans (cz.mono bw.size)));have bh:=Hq (heap_alloc_new w3 (.cells (Aj xs q) 36));have b5:=Hq (e6.below cz);have fj:(w.heap.size+2)<w3.heap.size:=Nat.lt_of_lt_of_le (H2.out.lt (i:=2) (by simp)) bw.size;obtain⟨g,hg⟩:=ex w3.heap.size;obtain⟨w4,bx⟩:=ex (w3.alloc (.cells (Aj xs q) 36));rw[← hg,← bx]at bh;rw[← bx]at H4 b5;rw[← bx,← hg];rw[← hg]at fj;clear bx hg bw cz e6 H2 ag cx
   try simp only[Act.put]
   by_cases hx:xe=0
   case neg=>
    have fk:(xe != 0)=true:=(by rw[bne_iff_ne];exact hx);have ak:=Hq (show X=⟨xs,l,xe⟩from by rw[bu.out,if_pos hx]);clear hx bu
    go_wp2_with(first|with_reducible refine lL bh.out Ar ?_|with_reducible refine lS (Aj xs q) H4.out.Cj ?_)
    refine rT2 xe H4.out.Cj Ar ?_;exact ct.out _ ak.out _ q (b5.out.other (t:=36) H4.out.Cj (by decide) (by decide) (by decide) _) (H4.out.row 2 (Aj xs q) _ rfl).below
   have fk:(xe != 0)=false:=(by rw[hx];rfl);have da:=Hq (cu.out hx);have an:=Hq (show X=if ¬ (D f.bytes).2=0 then⟨s,fs,(D f.bytes).2⟩else Tq ⟨xs,l,xe⟩ xk H s fs (⟨0,0,A,z,pg,C,0,o,G,rt,c,[],[]⟩:Rc.Rec) (D f.bytes).1 from by rw[bu.out,if_neg (fun hn=>hn hx)]);have cf:=Hq (show gb=f.bytes from by rw[fe.out,if_pos hx]);clear bu cu hx;have bj:=Hq (dw.out f.bytes w4 dz H4.out.below);rw[← cf.out]at bj;have bk:=Hq (HD.out f.bytes);rw[← cf.out]at bk an;generalize D gb=bd at bj bk an;obtain⟨b,be⟩:=bd;simp only at bj bk an;have e7:=Hq (fun W (hb:Bw w4 W)=>eP xs q l b5.out.fn dx pg W (b5.out.fr.below hb))
   go_upto_region 10 with(first
    |with_reducible refine lP #[o.kind,o.slot,o.Cs,o.new] H4.out.Am pC ?_
    |(go_at_call 186;(refine bj.out.mono ?_);rintro e w5 ⟨rfl,bl⟩))
   have H5:=Hq (H4.out.step bl);have e8:=Hq (Ae bh.out bl);clear bj dw HD
   by_cases ao:be=0
   case neg=>
    have fl:(be != 0)=true:=(by rw[bne_iff_ne];exact ao);have ak:=Hq (show X=⟨s,fs,be⟩from by rw[an.out,if_pos ao]);clear ao an
    go_wp2_with(first|with_reducible refine lL H5.out.Ai Ar ?_|with_reducible refine lS (Aj s p) H5.out.Cj ?_)
    refine rT2 be H5.out.Cj Ar ?_;exact af.out _ (H5.out.row 2 (Aj s p) _ rfl).below be ak.out
   have fl:(be != 0)=false:=(by rw[ao];rfl);have fm:=Hq (bk.out ao);have e9:=Hq (an.out.trans (if_neg (fun hn=>hn ao)));clear an bk ao;have fo:=show w5.cell? ⟨(w.heap.size+1),4,none⟩=some (.int .i64 pg)from(by rw[Aa H5.out.Am];rfl);have ea:=Hq (fun(e:Ending) (hq:(e= .returned (.int .i64 (-1))∧∀ j (hj:j<l.length),l[j].bytes≠⟨#[]⟩→l[j].Ac≠pg)∨∃ (k:Nat) (hk:k<l.length),e= .returned (.int .i64 k)∧l[k].bytes≠⟨#[]⟩∧l[k].Ac=pg)=>show e= .returned (.int .i64 (xk:Int))from by
    have hv:=da.out.2;rw[dy.out]at hv;rcases hq with⟨_,hq⟩|⟨k,hk,rfl,fp,fq⟩
    ·exact absurd hv.2 (hq xk ai hv.1)
    ·have fu:k=xk:=Classical.byContradiction fun hc=>b4.out.ds k xk hk ai hc fp hv.1 (fq.trans hv.2.symm)
     rw[fu])
   go_upto_region 13 with(first
    |with_reducible refine lL e8.out Ar ?_
    |(go_at_call 51;refine(e7.out _ bl).mono ?_;rintro e w6 ⟨hq,eb⟩;obtain rfl:=ea.out e hq;clear hq))
   have aw:=Ad bl eb;have H6:=Hq (H4.out.step aw);have b6:=Hq (Ae bh.out aw);have ec:=Hq (b5.out.below aw);clear bl eb aw H4 H5 bh e8 e7 b5 fo ea;have I:=Hq (cv.out q w6 ec.out);clear cv;rw[da.out.2.2]at I;have T:=Hq (show X=(if ¬ (Fp xs f pg).2.2=0 then(⟨s,fs,(Fp xs f pg).2.2⟩:Px)else
    if ¬ (Lg.Aw (Fp xs f pg).1 (⟨0,(Fq xs.txns H).last,A,z,pg,C,0,o,G,rt,c,[],[]⟩:Rc.Rec)).2.2=0 then⟨s,fs,(Lg.Aw (Fp xs f pg).1 (⟨0,(Fq xs.txns H).last,A,z,pg,C,0,o,G,rt,c,[],[]⟩:Rc.Rec)).2.2⟩else
    ⟨{xs with log:=(Lg.Aw (Fp xs f pg).1 (⟨0,(Fq xs.txns H).last,A,z,pg,C,0,o,G,rt,c,[],[]⟩:Rc.Rec)).1,txns:=xs.txns.set H {Fq xs.txns H with last:=(Lg.Aw (Fp xs f pg).1 (⟨0,(Fq xs.txns H).last,A,z,pg,C,0,o,G,rt,c,[],[]⟩:Rc.Rec)).2.1,next:=if z=3 then C else(Lg.Aw (Fp xs f pg).1 (⟨0,(Fq xs.txns H).last,A,z,pg,C,0,o,G,rt,c,[],[]⟩:Rc.Rec)).2.1}},l.set xk ⟨f.Ac,Bg b (Lg.Aw (Fp xs f pg).1 (⟨0,(Fq xs.txns H).last,A,z,pg,C,0,o,G,rt,c,[],[]⟩:Rc.Rec)).2.1,f.pins,true,(Fp xs f pg).2.1⟩,0⟩)from by
    rw[e9.out];unfold Tq;simp only;rw[Cg ai,← dy.out])
   rw[da.out.2.2]at T;have db:=Hq (show cN N (Fp xs f pg).1 from by
    unfold Fp
    split
    ·exact b4.out.low.append _
    ·exact b4.out.low)
   clear e9;obtain⟨U,dc⟩:=ex ((Fq xs.txns H).last);rw[← dc]at T;have fv:=Hq dc;generalize Fp xs f pg=m at T db I;obtain⟨l3,V,e3⟩:=m;simp only at T db I;clear dc;have dd:H<xs.txns.length:=(by rw[cd.out];exact fh);have gu:(H:Int)<(xs.txns.length:Int):=(by omega);have gv:(0:Int)≤(xk:Int):=by omega
   by_cases Z:e3=0
   case neg=>
    have fw:(e3 != 0)=true:=(by rw[bne_iff_ne];exact Z);have hm:=I.out;rw[if_neg Z]at hm;have HM:=Hq hm;have ak:=Hq (show X=⟨s,fs,e3⟩from by rw[T.out,if_pos Z]);clear Z hm I T
    go_upto_region 14 with(first
     |with_reducible refine lL b6.out Ar ?_
     |(go_at_call 187;(refine HM.out.mono ?_);rintro e w7 ⟨E,rfl,bz,aq⟩;have H7:=Hq (H6.out.step aq);have ar:=Hq (Ae b6.out aq))
     |with_reducible refine lS (Aj xs E) ar.out ?_)
    have H8:=Hq (H7.out.under (M:=g) (by simp;omega) (E7 (g:=g) (Nat.le_refl g) (show Below g w7 w7 from⟨rfl,rfl,rfl,Nat.le_refl _,fun _ _=>rfl⟩) (Aj xs E)));generalize w7.setRow g (Aj xs E)=w8 at H8 ⊢;clear aq bz H7 ar H6 b6 HM
    try simp only[Act.put]
    go_wp2_with(first|with_reducible refine lL H8.out.Ai Ar ?_|with_reducible refine lS (Aj s p) H8.out.Cj ?_)
    refine rT2 e3 H8.out.Cj Ar ?_;exact af.out _ (H8.out.row 2 (Aj s p) _ rfl).below e3 ak.out
   have fw:(e3 != 0)=false:=(by rw[Z];rfl);have hm:=I.out;rw[if_pos Z]at hm;have HM:=Hq hm;have au:=Hq (T.out.trans (if_neg (fun hn=>hn Z)));subst Z;clear hm I T;obtain⟨d,b7⟩:=ex (l.set xk (⟨pg,f.bytes,f.pins,f.mark,V⟩:Fr));rw[← b7]at HM;have cg:xk<d.length:=(by rw[b7,List.length_set];exact ai);have fx:d.length≤100:=(by rw[b7,List.length_set];exact dx);have fy:=Hq (show d[xk]=(⟨pg,f.bytes,f.pins,f.mark,V⟩:Fr)from by subst b7;exact List.getElem_set_self _);have fz:=Hq (fun v=>show d.set xk v=l.set xk v from by rw[b7,List.set_set]);clear b7
   go_upto_region 14 with(first
    |with_reducible refine lL b6.out Ar ?_
    |(go_at_call 187;(refine HM.out.mono ?_);rintro e w7 ⟨E,rfl,bz,aq⟩;have H7:=Hq (H6.out.step aq);have ar:=Hq (Ae b6.out aq))
    |with_reducible refine lS (Aj {xs with log:=l3} E) ar.out ?_)
   have H8:=Hq (H7.out.under (M:=g) (by simp;omega) (E7 (g:=g) (Nat.le_refl g) (show Below g w7 w7 from⟨rfl,rfl,rfl,Nat.le_refl _,fun _ _=>rfl⟩) (Aj {xs with log:=l3} E)));have c6:=Hq (setRow_heap _ _ _ (Aj {xs with log:=l3} E) _ _ ar.out);have c7:=Hq (show Ao (w7.setRow g (Aj {xs with log:=l3} E)) {xs with log:=l3} E d from bz.other (t:=36) ar.out (by decide) (by decide) (by decide) (Aj {xs with log:=l3} E));generalize w7.setRow g (Aj {xs with log:=l3} E)=w8 at H8 c6 c7 ⊢;clear aq bz H7 ar H6 b6 HM ec
   try simp only[Act.put]
   obtain⟨tb,ed,ee,ga,ef,ax⟩:=Bu Dw c7.out.st.tx dd;have gd:=ax 1 (.int .i64 U) (by rw[fv.out,Jk dd];rfl);have eg:=show w8.cell? ⟨g,13,none⟩=some (.slice (some ⟨tb,ed,none⟩) xs.txns.length E.tc)from(by rw[Aa c6.out,← ee];rfl);have de:=show w8.cell? ⟨(w.heap.size+1),1,none⟩=some (.int .i64 0)from(by rw[Aa H8.out.Am];rfl);have df:=Ap H8.out.Am 1;clear ax ga ef ee;go_upto_region 17 with fail;have H9:=Hq (show D6 w.heap.size w [((Aj s p),36),(#[(),U,A,z,pg,C,(),o.kind,o.slot,o.Cs,o.new,G,rt,c.key,c.Ac,c.slot,'s','s'],88),(#[(),(),(),'s',(),false,(),(),(),(),"",'s',(),'s',()],36)] (w8.setCell ⟨(w.heap.size+1),1,none⟩ (.int .i64 U))from H8.out.set 1 1 (.int .i64 U) _ rfl);have c8:=Hq (show(w8.setCell ⟨(w.heap.size+1),1,none⟩ (.int .i64 U)).heap[g]? =some (.cells (Aj {xs with log:=l3} E) 36 (0,0))from by rw[Below.heap_setCell _ _ _ _ (by show g≠w.heap.size+1;omega)];exact c6.out);have dh:=Hq (c7.out.set H8.out.Am (by decide) (by decide) (by decide) 1 (.int .i64 U));have bm:=Hq (fun W=>show Cq 188 #[Ag {xs with log:=l3} E,.agg #[(),U,A,z,pg,C,(),o.kind,o.slot,o.Cs,o.new,G,rt,c.key,c.Ac,c.slot,'s','s']] W _ from Oi {xs with log:=l3} E (b4.out.log db.out).lb (⟨0,U,A,z,pg,C,0,o,G,rt,c,[],[]⟩:Rc.Rec) rfl rfl W (by rcases e0.out with h|h;exact .inr (.inl h);exact .inr (.inr (.inl h))));generalize w8.setCell ⟨(w.heap.size+1),1,none⟩ (.int .i64 U)=w9 at H9 c8 dh ⊢;clear eg de df gd H8 c6 c7;dsimp only at bm au;generalize Lg.Aw l3 (⟨0,U,A,z,pg,C,0,o,G,rt,c,[],[]⟩:Rc.Rec)=y at bm au;obtain⟨l4,L,e4⟩:=y;simp only at bm au
   try simp only[Act.put]
   go_upto_region 18 with(first
    |with_reducible refine lL c8.out Ar ?_
    |with_reducible refine lL H9.out.Am Da ?_
    |(go_at_call 188;refine(bm.out _).mono ?_;rintro e ca ⟨rfl,ay⟩;have eh:=Hq (H9.out.step ay);have az:=Hq (Ae c8.out ay);have cj:=Hq (dh.out.below ay);clear ay)
    |with_reducible refine lS (Aj {xs with log:=l4} E) az.out ?_)
   have J:=Hq (eh.out.under (M:=g) (by simp;omega) (E7 (g:=g) (Nat.le_refl g) (show Below g ca ca from⟨rfl,rfl,rfl,Nat.le_refl _,fun _ _=>rfl⟩) (Aj {xs with log:=l4} E)));have bn:=Hq (setRow_heap _ _ _ (Aj {xs with log:=l4} E) _ _ az.out);have bo:=Hq (show Ao (ca.setRow g (Aj {xs with log:=l4} E)) {xs with log:=l4} E d from by
    have h1:=cj.out.other (t:=36) az.out (by decide) (by decide) (by decide) (Aj {xs with log:=l4} E);exact⟨⟨h1.st.dk,h1.st.dt,h1.st.tx,h1.st.tt⟩,h1.fn,h1.fr,h1.ft⟩)
   generalize ca.setRow g (Aj {xs with log:=l4} E)=w11 at J bn bo ⊢;clear H9 c8 dh eh az cj bm
   try simp only[Act.put]
   by_cases b8:e4=0
   case neg=>
    have ei:(e4 != 0)=true:=(by rw[bne_iff_ne];exact b8);have ak:=Hq (au.out.trans (if_pos b8));clear b8 au
    go_wp2_with(first|with_reducible refine lL J.out.Ai Ar ?_|with_reducible refine lS (Aj s p) J.out.Cj ?_)
    refine rT2 e4 J.out.Cj Ar ?_;exact af.out _ (J.out.row 2 (Aj s p) _ rfl).below e4 ak.out
   have ei:(e4 != 0)=false:=(by rw[b8];rfl);have di:=Hq (au.out.trans (if_neg (fun hn=>hn b8)));clear au b8;have gf:=show w11.cell? ⟨(w.heap.size+1),0,none⟩=some (.int .i64 0)from(by rw[Aa J.out.Am];rfl);have gg:=Ap J.out.Am 0;go_upto_region 21 with fail;have dj:=Hq (show D6 w.heap.size w [((Aj s p),36),(#[L,U,A,z,pg,C,(),o.kind,o.slot,o.Cs,o.new,G,rt,c.key,c.Ac,c.slot,'s','s'],88),(#[(),(),(),'s',(),false,(),(),(),(),"",'s',(),'s',()],36)] (w11.setCell ⟨(w.heap.size+1),0,none⟩ (.int .i64 L))from J.out.set 1 0 (.int .i64 L) _ rfl);have a1:=Hq (show(w11.setCell ⟨(w.heap.size+1),0,none⟩ (.int .i64 L)).heap[g]? =some (.cells (Aj {xs with log:=l4} E) 36 (0,0))from by rw[Below.heap_setCell _ _ _ _ (by show g≠w.heap.size+1;omega)];exact bn.out);have O:=Hq (bo.out.set J.out.Am (by decide) (by decide) (by decide) 0 (.int .i64 L));generalize w11.setCell ⟨(w.heap.size+1),0,none⟩ (.int .i64 L)=w12 at dj a1 O ⊢;clear gf gg J bn bo
   try simp only[Act.put]
   obtain⟨dm,bp,ej,gh,ek,P⟩:=Bu Dh O.out.fr cg;rw[fy.out]at P;have gz:(xk:Int)<(d.length:Int):=(by omega);have en:=show w12.cell? ⟨g,11,none⟩=some (.slice (some ⟨dm,bp,none⟩) d.length E.fc)from(by rw[Aa a1.out,← ej,← O.out.fn];rfl);have eo:=Hq (show w12.rangeAt dm (bp+xk*5) (Ib (⟨pg,f.bytes,f.pins,f.mark,V⟩:Fr))from P);clear P gh ek ej;have dn:=Hq (fun W=>Jf b L (by have:=Gk fm.out;omega) W);generalize Bg b L=z2 at dn di
   go_upto_region 22 with(first
    |(refine Cw Kr fun K hK=>wp_load_mid 116 (.tmp 98) rfl dm (bp+xk*5) rfl (Ib (⟨pg,f.bytes,f.pins,f.mark,V⟩:Fr)) _ eo.out Fw Kr Kr (hK _ _ ?_))
    |with_reducible refine sN (Er (⟨pg,f.bytes,f.pins,f.mark,V⟩:Fr)) ?_)
   have b0:=Ab w12 (.cells (Er (⟨pg,f.bytes,f.pins,f.mark,V⟩:Fr)) 116);have dp:=Hq (dj.out.step b0);have bq:=Hq (heap_alloc_new w12 (.cells (Er (⟨pg,f.bytes,f.pins,f.mark,V⟩:Fr)) 116));have br:=Hq (Ae a1.out b0);have bs:=Hq (O.out.below b0);have ep:=O.out.ft.lt;have er:g<w12.heap.size:=By a1.out;obtain⟨g2,cb⟩:=ex w12.heap.size;obtain⟨h0,b1⟩:=ex (w12.alloc (.cells (Er (⟨pg,f.bytes,f.pins,f.mark,V⟩:Fr)) 116));rw[← cb,← b1]at bq;rw[← b1]at dp br bs;rw[← b1,← cb];rw[← cb]at er;have et:=Hq (show ∀ ad,E.F=some ad→ad.block≠g2 from fun ad e=>by have:=ep ad e;omega);clear b1 cb b0 dj a1 O eo en ep
   try simp only[Act.put]
   go_upto_region 23 with(go_at_call 101;refine(dn.out _).mono ?_;rintro e a6 ⟨rfl,a7⟩;have eu:=Hq (dp.out.step a7);have ck:=Hq (Ae br.out a7);have a8:=Hq (Ae bq.out a7);have cm:=Hq (bs.out.below a7);have aa:=Hq (Cb 1 a8.out (.string z2));have de:=show a6.cell? ⟨g2,1,none⟩=some (.string f.bytes)from(by rw[Aa a8.out];rfl);have df:=Ap a8.out 1;have gi:=show(a6.setCell ⟨g2,1,none⟩ (.string z2)).cell? ⟨g2,3,none⟩=some (.bool f.mark)from(by rw[Aa aa.out];rfl);have gj:=Ap aa.out 3)
   have cn:=Hq (show((a6.setCell ⟨g2,1,none⟩ (.string z2)).setCell ⟨g2,3,none⟩ (.bool true)).heap[g2]? =some (.cells (Er (⟨pg,z2,f.pins,true,V⟩:Fr)) 116 (0,0))from by have:=Cb 3 aa.out (.bool true);simpa using this);have bt:Below g2 a6 ((a6.setCell ⟨g2,1,none⟩ (.string z2)).setCell ⟨g2,3,none⟩ (.bool true)):=((show Below g2 a6 a6 from⟨rfl,rfl,rfl,Nat.le_refl _,fun _ _=>rfl⟩).setCell (p:=⟨g2,1,none⟩) (Nat.le_refl _) (.string z2)).setCell (p:=⟨g2,3,none⟩) (Nat.le_refl _) (.bool true);have ew:=Hq (eu.out.under (M:=g2) (by simp;omega) bt);have cp:=Hq ((bt.block g (by omega)).trans ck.out);have cq:=Hq ((cm.out.own a8.out et.out 1 (.string z2)).own aa.out et.out 3 (.bool true));generalize (a6.setCell ⟨g2,1,none⟩ (.string z2)).setCell ⟨g2,3,none⟩ (.bool true)=w16 at ew cp cn cq ⊢;clear dp br bq bs eu ck a8 cm aa de df gi gj a7 bt dn;have ey:=Hq (fun W hp=>Hd {xs with log:=l4} E d fx xk cg (⟨pg,z2,f.pins,true,V⟩:Fr) W hp);have dq:=Hq (fun(q4:SP) W (hp:Ao W {xs with log:=l4} q4 (d.set xk (⟨pg,z2,f.pins,true,V⟩:Fr)))=>show Cq 189 #[Ag {xs with log:=l4} q4,.int .i64 (H:Int),.agg #[L,U,A,z,pg,C,(),o.kind,o.slot,o.Cs,o.new,G,rt,c.key,c.Ac,c.slot,'s','s']] W fun e w'=>∃ q:SP,e= .returned (Ag {xs with log:=l4,txns:=xs.txns.set H {Fq xs.txns H with last:=L,next:=if z=3 then C else L}} q)∧Ao w' {xs with log:=l4,txns:=xs.txns.set H {Fq xs.txns H with last:=L,next:=if z=3 then C else L}} q (d.set xk (⟨pg,z2,f.pins,true,V⟩:Fr))∧Bw W w' from Zx {xs with log:=l4} q4 (d.set xk (⟨pg,z2,f.pins,true,V⟩:Fr)) (by show xs.txns.length≤800000;rw[cd.out];exact dr) H dd (⟨L,U,A,z,pg,C,0,o,G,rt,c,[],[]⟩:Rc.Rec) W hp);rw[fz.out]at dq ey;obtain⟨s5,ez⟩:=ex ({xs with log:=l4,txns:=xs.txns.set H {Fq xs.txns H with last:=L,next:=if z=3 then C else L}}:Tx.St);rw[← ez]at dq di;clear ez;have H9:=ew.out.drew;have hSn:w16.drew.heap[g]? =some (.cells (Aj {xs with log:=l4} E) 36 (0,0))∧w16.drew.heap[g2]? =some (.cells (Er (⟨pg,z2,f.pins,true,V⟩:Fr)) 116 (0,0))∧w16.drew.heap[w.heap.size+1]? =some (.cells #[L,U,A,z,pg,C,(),o.kind,o.slot,o.Cs,o.new,G,rt,c.key,c.Ac,c.slot,'s','s'] 88 (0,0)):=⟨cp.out,cn.out,H9.Am⟩;have fa:=cq.out.below (Below.refl _ w16).drew
   try simp only[Act.put]
   refine Gd (S:=(fun u=>u.heap[g]? =some (.cells (Aj {xs with log:=l4} E) 36 (0,0))∧u.heap[g2]? =some (.cells (Er (⟨pg,z2,f.pins,true,V⟩:Fr)) 116 (0,0))∧u.heap[w.heap.size+1]? =some (.cells #[L,U,A,z,pg,C,(),o.kind,o.slot,o.Cs,o.new,G,rt,c.key,c.Ac,c.slot,'s','s'] 88 (0,0)))) (fun R=>?_);generalize w16.drew=w9 at hSn H9 fa ⊢;refine Nk 0 Ar ?_;refine Au 1 ?_;refine fZ 2 (some 107) (v:=.agg (Er (⟨pg,z2,f.pins,true,V⟩:Fr))) rfl (yieldsIf_load_mid (by rfl) 116 (.tmp 13) rfl g2 0 (by rfl) (Er (⟨pg,z2,f.pins,true,V⟩:Fr)).toList _ (fun u hu=>(by intro j v hj;rw[Nat.zero_add,Aa hu.2.1];simpa using hj)) Fw Kr Kr) ?_
   try simp only[Act.put,pS]
   refine Au 4 ?_;refine fZ 5 (some 110) (v:=.agg #[L,U,A,z,pg,C,(),o.kind,o.slot,o.Cs,o.new,G,rt,c.key,c.Ac,c.slot,'s','s']) rfl (yieldsIf_load_mid (by rfl) 88 (.tmp 3) rfl (w.heap.size+1) 0 (by rfl) #[.int .i64 L,.int .i64 U,.int .i64 A,.int .i64 z,.int .i64 pg,.int .i64 C,.int .i64 0,.int .i64 o.kind,.int .i64 o.slot,.string o.Cs,.string o.new,.int .i64 G,.int .i64 rt,.string c.key,.int .i64 c.Ac,.int .i64 c.slot,.slice none 0 0,.slice none 0 0].toList _ (fun u hu=>(by intro j v hj;rw[Nat.zero_add,Aa hu.2.2];simpa using hj)) Da Kr Kr) ?_
   try simp only[Act.put,pS]
   refine Ch 3 fun K hK=>?_
   go_simp
   (refine(ey.out _ fa).mono ?_);rintro e h2 ⟨q4,rfl,gk,b2⟩;have ae:=And.intro (Ae hSn.1 b2) (And.intro (Ae hSn.2.1 b2) (Ae hSn.2.2 b2));clear hSn;have hSn:=ae;clear ae;have gl:=H9.step b2
   refine Bq hK (fun R=>?_);clear hK K;refine Ch 6 fun K hK=>?_
   go_simp
   (refine(dq.out _ _ gk).mono ?_);rintro e h3 ⟨q5,rfl,gm,b3⟩;have ae:=And.intro (Ae hSn.1 b3) (And.intro (Ae hSn.2.1 b3) (Ae hSn.2.2 b3));clear hSn;have hSn:=ae;clear ae;have cc:=gl.step b3
   refine Bq hK (fun R=>?_);clear hK K;refine Ch 7 fun K hK=>?_;refine Ay (by rfl) ?_;refine sW (Aj s5 q5) cc.Cj ?_;have gn:=cc.row 2 (Aj s5 q5) _ rfl;have fb:=gm.other (t:=36) cc.Cj (by decide) (by decide) (by decide) (Aj s5 q5);have ae:=And.intro ((Ah _ _ (Aj s5 q5) _ (show g≠w.heap.size+2 by omega)).trans hSn.1) (And.intro ((Ah _ _ (Aj s5 q5) _ (show g2≠w.heap.size+2 by omega)).trans hSn.2.1) ((Ah _ _ (Aj s5 q5) _ (show w.heap.size+1≠w.heap.size+2 by omega)).trans hSn.2.2));clear hSn;have hSn:=ae;clear ae;refine Bq hK (fun R=>?_);clear hK K;refine Au 8 ?_;refine wpAnyH_done Kr ?_ _;clear R;go_wp2_with fail;refine rT2 () cc.Cj Ar ?_;exact ct.out _ di.out _ q5 fb gn.below
 ·rw[decide_eq_false hn]at ba
  have gp:=Hq (show X=⟨s,fs,1⟩from by rw[hX];unfold Cn;rw[if_pos (fun hc=>hn hc.2)]);clear hX hn hD cr h hW;generalize Ie X w=Q at af ⊢;go_enter Tryz.func116,Tryz.ntmps116;go_upto_region 1 with fail;have H0:=Q6 w (Aj s p) 36 #[(),(),A,z,pg,C,(),o.kind,o.slot,o.Cs,o.new,G,rt,c.key,c.Ac,c.slot,'s','s'] 88 #[(),(),(),'s',(),false,(),(),(),(),"",'s',(),'s',()] 36;obtain⟨W0,bf⟩:=Ee H0;rw[← bf]at H0 ⊢;clear bf
  go_cut [28] (fun x wc=>x= .bool true∧D6 w.heap.size w [((Aj s p),36),(#[(),(),A,z,pg,C,(),o.kind,o.slot,o.Cs,o.new,G,rt,c.key,c.Ac,c.slot,'s','s'],88),(#[(),(),(),'s',(),false,(),(),(),(),"",'s',(),'s',()],36)] wc)
  case first=>
   have cx:=show W0.cell? ⟨(w.heap.size+1),4,none⟩=some (.int .i64 pg)from(by rw[Aa H0.out.Am];rfl);have ff:=show W0.cell? ⟨(w.heap.size+1),3,none⟩=some (.int .i64 z)from(by rw[Aa H0.out.Am];rfl);rcases b9 with rfl|rfl
   all_goals
    go_wp2_with(first|with_reducible refine lL H0.out.Ai Ar ?_|(go_at_call 168;refine(ba.out _).mono ?_;rintro e w1 ⟨rfl,cy⟩;have H1:=Hq (H0.out.step cy)))
    go_meet
    case rel=>exact⟨rfl,H1.out⟩
  case rest=>
   obtain⟨rfl,bg⟩:=hcut;have H1:=Hq bg;clear bg
   go_wp2_with(first|with_reducible refine lL H1.out.Ai Ar ?_|with_reducible refine lS (Aj s p) H1.out.Cj ?_)
   refine rT2 (.int .i64 1) H1.out.Cj Ar ?_;exact af.out _ (H1.out.row 2 (Aj s p) _ rfl).below 1 gp.out
end Go.Proofs.YtmldoihahndcgaaGreatDoor
