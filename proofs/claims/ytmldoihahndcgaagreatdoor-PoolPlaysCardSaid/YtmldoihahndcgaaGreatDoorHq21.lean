import Derived.Test.YtmldoihahndcgaaGreatDoorHq00
import Derived.Test.YtmldoihahndcgaaGreatDoorHq20
import Derived.Test.YtmldoihahndcgaaGreatDoorHq13
import Derived.Test.YtmldoihahndcgaaGreatDoorHq10
import Derived.Test.YtmldoihahndcgaaGreatDoorHq07
import Derived.Test.YtmldoihahndcgaaGreatDoorHq06
set_option maxRecDepth 100000
set_option maxHeartbeats 16000000
set_option linter.unusedSimpArgs false
namespace Go.Proofs.YtmldoihahndcgaaGreatDoor
open Go.RowKit Sc
theorem O1 (s:Tx.St)(p:SP)(b:Tx.tL s)(r:Rc.Rec)(q:r.txns=[])(t:r.dirty=[])(w:World)(l:r.kind=1∨r.kind=2∨r.kind=3∨r.kind=8):
 Cr 188 #[Af s p,.agg (D7 r (.slice none 0 0) (.slice none 0 0))] w (.tuple #[Af {s with log:=(Lg.Ay s.log r).1} p,.int .i64 (Lg.Ay s.log r).2.1,.int .i64 (Lg.Ay s.log r).2.2]):=by
 have u:=Hq (fun W=>show Cq 103 #[Oc s.log,.agg (D7 r (.slice none 0 0) (.slice none 0 0))] W (Sg (Lg.Ay s.log r) W)from by
  have v:=Qn s.log b.e0 (by have:=b.e1;omega) (by have:=b.n0;omega) (by have:=b.n1;omega) (by have:=b.t0;have:=b.e1;omega) r none none 0 0 W (Su r W q t) l;simp only[q,t,List.length_nil]at v;exact v)
 generalize Lg.Ay s.log r=x at u ⊢;go_enter Tryz.func188,Tryz.ntmps188;go_upto_region 1 with fail;have c:=Jo w (Ai s p) 36 (D7 r (.slice none 0 0) (.slice none 0 0)) 88 Zq9 36;obtain⟨z,d⟩:=Dr c;rw[← d]at c ⊢;clear d
 go_upto_region 2 with(first
  |with_reducible refine lP #[s.log.from_,s.log.n,s.log.end_,s.log.safe,s.log.tail] c.out.Ag Fp ?_
  |with_reducible refine lL c.out.Ah Ds ?_
  |(go_at_call 103;(with_reducible refine(u.out _).mono ?_);rintro e f ⟨rfl,h⟩;have H1:=Hq (c.out.step h);clear h)
  |with_reducible refine sN #[x.1.from_,x.1.n,x.1.end_,x.1.safe,x.1.tail] ?_)
 have m:=Hq (H1.out.step (Ad f (.cells #[x.1.from_,x.1.n,x.1.end_,x.1.safe,x.1.tail] 30)));have y:=Hq (heap_alloc_new f (.cells #[x.1.from_,x.1.n,x.1.end_,x.1.safe,x.1.tail] 30));have o:w.heap.size+2<f.heap.size:=H1.out.lt (i:=2) (by simp);obtain⟨g,k⟩:=ex f.heap.size;obtain⟨A,a⟩:=ex (f.alloc (.cells #[x.1.from_,x.1.n,x.1.end_,x.1.safe,x.1.tail] 30));rw[← k,← a]at y;rw[← a]at m;rw[← a,← k];rw[← k]at o;clear a k c H1
 try simp only[Act.put]
 go_upto_region 3 with(first
  |with_reducible refine lL y.out Fp ?_
  |with_reducible refine lU #[x.1.from_,x.1.n,x.1.end_,x.1.safe,x.1.tail] (Ai {s with log:=x.1} p) m.out.Ag ?_)
 have j:=Hq (m.out.row 0 (Ai {s with log:=x.1} p) _ rfl);have B:=j.out.Ag
 go_wp2_with(first
  |with_reducible refine lL j.out.Ag Ak ?_
  |with_reducible refine lS (Ai {s with log:=x.1} p) j.out.Ax ?_)
 refine rT3 (x.2.1) (x.2.2) j.out.Ax Ak ?_;exact⟨rfl,(j.out.row 2 (Ai {s with log:=x.1} p) _ rfl).below⟩
theorem Zz {N n B:Nat}(s:Tx.St)(p:SP)(fs:List Fr)(hW:Wf N n B s fs)(k:Nat)(hk:k<fs.length)(w:World)(h:An w s p fs):
 Cq 187 #[Af s p,.int .i64 (k:Int)] w (Bk (if(E3 s fs[k] fs[k].page).2.2=0 then⟨{s with log:=(E3 s fs[k] fs[k].page).1},fs.set k {fs[k]with rc:=(E3 s fs[k] fs[k].page).2.1},0⟩else⟨s,fs,(E3 s fs[k] fs[k].page).2.2⟩) w):=by
 have aj:fs.length≤100:=by have:=hW.nf;omega
 have H:=(hW.fr k hk).rc.1;have a1:=Hq (fun(b:ByteArray) (pg:Int) W=>O1 s p hW.lb (Qy pg b) rfl rfl W (.inr (.inr (.inr rfl))));have HP:=Hq h;have ak:=Hq h.fn;have b2:(0:Int)≤(k:Int):=by omega
 have b3:(k:Int)<(fs.length:Int):=by omega
 have a6:=h.ft.lt;obtain⟨f,u⟩:=ex (fs[k]);rw[← u]at H ⊢;have al:=Hq u;obtain⟨X,hX⟩:=ex (if(E3 s f f.page).2.2=0 then⟨{s with log:=(E3 s f f.page).1},fs.set k {f with rc:=(E3 s f f.page).2.1},0⟩else⟨s,fs,(E3 s f f.page).2.2⟩:Px);rw[← hX];have HZ:=Hq (fun(r:¬ f.rc=0) W (I:Bw w W)=>show Bk X w (.returned (.tuple #[Af s p,()])) W from by
  have e:X=⟨s,fs,0⟩:=by
   rw[hX];unfold E3;rw[if_neg r];simp only;rw[if_pos trivial,u,List.set_getElem_self]
  rw[e];exact⟨p,rfl,h.below I,I⟩)
 have V:=Hq (fun(r:f.rc=0) (m:¬ (Lg.Ay s.log (Qy f.page f.bytes)).2.2=0) W (I:Bw w W)=>show Bk X w (.returned (.tuple #[Af s p,.int .i64 (Lg.Ay s.log (Qy f.page f.bytes)).2.2])) W from by
  have e:X=⟨s,fs,(Lg.Ay s.log (Qy f.page f.bytes)).2.2⟩:=by rw[hX];unfold E3;rw[if_pos r,if_neg m]
  rw[e];exact⟨p,rfl,h.below I,I⟩)
 have Y:=Hq (fun(r:f.rc=0) (m:(Lg.Ay s.log (Qy f.page f.bytes)).2.2=0) W (q:SP) (hp:An W {s with log:=(Lg.Ay s.log (Qy f.page f.bytes)).1} q (fs.set k {f with rc:=(Lg.Ay s.log (Qy f.page f.bytes)).2.1})) (I:Bw w W)=>show Bk X w (.returned (.tuple #[Af {s with log:=(Lg.Ay s.log (Qy f.page f.bytes)).1} q,()])) W from by
  have e:X=⟨{s with log:=(Lg.Ay s.log (Qy f.page f.bytes)).1},fs.set k {f with rc:=(Lg.Ay s.log (Qy f.page f.bytes)).2.1},0⟩:=by rw[hX];unfold E3;rw[if_pos r,if_pos m]
  rw[e];exact⟨q,rfl,hp,I⟩)
 have d:=Hq (fun W=>show Cq 188 #[Af s p,.agg #[(),(),(),.int .i64 8,f.page,(),(),.int .i64 7,(),"",f.bytes,(),(),"",(),(),'s','s']] W _ from a1.out f.bytes f.page W);generalize Bk X w=Q at HZ V Y ⊢;generalize Lg.Ay s.log (Qy f.page f.bytes)=ap at V Y d;obtain⟨o,D,e3⟩:=ap;simp only at V Y d;clear hX h hW u a1;go_enter Tryz.func187,Tryz.ntmps187;go_upto_region 1 with fail;have E:=Il w (Ai s p) 36 Zq9 36;obtain⟨J,a7⟩:=Dr E;rw[← a7]at E ⊢;clear a7;have L:=Hq (HP.out.below E.out.below);obtain⟨b,off,a8,an,ao,a⟩:=Bi Cc L.out.fr hk;rw[← al.out]at a;have hc:=show J.cell? ⟨w.heap.size,11,none⟩=some (.slice (some ⟨b,off,none⟩) fs.length p.fc)from by rw[Aa E.out.Ag,← a8,← ak.out];rfl
 have aa:=Hq (show J.rangeAt b (off+k*5) (F4 f)from a);clear a an ao a8
 go_upto_region 2 with(first
  |(refine Bt Kr fun K hK=>wp_load_mid 116 (.tmp 14) rfl b (off+k*5) rfl (F4 f) _ aa.out Cw Kr Kr (hK _ _ ?_))
  |with_reducible refine sN (Cg f) ?_)
 have O:=Ad J (.cells (Cg f) 116);have G:=Hq (E.out.step O);have c:=Hq (heap_alloc_new J (.cells (Cg f) 116));have P:=Hq (L.out.below O);have ae:w.heap.size+1<J.heap.size:=E.out.lt (i:=1) (by simp);obtain⟨g,hg⟩:=ex J.heap.size;obtain⟨w5,v⟩:=ex (J.alloc (.cells (Cg f) 116));rw[← hg,← v]at c;rw[← v]at G P;rw[← v,← hg];rw[← hg]at ae;have aq:=Hq (show ∀ ad,p.F=some ad→ad.block≠g from fun ad e=>by
  have m:=a6 ad e;have h2:=E.out.below.size;have h3:=ae;omega)
 have ar:g<w5.heap.size:=C0 c.out;clear v hg O aa E L hc a6
 try simp only[Act.put]
 have R:=show w5.cell? ⟨g,4,none⟩=some (.int .i64 f.rc)from by rw[Aa c.out];rfl
 by_cases r:f.rc=0
 ·have au:¬ (0:Int)<f.rc:=by omega
  have x:=Hq r;have av:=show w5.cell? ⟨g,0,none⟩=some (.int .i64 f.page)from(by rw[Aa c.out];rfl);have aw:=show w5.cell? ⟨g,1,none⟩=some (.string f.bytes)from(by rw[Aa c.out];rfl);clear r H HZ
  go_upto_region 5 with(first
   |with_reducible refine lL G.out.Ag Ak ?_
   |(go_at_call 188;refine(d.out _).mono ?_;rintro e Z ⟨rfl,y⟩)
   |with_reducible refine sN (Ai {s with log:=o} p) ?_)
  have z:=y.trans ((Ad Z (.cells (Ai {s with log:=o} p) 36)).mono y.size);have S:=Hq (G.out.step z);have T:=Hq (heap_alloc_new Z (.cells (Ai {s with log:=o} p) 36));have j:=Hq (Ac c.out z);have U:=Hq (show An (Z.alloc (.cells (Ai {s with log:=o} p) 36)) {s with log:=o} p fs from by
   have m:=P.out.below z;exact⟨⟨m.st.dk,m.st.dt,m.st.tx,m.st.tt⟩,m.fn,m.fr,m.ft⟩)
  have af:g<Z.heap.size:=Nat.lt_of_lt_of_le ar y.size;obtain⟨g2,A⟩:=ex Z.heap.size;obtain⟨w7,C⟩:=ex (Z.alloc (.cells (Ai {s with log:=o} p) 36));rw[← A,← C]at T;rw[← C]at S j U;rw[← C,← A];rw[← A]at af;clear C A y z G c P av aw R d
  try simp only[Act.put]
  by_cases l:e3=0
  ·have ax:(e3 != 0)=false:=by rw[l];rfl
   have HE:=Hq l;have R:=show w7.cell? ⟨g,4,none⟩=some (.int .i64 f.rc)from(by rw[Aa j.out];rfl);have ay:=Ao j.out 4;have az:=Hq (fun W (hp:An W {s with log:=o} p fs)=>Fq {s with log:=o} p fs aj k hk {f with rc:=D} W hp);clear l V;go_upto_region 8 with fail;have ag:=Hq (show(w7.setCell ⟨g,4,none⟩ (.int .i64 D)).heap[g]? =some (.cells (Cg {f with rc:=D}) 116 (0,0))from by have:=Bs 4 j.out (.int .i64 D);simpa using this);have H8:=Hq (S.out.under (M:=g) (by simp;omega) ((show Below g w7 w7 from⟨rfl,rfl,rfl,Nat.le_refl _,fun _ _=>rfl⟩).setCell (p:=⟨g,4,none⟩) (Nat.le_refl _) (.int .i64 D)));have ah:=Hq (show(w7.setCell ⟨g,4,none⟩ (.int .i64 D)).heap[g2]? =some (.cells (Ai {s with log:=o} p) 36 (0,0))from by rw[Below.heap_setCell _ _ _ _ (by show g2≠g;omega)];exact T.out);have ai:=Hq (U.out.own j.out aq.out 4 (.int .i64 D));generalize w7.setCell ⟨g,4,none⟩ (.int .i64 D)=w8 at ag H8 ah ai ⊢;clear R ay S T j U
   try simp only[Act.put]
   go_wp2_with(first
    |with_reducible refine lL ah.out Ak ?_
    |with_reducible refine lL ag.out Cw ?_
    |(go_at_call 169;refine(az.out _ ai.out).mono ?_;rintro e w9 ⟨q,rfl,b0,b1⟩;have H9:=Hq (H8.out.step b1))
    |with_reducible refine lS (Ai {s with log:=o} q) H9.out.Ah ?_)
   refine rT2 () H9.out.Ah Ak ?_;exact Y.out x.out HE.out _ q (b0.other (t:=36) H9.out.Ah (by decide) (by decide) (by decide) _) (H9.out.row 1 (Ai {s with log:=o} q) _ rfl).below
  ·have ax:(e3 != 0)=true:=by rw[bne_iff_ne];exact l
   have HE:=Hq l;clear l Y
   go_wp2_with(first|with_reducible refine lL S.out.Ag Ak ?_|with_reducible refine lS (Ai s p) S.out.Ah ?_)
   refine rT2 e3 S.out.Ah Ak ?_;exact V.out x.out HE.out _ (S.out.row 1 (Ai s p) _ rfl).below
 ·have au:(0:Int)<f.rc:=by omega
  have x:=Hq r;clear r H V Y
  go_wp2_with(first|with_reducible refine lL G.out.Ag Ak ?_|with_reducible refine lS (Ai s p) G.out.Ah ?_)
  refine rT2 () G.out.Ah Ak ?_;exact HZ.out x.out _ (G.out.row 1 (Ai s p) _ rfl).below
theorem jU (s:Tx.St)(p:SP)(fs:List Fr)(ah:s.txns.length≤800000)(k:Nat)(V:k<s.txns.length)(r:Rc.Rec)(W:¬ r.kind=3)(w:World)(h:An w s p fs):
 Cq 189 #[Af s p,k,.agg (D7 r (.slice none 0 0) (.slice none 0 0))] w fun e w'=>∃ q:SP,e= .returned (Af {s with txns:=(s.txns.set k {F9 s.txns k with last:=r.lsn,next:=if r.kind=3 then r.next else r.lsn})} q)∧An w' {s with txns:=(s.txns.set k {F9 s.txns k with last:=r.lsn,next:=if r.kind=3 then r.next else r.lsn})} q fs∧Bw w w':=by
 obtain⟨i0,X,Y,Z,a1⟩:=info_parts Ys;have HP:=Hq h;have ai:(r.kind==3)=false:=beq_eq_false_iff_ne.2 W;have a6:=Hq W;obtain⟨TN,n⟩:∃ TN:List Rc.Ci,TN=(s.txns.set k {F9 s.txns k with last:=r.lsn,next:=if r.kind=3 then r.next else r.lsn}):=⟨_,rfl⟩;rw[← n];have a7:=Hq n;clear h W n;have ag:(0:Int)≤(k:Int):=by omega
 have aj:(k:Int)<(s.txns.length:Int):=by omega
 go_enter Tryz.func189,Tryz.ntmps189;go_upto_region 1 with fail;have f:=Jo w (Ai s p) 36 (D7 r (.slice none 0 0) (.slice none 0 0)) 88 Zq9 36;obtain⟨j,C⟩:=Dr f;rw[← C]at f ⊢;clear C;have D:=Hq (HP.out.below f.out.below);have b:=Ad j (.cells #[] 134);have a8:(j.alloc (.cells #[] 134)).cell? ⟨w.heap.size,13,none⟩=some (.slice p.T s.txns.length p.tc):=by rw[b.cell (p:=⟨w.heap.size,13,none⟩) (f.out.lt (i:=0) (by simp)),Aa f.out.Ag];rfl
 have E:=D.out.st.tx.below b
 go_upto_region 2 with(at_builtin;refine Bt Kr fun K o=>Ir (j.alloc (.cells #[] 134)) (.tmp 8) (.tmp 10) 34 134 i0 (.agg #[(),(),(),false]) 4 32 nA X Y Z a1 rfl (by omega) rfl j.heap.size _ 0 [] rfl (Ic j 134 4) p.T s.txns.length p.tc (s.txns.flatMap Lb) rfl E (by rw[Di Fo]) (Wb s.txns) (by omega) (by omega) b.size ?_;intro v2 Q R hg hb;refine o _ _ ?_)
 rw[List.nil_append,Nat.zero_add]at R;obtain⟨g,c2,rfl,F⟩:=Ol R (by omega);have hM:w.heap.size+3≤j.heap.size:=f.out.lt (i:=2) (by simp);have hSn:Dm w.heap.size w [((Ai s p),36),((D7 r (.slice none 0 0) (.slice none 0 0)),88),(Zq9,36)] Q.drew:=(f.out.step (b.trans hb)).drew;have hO:World.ownsRow Q.drew j.heap.size 134 4 (.slice (some ⟨g,0,none⟩) s.txns.length c2) s.txns.length (s.txns.flatMap Lb):=Cm R (Below.refl _ Q).drew;obtain⟨t,v⟩:=ex ({s.txns[k]with last:=r.lsn}:Rc.Ci);obtain⟨U,x⟩:=ex ({t with next:=r.lsn}:Rc.Ci);have G:k<(s.txns.set k t).length:=by rw[List.length_set];exact V
 have l:Lb U=(Lb (s.txns.set k t)[k]).set 2 (.int .i64 r.lsn):=by rw[List.getElem_set_self,x];rfl
 have m:Lb t=(Lb s.txns[k]).set 1 (.int .i64 r.lsn):=by rw[v];rfl
 have H:=Hq (show(s.txns.set k t).set k U=TN from by rw[a7.out,List.set_set,Ot V,x,v,if_neg a6.out]);clear v x a8 E hg hb b R f D;have Hy:=Hq (fun(u:World) (aa:Dm w.heap.size w [((Ai s p),36),((D7 r (.slice none 0 0) (.slice none 0 0)),88),(Zq9,36)] u)=>(show u.cell? ⟨w.heap.size+1,0,none⟩=some (.int .i64 r.lsn)from by rw[Aa aa.Ah];rfl));refine E4 (S:=(fun u=>Dm w.heap.size w [((Ai s p),36),((D7 r (.slice none 0 0) (.slice none 0 0)),88),(Zq9,36)] u)) (fun a=>?_);generalize Q.drew=w9 at hSn hO ⊢;refine Au 0 ?_;refine Au 1 ?_;refine Au 2 ?_;refine Au 3 ?_;refine Au 4 ?_;refine Au 5 ?_;refine Au 6 ?_;refine Au 7 ?_;refine Au 8 ?_;refine Au 9 ?_;refine Bx 10 fun K o=>?_;obtain⟨y,z,c⟩:=L3 hO rfl k V 1 (by omega) (.int .i64 r.lsn) t m;have d:=hSn.under (M:=g) (by have:=F;simp;omega) ((Below.refl _ w9).setCell (p:=⟨g,k*4+1,none⟩) (Nat.le_refl _) (.int .i64 r.lsn))
 go_simp
 clear hSn hO y z;have hSn:=d;have hO:=c;clear d c;generalize w9.setCell ⟨g,k*4+1,none⟩ (.int .i64 r.lsn)=w3 at hSn hO ⊢;refine Bl o (fun a=>?_);clear o K;refine Au 11 ?_;refine Au 12 ?_;refine Bx 13 fun K o=>?_;obtain⟨y,z,c⟩:=L3 hO (by rw[List.length_set]) k G 2 (by omega) (.int .i64 r.lsn) U l;have d:=hSn.under (M:=g) (by have:=F;simp;omega) ((Below.refl _ w3).setCell (p:=⟨g,k*4+2,none⟩) (Nat.le_refl _) (.int .i64 r.lsn))
 go_simp
 clear hSn hO y z;have hSn:=d;have hO:=c;clear d c;generalize w3.setCell ⟨g,k*4+2,none⟩ (.int .i64 r.lsn)=w4 at hSn hO ⊢;refine Bl o (fun a=>?_);clear o K;refine wpAnyH_done Kr ?_ _;obtain⟨M,A⟩:=ex ((s.txns.set k t).set k U);rw[← A]at hO H;clear a;have hlen:M.length=s.txns.length:=by rw[A,List.length_set,List.length_set]
 have I:=Hq hSn;have J:=Hq hO;have L:=Hq hlen;clear hSn hO A hlen G l m;have ad:=show w4.cell? ⟨w.heap.size+1,3,none⟩=some (.int .i64 r.kind)from by rw[Aa I.out.Ah];rfl
 have ae:=show w4.cell? ⟨w.heap.size,13,none⟩=some (.slice p.T s.txns.length p.tc)from by rw[Aa I.out.Ag];rfl
 have af:=Ao I.out.Ag 13;go_upto_region 6 with fail;have HL:=L.out;have N:=Hq (show Dm w.heap.size w [((Ai {s with txns:=M} {p with T:=some ⟨g,0,none⟩,tc:=c2}),36),((D7 r (.slice none 0 0) (.slice none 0 0)),88),(Zq9,36)] (w4.setCell ⟨w.heap.size,13,none⟩ (.slice (some ⟨g,0,none⟩) s.txns.length c2))from by have h5:=I.out.set 0 13 (.slice (some ⟨g,0,none⟩) s.txns.length c2) _ rfl;rw[← HL]at h5 ⊢;exact h5);have O:=Hq (Ja J.out ⟨w.heap.size,13,none⟩ (.slice (some ⟨g,0,none⟩) s.txns.length c2) (by show w.heap.size<j.heap.size;omega));generalize w4.setCell ⟨w.heap.size,13,none⟩ (.slice (some ⟨g,0,none⟩) s.txns.length c2)=w5 at N O ⊢;clear ae af ad I J HL
 go_wp2_with(first|with_reducible refine lL N.out.Ag Ak ?_|with_reducible refine lS (Ai {s with txns:=M} {p with T:=some ⟨g,0,none⟩,tc:=c2}) N.out.Ax ?_)
 have HF:=Hq (N.out.row 2 (Ai {s with txns:=M} {p with T:=some ⟨g,0,none⟩,tc:=c2}) _ rfl).below;refine rT1 N.out.Ax Ak ?_;have B:=I3 O.out (w.heap.size+2) (Ai {s with txns:=M} {p with T:=some ⟨g,0,none⟩,tc:=c2}) (by omega);rw[← L.out]at B;have P:=HP.out.below HF.out;rw[← H.out];exact⟨{p with T:=some ⟨g,0,none⟩,tc:=c2},rfl,⟨⟨P.st.dk,P.st.dt,Dq B,(C4.own B).mono (Nat.zero_le _)⟩,P.fn,P.fr,P.ft⟩,HF.out⟩
theorem jV (s:Tx.St)(p:SP)(fs:List Fr)(an:s.txns.length≤800000)(k:Nat)(P:k<s.txns.length)(r:Rc.Rec)(hr:r.kind=3)(w:World)(h:An w s p fs):
 Cq 189 #[Af s p,k,.agg (D7 r (.slice none 0 0) (.slice none 0 0))] w fun e w'=>∃ q:SP,e= .returned (Af {s with txns:=(s.txns.set k {F9 s.txns k with last:=r.lsn,next:=if r.kind=3 then r.next else r.lsn})} q)∧An w' {s with txns:=(s.txns.set k {F9 s.txns k with last:=r.lsn,next:=if r.kind=3 then r.next else r.lsn})} q fs∧Bw w w':=by
 obtain⟨i0,a1,a6,a7,a8⟩:=info_parts Ys;have HP:=Hq h;have ao:(r.kind==3)=true:=by rw[hr];rfl
 have aa:=Hq hr;obtain⟨TN,D⟩:∃ TN:List Rc.Ci,TN=(s.txns.set k {F9 s.txns k with last:=r.lsn,next:=if r.kind=3 then r.next else r.lsn}):=⟨_,rfl⟩;rw[← D];have ad:=Hq D;clear h hr D;have al:(0:Int)≤(k:Int):=by omega
 have aq:(k:Int)<(s.txns.length:Int):=by omega
 go_enter Tryz.func189,Tryz.ntmps189;go_upto_region 1 with fail;have x:=Jo w (Ai s p) 36 (D7 r (.slice none 0 0) (.slice none 0 0)) 88 Zq9 36;obtain⟨y,Q⟩:=Dr x;rw[← Q]at x ⊢;clear Q;have R:=Hq (HP.out.below x.out.below);have d:=Ad y (.cells #[] 134);have ae:(y.alloc (.cells #[] 134)).cell? ⟨w.heap.size,13,none⟩=some (.slice p.T s.txns.length p.tc):=by rw[d.cell (p:=⟨w.heap.size,13,none⟩) (x.out.lt (i:=0) (by simp)),Aa x.out.Ag];rfl
 have U:=R.out.st.tx.below d
 go_upto_region 2 with(at_builtin;refine Bt Kr fun K E=>Ir (y.alloc (.cells #[] 134)) (.tmp 8) (.tmp 10) 34 134 i0 (.agg #[(),(),(),false]) 4 32 nA a1 a6 a7 a8 rfl (by omega) rfl y.heap.size _ 0 [] rfl (Ic y 134 4) p.T s.txns.length p.tc (s.txns.flatMap Lb) rfl U (by rw[Di Fo]) (Wb s.txns) (by omega) (by omega) d.size ?_;intro v2 w2 ho hg hb;refine E _ _ ?_)
 rw[List.nil_append,Nat.zero_add]at ho;obtain⟨g,c2,rfl,F⟩:=Ol ho (by omega);have hM:w.heap.size+3≤y.heap.size:=x.out.lt (i:=2) (by simp);have hSn:Dm w.heap.size w [((Ai s p),36),((D7 r (.slice none 0 0) (.slice none 0 0)),88),(Zq9,36)] w2.drew:=(x.out.step (d.trans hb)).drew;have hO:World.ownsRow w2.drew y.heap.size 134 4 (.slice (some ⟨g,0,none⟩) s.txns.length c2) s.txns.length (s.txns.flatMap Lb):=Cm ho (Below.refl _ w2).drew;obtain⟨o,G⟩:=ex ({s.txns[k]with last:=r.lsn}:Rc.Ci);obtain⟨H,I⟩:=ex ({o with next:=r.lsn}:Rc.Ci);have V:k<(s.txns.set k o).length:=by rw[List.length_set];exact P
 have z:Lb H=(Lb (s.txns.set k o)[k]).set 2 (.int .i64 r.lsn):=by rw[List.getElem_set_self,I];rfl
 have A:Lb o=(Lb s.txns[k]).set 1 (.int .i64 r.lsn):=by rw[G];rfl
 obtain⟨O,J⟩:=ex ({H with next:=r.next}:Rc.Ci);have ar:k<((s.txns.set k o).set k H).length:=by rw[List.length_set,List.length_set];exact P
 have B:Lb O=(Lb ((s.txns.set k o).set k H)[k]).set 2 (.int .i64 r.next):=by rw[List.getElem_set_self,J];rfl
 have L:=Hq (show((s.txns.set k o).set k H).set k O=TN from by rw[ad.out,List.set_set,List.set_set,Ot P,J,I,G,if_pos aa.out]);clear J;clear G I ae U hg hb d ho x R;have Hy:=Hq (fun(u:World) (af:Dm w.heap.size w [((Ai s p),36),((D7 r (.slice none 0 0) (.slice none 0 0)),88),(Zq9,36)] u)=>(show u.cell? ⟨w.heap.size+1,0,none⟩=some (.int .i64 r.lsn)from by rw[Aa af.Ah];rfl));refine E4 (S:=(fun u=>Dm w.heap.size w [((Ai s p),36),((D7 r (.slice none 0 0) (.slice none 0 0)),88),(Zq9,36)] u)) (fun b=>?_);generalize w2.drew=w9 at hSn hO ⊢;refine Au 0 ?_;refine Au 1 ?_;refine Au 2 ?_;refine Au 3 ?_;refine Au 4 ?_;refine Au 5 ?_;refine Au 6 ?_;refine Au 7 ?_;refine Au 8 ?_;refine Au 9 ?_;refine Bx 10 fun K E=>?_;obtain⟨f,j,a⟩:=L3 hO rfl k P 1 (by omega) (.int .i64 r.lsn) o A;have l:=hSn.under (M:=g) (by have:=F;simp;omega) ((Below.refl _ w9).setCell (p:=⟨g,k*4+1,none⟩) (Nat.le_refl _) (.int .i64 r.lsn))
 go_simp
 clear hSn hO f j;have hSn:=l;have hO:=a;clear l a;generalize w9.setCell ⟨g,k*4+1,none⟩ (.int .i64 r.lsn)=w3 at hSn hO ⊢;refine Bl E (fun b=>?_);clear E K;refine Au 11 ?_;refine Au 12 ?_;refine Bx 13 fun K E=>?_;obtain⟨f,j,a⟩:=L3 hO (by rw[List.length_set]) k V 2 (by omega) (.int .i64 r.lsn) H z;have l:=hSn.under (M:=g) (by have:=F;simp;omega) ((Below.refl _ w3).setCell (p:=⟨g,k*4+2,none⟩) (Nat.le_refl _) (.int .i64 r.lsn))
 go_simp
 clear hSn hO f j;have hSn:=l;have hO:=a;clear l a;generalize w3.setCell ⟨g,k*4+2,none⟩ (.int .i64 r.lsn)=w4 at hSn hO ⊢;refine Bl E (fun b=>?_);clear E K;refine wpAnyH_done Kr ?_ _;obtain⟨M,t⟩:=ex ((s.txns.set k o).set k H);rw[← t]at hO L;clear b;have hlen:M.length=s.txns.length:=by rw[t,List.length_set,List.length_set]
 have HS:=Hq hSn;have W:=Hq hO;have v:=Hq hlen;clear hSn hO hlen V z A;have ag:k<M.length:=by rw[v.out];exact P
 have C:Lb O=(Lb M[k]).set 2 (.int .i64 r.next):=by subst t;exact B
 obtain⟨f,j,a⟩:=L3 W.out (by rw[v.out]) k ag 2 (by omega) (.int .i64 r.next) O C;have ah:=show w4.cell? ⟨w.heap.size+1,5,none⟩=some (.int .i64 r.next)from by rw[Aa HS.out.Ah];rfl
 have ai:=show w4.cell? ⟨w.heap.size+1,3,none⟩=some (.int .i64 r.kind)from by rw[Aa HS.out.Ah];rfl
 clear t B C;go_upto_region 5 with fail;have m:=Hq (HS.out.under (M:=g) (by have:=F;simp;omega) ((Below.refl _ w4).setCell (p:=⟨g,k*4+2,none⟩) (Nat.le_refl _) (.int .i64 r.next)));have c:=Hq a;have n:=Hq (show(M.set k O).length=s.txns.length from by rw[List.length_set];exact v.out);generalize w4.setCell ⟨g,k*4+2,none⟩ (.int .i64 r.next)=w4b at m c ⊢;clear f j a ah ai HS W v;obtain⟨M3,X⟩:=ex (M.set k O);rw[← X]at c n L;clear X
 try simp only[Act.put]
 have aj:=show w4b.cell? ⟨w.heap.size,13,none⟩=some (.slice p.T s.txns.length p.tc)from by rw[Aa m.out.Ag];rfl
 have ak:=Ao m.out.Ag 13;go_upto_region 6 with fail;have HL:=n.out;have Y:=Hq (show Dm w.heap.size w [((Ai {s with txns:=M3} {p with T:=some ⟨g,0,none⟩,tc:=c2}),36),((D7 r (.slice none 0 0) (.slice none 0 0)),88),(Zq9,36)] (w4b.setCell ⟨w.heap.size,13,none⟩ (.slice (some ⟨g,0,none⟩) s.txns.length c2))from by have h5:=m.out.set 0 13 (.slice (some ⟨g,0,none⟩) s.txns.length c2) _ rfl;rw[← HL]at h5 ⊢;exact h5);have Z:=Hq (Ja c.out ⟨w.heap.size,13,none⟩ (.slice (some ⟨g,0,none⟩) s.txns.length c2) (by show w.heap.size<y.heap.size;omega));generalize w4b.setCell ⟨w.heap.size,13,none⟩ (.slice (some ⟨g,0,none⟩) s.txns.length c2)=w5 at Y Z ⊢;clear aj ak m c HL
 go_wp2_with(first|with_reducible refine lL Y.out.Ag Ak ?_|with_reducible refine lS (Ai {s with txns:=M3} {p with T:=some ⟨g,0,none⟩,tc:=c2}) Y.out.Ax ?_)
 have HF:=Hq (Y.out.row 2 (Ai {s with txns:=M3} {p with T:=some ⟨g,0,none⟩,tc:=c2}) _ rfl).below;refine rT1 Y.out.Ax Ak ?_;have N:=I3 Z.out (w.heap.size+2) (Ai {s with txns:=M3} {p with T:=some ⟨g,0,none⟩,tc:=c2}) (by omega);rw[← n.out]at N;have hq:=HP.out.below HF.out;rw[← L.out];exact⟨{p with T:=some ⟨g,0,none⟩,tc:=c2},rfl,⟨⟨hq.st.dk,hq.st.dt,Dq N,(C4.own N).mono (Nat.zero_le _)⟩,hq.fn,hq.fr,hq.ft⟩,HF.out⟩
theorem aA (s:Tx.St)(p:SP)(fs:List Fr)(a:s.txns.length≤800000)(k:Nat)(b:k<s.txns.length)(r:Rc.Rec)(w:World)(h:An w s p fs):
 Cq 189 #[Af s p,k,.agg (D7 r (.slice none 0 0) (.slice none 0 0))] w fun e w'=>∃ q:SP,e= .returned (Af {s with txns:=(s.txns.set k {F9 s.txns k with last:=r.lsn,next:=if r.kind=3 then r.next else r.lsn})} q)∧An w' {s with txns:=(s.txns.set k {F9 s.txns k with last:=r.lsn,next:=if r.kind=3 then r.next else r.lsn})} q fs∧Bw w w':=by
 by_cases c:r.kind=3
 ·exact jV s p fs a k b r c w h
 ·exact jU s p fs a k b r c w h
theorem jW (s:Tx.St)(p:SP)(n:Int)(E:s.txns.length≤800000)(w:World)(D:lV w p.T p.tc s.txns):
 Cq 185 #[Af s p,n] w fun e w'=>((e= .returned (.int .i64 (-1))∧s.txns.findIdx? (fun a=>decide (a.txn=n))=none)∨∃ k:Nat,k<s.txns.length∧e= .returned (.int .i64 k)∧s.txns.findIdx? (fun a=>decide (a.txn=n))=some k)∧Bw w w':=by
 have F:=Hq D;clear D;go_enter Tryz.func185,Tryz.ntmps185;go_upto_region 1 with fail;have o:=Tq w (Ai s p) 36;obtain⟨v,q⟩:=Dr o;rw[← q]at o ⊢;clear q;have y:=show v.cell? ⟨w.heap.size,13,none⟩=some (.slice p.T s.txns.length p.tc)from by rw[Aa o.out.Ag];rfl
 have r:=Hq o.out.below;have G:=Hq (fun u (H:Bw v u)=>show u.cell? ⟨w.heap.size,13,none⟩=some (.slice p.T s.txns.length p.tc)from by rw[H.cell (p:=⟨w.heap.size,13,none⟩) (o.out.lt (i:=0) (by simp))];exact y);clear o;go_wp2_with fail
 go_loopw [5] (fun i wr=>∃ k:Nat,k≤s.txns.length∧i= .int .i64 k∧(∀ j (d:j<s.txns.length),j<k→¬ s.txns[j].txn=n)∧Bw v wr) (fun i _=>s.txns.length-(intOf i).toNat)
 case atStart=>exact⟨0,Nat.zero_le _,rfl,fun _ _ h=>absurd h (by omega),Below.refl _ _⟩
 case round=>
  obtain⟨k,N,rfl,c,f⟩:=hrel;have z:=r.out.trans (f.mono r.out.size);have y:=G.out wr f;have I:(0:Int)≤(k:Int):=by omega
  by_cases g:k<s.txns.length
  ·have J:(k:Int)<(s.txns.length:Int):=by omega
   have K:IntKind.i64.wrap ((k:Int)+1)=(k:Int)+1:=IntWalk.i64_in _ (by omega);obtain⟨b,off,A,L,M,l⟩:=Bi Fo (F.out.below z) g;have B:=l 0 _ rfl;simp only[Nat.add_zero]at B;rw[A]at y
   by_cases t:s.txns[k].txn=n
   ·have C:(s.txns[k].txn==n)=true:=beq_iff_eq.2 t
    go_wp2_with fail;go_ret;exact⟨.inr ⟨k,g,rfl,Oo g (by simpa using t) fun j d m=>by simpa using c j d m⟩,z⟩
   ·have C:(s.txns[k].txn==n)=false:=beq_eq_false_iff_ne.2 t
    go_wp2_with fail;go_roundw
    case rel=>exact⟨k+1,by omega,by go_num,fun j d m=>by rcases Nat.lt_or_eq_of_le (Nat.le_of_lt_succ m)with h5|h5;(· exact c j d h5);(· subst h5;exact t),f⟩
    case measure=>simp[intOf];omega
  ·obtain rfl:k=s.txns.length:=by omega
   go_wp2_with fail;go_ret;exact⟨.inl ⟨rfl,On fun x B=>by obtain⟨j,d,rfl⟩:=List.getElem_of_mem B;simpa using c j d d⟩,z⟩
theorem O2 {N n B:Nat}(s:Tx.St)(p:SP)(fs:List Fr)(hW:Wf N n B s fs)(hN:N≤3000)(z:Int)(b8:z=2∨z=3)(A pg C:Int)(o:Rc.Op)(G rt:Int)(c:Rc.Key)(D:ByteArray→ByteArray×Int)(hD:∀ b,(D b).2=0→Bj (D b).1=true)(w:World)
 (cp:∀ (b:ByteArray) W,b.size≤512→Bw w W→Cr 186 #[b,.agg #[o.kind,o.slot,o.Bd,o.new]] W (Gm (D b))) (h:An w s p fs):
 Cq 116 #[Af s p,.agg #[(),(),A,z,pg,C,(),o.kind,o.slot,o.Bd,o.new,G,rt,c.key,c.page,c.slot,'s','s']] w (Bk (D5 s fs (⟨0,0,A,z,pg,C,0,o,G,rt,c,[],[]⟩:Rc.Rec) D) w):=by
 obtain⟨X,hX⟩:=ex (D5 s fs (⟨0,0,A,z,pg,C,0,o,G,rt,c,[],[]⟩:Rc.Rec) D);rw[← hX];have b9:=Hq (fun W=>L4 s p pg W);have af:=Hq (fun W (hb:Bw w W) (e:Int)=>show X=⟨s,fs,e⟩→Bk X w (.returned (.tuple #[Af s p,e])) W from fun he=>by rw[he];exact⟨p,rfl,h.below hb,hb⟩)
 by_cases hn:0≤pg∧pg<s.zpages
 ·rw[decide_eq_true hn]at b9
  have hh:Gh s pg:=hn;have dp:=hW.tl;have dq:=Hq (fun W (hb:Bw w W)=>jW s p A dp W (h.st.tx.below hb));have ag:=Hq (fun W (hb:Bw w W)=>show Cq 96 #[Af s p,pg] W (Fi ((Aq s fs pg).1,if(Aq s fs pg).1.e=0 then(Cp (Aq s fs pg).1.fs (Aq s fs pg).2).bytes else⟨#[]⟩) W)from Mv s p fs hW hN pg W (h.below hb));have dr:=Hq (fun(hi:s.txns.findIdx? (fun a=>decide (a.txn=A))=none)=>show X=⟨s,fs,21⟩from by
   rw[hX];unfold D5;rw[if_neg (fun hn=>hn ⟨b8,hh⟩),hi])
  have ah:=Hq (fun(i:Nat) (hi:s.txns.findIdx? (fun a=>decide (a.txn=A))=some i)=>hX.trans (U3 (s:=s) (fs:=fs) (r:=(⟨0,0,A,z,pg,C,0,o,G,rt,c,[],[]⟩:Rc.Rec)) (D:=D) ⟨b8,hh⟩ hi));have ba:=hW.held pg;have au:=(Pv s fs pg).1;have cq:=Hq (fun(Y:Px) (he:X=Y) w' (q:SP) (hp:An w' Y.s q Y.fs) (hb:Bw w w')=>show Bk X w (.returned (.tuple #[Af Y.s q,Y.e])) w' from by rw[he];exact⟨q,rfl,hp,hb⟩);have gr:=hW.n1.2.2;have gu:=hW.nf;have HD:=Hq hD;have du:=Hq cp;clear h hX hW hD cp hh hn;generalize Bk X w=Q at af cq ⊢;dsimp only at ah;generalize Aq s fs pg=rr at ag ah ba au;obtain⟨⟨xs,l,xe⟩,xk⟩:=rr;simp only at ag ah ba au;have ai:xk<l.length:=by omega
  have dv:l.length≤100:=by omega
  have aj:=ba.2.2.2;rw[Br ai]at ah aj ag;have b3:=Hq ba.1;have cr:=Hq aj;have cc:=Hq au;clear ba aj au;obtain⟨f,bb⟩:=ex (l[xk]);rw[← bb]at ah cr ag;have dw:=Hq bb;have dx:f.bytes.size≤512:=by rw[bb];exact(b3.out.fr xk ai).sz
  have ct:=Hq (fun(q:SP) W (hp:An W xs q l)=>Zz xs q l b3.out xk ai W hp);rw[← bb]at ct;obtain⟨gb,cu⟩:=ex (if xe=0 then f.bytes else(⟨#[]⟩:ByteArray));rw[← cu]at ag;have ez:=Hq cu;clear bb cu;have dy:=Hq b8;clear b8;go_enter Tryz.func116,Tryz.ntmps116;go_upto_region 1 with fail;have H0:=Jo w (Ai s p) 36 #[(),(),A,z,pg,C,(),o.kind,o.slot,o.Bd,o.new,G,rt,c.key,c.page,c.slot,'s','s'] 88 Zq9 36;obtain⟨W0,bc⟩:=Dr H0;rw[← bc]at H0 ⊢;clear bc
  go_cut [28] (fun x wc=>x= .bool false∧Dm w.heap.size w [((Ai s p),36),(#[(),(),A,z,pg,C,(),o.kind,o.slot,o.Bd,o.new,G,rt,c.key,c.page,c.slot,'s','s'],88),(Zq9,36)] wc)
  case first=>
   have cv:=show W0.cell? ⟨(w.heap.size+1),4,none⟩=some (.int .i64 pg)from(by rw[Aa H0.out.Ah];rfl);have fa:=show W0.cell? ⟨(w.heap.size+1),3,none⟩=some (.int .i64 z)from(by rw[Aa H0.out.Ah];rfl);rcases dy.out with rfl|rfl
   all_goals
    go_wp2_with(first|with_reducible refine lL H0.out.Ag Ak ?_|(go_at_call 168;refine(b9.out _).mono ?_;rintro e w1 ⟨rfl,cw⟩;have H1:=Hq (H0.out.step cw)))
    go_meet
    case rel=>exact⟨rfl,H1.out⟩
  case rest=>
  obtain⟨rfl,bf⟩:=hcut;obtain⟨w1,rfl⟩:=ex wc;have H1:=Hq bf;clear bf;have fb:=show w1.cell? ⟨(w.heap.size+1),2,none⟩=some (.int .i64 A)from by rw[Aa H1.out.Ah];rfl
  go_upto_region 4 with(first|with_reducible refine lL H1.out.Ag Ak ?_|(go_at_call 185;refine(dq.out _ H1.out.below).mono ?_;rintro e w2 ⟨hq,dz⟩;have H2:=Hq (H1.out.step dz);clear dz H0 H1 fb;rcases hq with⟨rfl,e0⟩|⟨H,fe,rfl,e1⟩))
  ·have gv:(-1:Int)<0:=by decide
   have ff:=Hq (dr.out e0);clear e0
   go_wp2_with(first|with_reducible refine lL H2.out.Ag Ak ?_|with_reducible refine lS (Ai s p) H2.out.Ax ?_)
   refine rT2 (.int .i64 21) H2.out.Ax Ak ?_;exact af.out _ (H2.out.row 2 (Ai s p) _ rfl).below 21 ff.out
  ·have gm:¬ (H:Int)<0:=by omega
   have gn:(0:Int)≤(H:Int):=(by omega);have bt:=Hq (ah.out H e1);have cv:=show w2.cell? ⟨(w.heap.size+1),4,none⟩=some (.int .i64 pg)from(by rw[Aa H2.out.Ah];rfl);clear b9 dq e1 ah dr
   go_upto_region 7 with(first
    |with_reducible refine lL H2.out.Ag Ak ?_
    |(go_at_call 96;refine(ag.out _ H2.out.below).mono ?_;rintro e w3 ⟨q,rfl,e2,bu⟩)
    |with_reducible refine sN (Ai xs q) ?_)
   have cx:=Ad w3 (.cells (Ai xs q) 36);have H4:=Hq (H2.out.step (bu.trans (cx.mono bu.size)));have bg:=Hq (heap_alloc_new w3 (.cells (Ai xs q) 36));have b4:=Hq (e2.below cx);have fg:(w.heap.size+2)<w3.heap.size:=Nat.lt_of_lt_of_le (H2.out.lt (i:=2) (by simp)) bu.size;obtain⟨g,hg⟩:=ex w3.heap.size;obtain⟨w4,bw⟩:=ex (w3.alloc (.cells (Ai xs q) 36));rw[← hg,← bw]at bg;rw[← bw]at H4 b4;rw[← bw,← hg];rw[← hg]at fg;clear bw hg bu cx e2 H2 ag cv
   try simp only[Act.put]
   by_cases hx:xe=0
   case neg=>
    have fh:(xe != 0)=true:=(by rw[bne_iff_ne];exact hx);have ak:=Hq (show X=⟨xs,l,xe⟩from by rw[bt.out,if_pos hx]);clear hx bt
    go_wp2_with(first|with_reducible refine lL bg.out Ak ?_|with_reducible refine lS (Ai xs q) H4.out.Ax ?_)
    refine rT2 xe H4.out.Ax Ak ?_;exact cq.out _ ak.out _ q (b4.out.other (t:=36) H4.out.Ax (by decide) (by decide) (by decide) _) (H4.out.row 2 (Ai xs q) _ rfl).below
   have fh:(xe != 0)=false:=(by rw[hx];rfl);have cy:=Hq (cr.out hx);have al:=Hq (show X=if ¬ (D f.bytes).2=0 then⟨s,fs,(D f.bytes).2⟩else Ty ⟨xs,l,xe⟩ xk H s fs (⟨0,0,A,z,pg,C,0,o,G,rt,c,[],[]⟩:Rc.Rec) (D f.bytes).1 from by rw[bt.out,if_neg (fun hn=>hn hx)]);have cd:=Hq (show gb=f.bytes from by rw[ez.out,if_pos hx]);clear bt cr hx;have bh:=Hq (du.out f.bytes w4 dx H4.out.below);rw[← cd.out]at bh;have bj:=Hq (HD.out f.bytes);rw[← cd.out]at bj al;generalize D gb=bd at bh bj al;obtain⟨b,be⟩:=bd;simp only at bh bj al;have e5:=Hq (fun W (hb:Bw w4 W)=>We xs q l b4.out.fn dv pg W (b4.out.fr.below hb))
   go_upto_region 10 with(first
    |with_reducible refine lP #[o.kind,o.slot,o.Bd,o.new] H4.out.Ah gF ?_
    |(go_at_call 186;(refine bh.out.mono ?_);rintro e w5 ⟨rfl,bk⟩))
   have H5:=Hq (H4.out.step bk);have e6:=Hq (Ac bg.out bk);clear bh du HD
   by_cases an:be=0
   case neg=>
    have fi:(be != 0)=true:=(by rw[bne_iff_ne];exact an);have ak:=Hq (show X=⟨s,fs,be⟩from by rw[al.out,if_pos an]);clear an al
    go_wp2_with(first|with_reducible refine lL H5.out.Ag Ak ?_|with_reducible refine lS (Ai s p) H5.out.Ax ?_)
    refine rT2 be H5.out.Ax Ak ?_;exact af.out _ (H5.out.row 2 (Ai s p) _ rfl).below be ak.out
   have fi:(be != 0)=false:=(by rw[an];rfl);have fj:=Hq (bj.out an);have e7:=Hq (al.out.trans (if_neg (fun hn=>hn an)));clear al bj an;have fk:=show w5.cell? ⟨(w.heap.size+1),4,none⟩=some (.int .i64 pg)from(by rw[Aa H5.out.Ah];rfl);have e8:=Hq (fun(e:Ending) (hq:(e= .returned (.int .i64 (-1))∧∀ j (hj:j<l.length),l[j].bytes≠⟨#[]⟩→l[j].page≠pg)∨∃ (k:Nat) (hk:k<l.length),e= .returned (.int .i64 k)∧l[k].bytes≠⟨#[]⟩∧l[k].page=pg)=>show e= .returned (.int .i64 (xk:Int))from by
    have hv:=cy.out.2;rw[dw.out]at hv;rcases hq with⟨_,hq⟩|⟨k,hk,rfl,fl,fm⟩
    ·exact absurd hv.2 (hq xk ai hv.1)
    ·have fo:k=xk:=Classical.byContradiction fun hc=>b3.out.ds k xk hk ai hc fl hv.1 (fm.trans hv.2.symm)
     rw[fo])
   go_upto_region 13 with(first
    |with_reducible refine lL e6.out Ak ?_
    |(go_at_call 51;refine(e5.out _ bk).mono ?_;rintro e w6 ⟨hq,e9⟩;obtain rfl:=e8.out e hq;clear hq))
   have av:=Ae bk e9;have H6:=Hq (H4.out.step av);have b5:=Hq (Ac bg.out av);have ea:=Hq (b4.out.below av);clear bk e9 av H4 H5 bg e6 e5 b4 fk e8;have I:=Hq (ct.out q w6 ea.out);clear ct;rw[cy.out.2.2]at I;have T:=Hq (show X=(if ¬ (E3 xs f pg).2.2=0 then(⟨s,fs,(E3 xs f pg).2.2⟩:Px)else
    if ¬ (Lg.Ay (E3 xs f pg).1 (⟨0,(F9 xs.txns H).last,A,z,pg,C,0,o,G,rt,c,[],[]⟩:Rc.Rec)).2.2=0 then⟨s,fs,(Lg.Ay (E3 xs f pg).1 (⟨0,(F9 xs.txns H).last,A,z,pg,C,0,o,G,rt,c,[],[]⟩:Rc.Rec)).2.2⟩else
    ⟨{xs with log:=(Lg.Ay (E3 xs f pg).1 (⟨0,(F9 xs.txns H).last,A,z,pg,C,0,o,G,rt,c,[],[]⟩:Rc.Rec)).1,txns:=xs.txns.set H {F9 xs.txns H with last:=(Lg.Ay (E3 xs f pg).1 (⟨0,(F9 xs.txns H).last,A,z,pg,C,0,o,G,rt,c,[],[]⟩:Rc.Rec)).2.1,next:=if z=3 then C else(Lg.Ay (E3 xs f pg).1 (⟨0,(F9 xs.txns H).last,A,z,pg,C,0,o,G,rt,c,[],[]⟩:Rc.Rec)).2.1}},l.set xk ⟨f.page,Cj b (Lg.Ay (E3 xs f pg).1 (⟨0,(F9 xs.txns H).last,A,z,pg,C,0,o,G,rt,c,[],[]⟩:Rc.Rec)).2.1,f.pins,true,(E3 xs f pg).2.1⟩,0⟩)from by
    rw[e7.out];unfold Ty;simp only;rw[Br ai,← dw.out])
   rw[cy.out.2.2]at T;have cz:=Hq (show Ww N (E3 xs f pg).1 from by
    unfold E3
    split
    ·exact b3.out.low.append _
    ·exact b3.out.low)
   clear e7;obtain⟨U,da⟩:=ex ((F9 xs.txns H).last);rw[← da]at T;have fp:=Hq da;generalize E3 xs f pg=m at T cz I;obtain⟨l3,V,e3⟩:=m;simp only at T cz I;clear da;have db:H<xs.txns.length:=(by rw[cc.out];exact fe);have gp:(H:Int)<(xs.txns.length:Int):=(by omega);have gq:(0:Int)≤(xk:Int):=by omega
   by_cases Z:e3=0
   case neg=>
    have fq:(e3 != 0)=true:=(by rw[bne_iff_ne];exact Z);have hm:=I.out;rw[if_neg Z]at hm;have HM:=Hq hm;have ak:=Hq (show X=⟨s,fs,e3⟩from by rw[T.out,if_pos Z]);clear Z hm I T
    go_upto_region 14 with(first
     |with_reducible refine lL b5.out Ak ?_
     |(go_at_call 187;(refine HM.out.mono ?_);rintro e w7 ⟨E,rfl,bx,ao⟩;have H7:=Hq (H6.out.step ao);have aq:=Hq (Ac b5.out ao))
     |with_reducible refine lS (Ai xs E) aq.out ?_)
    have H8:=Hq (H7.out.under (M:=g) (by simp;omega) (Fj (g:=g) (Nat.le_refl g) (show Below g w7 w7 from⟨rfl,rfl,rfl,Nat.le_refl _,fun _ _=>rfl⟩) (Ai xs E)));generalize w7.setRow g (Ai xs E)=w8 at H8 ⊢;clear ao bx H7 aq H6 b5 HM
    try simp only[Act.put]
    go_wp2_with(first|with_reducible refine lL H8.out.Ag Ak ?_|with_reducible refine lS (Ai s p) H8.out.Ax ?_)
    refine rT2 e3 H8.out.Ax Ak ?_;exact af.out _ (H8.out.row 2 (Ai s p) _ rfl).below e3 ak.out
   have fq:(e3 != 0)=false:=(by rw[Z];rfl);have hm:=I.out;rw[if_pos Z]at hm;have HM:=Hq hm;have ar:=Hq (T.out.trans (if_neg (fun hn=>hn Z)));subst Z;clear hm I T;obtain⟨d,b6⟩:=ex (l.set xk (⟨pg,f.bytes,f.pins,f.mark,V⟩:Fr));rw[← b6]at HM;have cf:xk<d.length:=(by rw[b6,List.length_set];exact ai);have fu:d.length≤100:=(by rw[b6,List.length_set];exact dv);have fv:=Hq (show d[xk]=(⟨pg,f.bytes,f.pins,f.mark,V⟩:Fr)from by subst b6;exact List.getElem_set_self _);have fw:=Hq (fun v=>show d.set xk v=l.set xk v from by rw[b6,List.set_set]);clear b6
   go_upto_region 14 with(first
    |with_reducible refine lL b5.out Ak ?_
    |(go_at_call 187;(refine HM.out.mono ?_);rintro e w7 ⟨E,rfl,bx,ao⟩;have H7:=Hq (H6.out.step ao);have aq:=Hq (Ac b5.out ao))
    |with_reducible refine lS (Ai {xs with log:=l3} E) aq.out ?_)
   have H8:=Hq (H7.out.under (M:=g) (by simp;omega) (Fj (g:=g) (Nat.le_refl g) (show Below g w7 w7 from⟨rfl,rfl,rfl,Nat.le_refl _,fun _ _=>rfl⟩) (Ai {xs with log:=l3} E)));have bz:=Hq (setRow_heap _ _ _ (Ai {xs with log:=l3} E) _ _ aq.out);have c6:=Hq (show An (w7.setRow g (Ai {xs with log:=l3} E)) {xs with log:=l3} E d from bx.other (t:=36) aq.out (by decide) (by decide) (by decide) (Ai {xs with log:=l3} E));generalize w7.setRow g (Ai {xs with log:=l3} E)=w8 at H8 bz c6 ⊢;clear ao bx H7 aq H6 b5 HM ea
   try simp only[Act.put]
   obtain⟨tb,eb,ec,fx,ed,aw⟩:=Bi Fo c6.out.st.tx db;have fy:=aw 1 (.int .i64 U) (by rw[fp.out,Ot db];rfl);have ee:=show w8.cell? ⟨g,13,none⟩=some (.slice (some ⟨tb,eb,none⟩) xs.txns.length E.tc)from(by rw[Aa bz.out,← ec];rfl);have dc:=show w8.cell? ⟨(w.heap.size+1),1,none⟩=some (.int .i64 0)from(by rw[Aa H8.out.Ah];rfl);have dd:=Ao H8.out.Ah 1;clear aw fx ed ec;go_upto_region 17 with fail;have H9:=Hq (show Dm w.heap.size w [((Ai s p),36),(#[(),U,A,z,pg,C,(),o.kind,o.slot,o.Bd,o.new,G,rt,c.key,c.page,c.slot,'s','s'],88),(Zq9,36)] (w8.setCell ⟨(w.heap.size+1),1,none⟩ (.int .i64 U))from H8.out.set 1 1 (.int .i64 U) _ rfl);have c7:=Hq (show(w8.setCell ⟨(w.heap.size+1),1,none⟩ (.int .i64 U)).heap[g]? =some (.cells (Ai {xs with log:=l3} E) 36 (0,0))from by rw[Below.heap_setCell _ _ _ _ (by show g≠w.heap.size+1;omega)];exact bz.out);have de:=Hq (c6.out.set H8.out.Ah (by decide) (by decide) (by decide) 1 (.int .i64 U));have bl:=Hq (fun W=>show Cq 188 #[Af {xs with log:=l3} E,.agg #[(),U,A,z,pg,C,(),o.kind,o.slot,o.Bd,o.new,G,rt,c.key,c.page,c.slot,'s','s']] W _ from O1 {xs with log:=l3} E (b3.out.log cz.out).lb (⟨0,U,A,z,pg,C,0,o,G,rt,c,[],[]⟩:Rc.Rec) rfl rfl W (by rcases dy.out with h|h;exact .inr (.inl h);exact .inr (.inr (.inl h))));generalize w8.setCell ⟨(w.heap.size+1),1,none⟩ (.int .i64 U)=w9 at H9 c7 de ⊢;clear ee dc dd fy H8 bz c6;dsimp only at bl ar;generalize Lg.Ay l3 (⟨0,U,A,z,pg,C,0,o,G,rt,c,[],[]⟩:Rc.Rec)=y at bl ar;obtain⟨l4,L,e4⟩:=y;simp only at bl ar
   try simp only[Act.put]
   go_upto_region 18 with(first
    |with_reducible refine lL c7.out Ak ?_
    |with_reducible refine lL H9.out.Ah Ds ?_
    |(go_at_call 188;refine(bl.out _).mono ?_;rintro e c8 ⟨rfl,ax⟩;have ef:=Hq (H9.out.step ax);have ay:=Hq (Ac c7.out ax);have cg:=Hq (de.out.below ax);clear ax)
    |with_reducible refine lS (Ai {xs with log:=l4} E) ay.out ?_)
   have J:=Hq (ef.out.under (M:=g) (by simp;omega) (Fj (g:=g) (Nat.le_refl g) (show Below g c8 c8 from⟨rfl,rfl,rfl,Nat.le_refl _,fun _ _=>rfl⟩) (Ai {xs with log:=l4} E)));have bm:=Hq (setRow_heap _ _ _ (Ai {xs with log:=l4} E) _ _ ay.out);have bn:=Hq (show An (c8.setRow g (Ai {xs with log:=l4} E)) {xs with log:=l4} E d from by
    have h1:=cg.out.other (t:=36) ay.out (by decide) (by decide) (by decide) (Ai {xs with log:=l4} E);exact⟨⟨h1.st.dk,h1.st.dt,h1.st.tx,h1.st.tt⟩,h1.fn,h1.fr,h1.ft⟩)
   generalize c8.setRow g (Ai {xs with log:=l4} E)=w11 at J bm bn ⊢;clear H9 c7 de ef ay cg bl
   try simp only[Act.put]
   by_cases b7:e4=0
   case neg=>
    have eg:(e4 != 0)=true:=(by rw[bne_iff_ne];exact b7);have ak:=Hq (ar.out.trans (if_pos b7));clear b7 ar
    go_wp2_with(first|with_reducible refine lL J.out.Ag Ak ?_|with_reducible refine lS (Ai s p) J.out.Ax ?_)
    refine rT2 e4 J.out.Ax Ak ?_;exact af.out _ (J.out.row 2 (Ai s p) _ rfl).below e4 ak.out
   have eg:(e4 != 0)=false:=(by rw[b7];rfl);have df:=Hq (ar.out.trans (if_neg (fun hn=>hn b7)));clear ar b7;have fz:=show w11.cell? ⟨(w.heap.size+1),0,none⟩=some (.int .i64 0)from(by rw[Aa J.out.Ah];rfl);have ga:=Ao J.out.Ah 0;go_upto_region 21 with fail;have dh:=Hq (show Dm w.heap.size w [((Ai s p),36),(#[L,U,A,z,pg,C,(),o.kind,o.slot,o.Bd,o.new,G,rt,c.key,c.page,c.slot,'s','s'],88),(Zq9,36)] (w11.setCell ⟨(w.heap.size+1),0,none⟩ (.int .i64 L))from J.out.set 1 0 (.int .i64 L) _ rfl);have a1:=Hq (show(w11.setCell ⟨(w.heap.size+1),0,none⟩ (.int .i64 L)).heap[g]? =some (.cells (Ai {xs with log:=l4} E) 36 (0,0))from by rw[Below.heap_setCell _ _ _ _ (by show g≠w.heap.size+1;omega)];exact bm.out);have O:=Hq (bn.out.set J.out.Ah (by decide) (by decide) (by decide) 0 (.int .i64 L));generalize w11.setCell ⟨(w.heap.size+1),0,none⟩ (.int .i64 L)=w12 at dh a1 O ⊢;clear fz ga J bm bn
   try simp only[Act.put]
   obtain⟨di,bo,eh,gd,ei,P⟩:=Bi Cc O.out.fr cf;rw[fv.out]at P;have gw:(xk:Int)<(d.length:Int):=(by omega);have ej:=show w12.cell? ⟨g,11,none⟩=some (.slice (some ⟨di,bo,none⟩) d.length E.fc)from(by rw[Aa a1.out,← eh,← O.out.fn];rfl);have ek:=Hq (show w12.rangeAt di (bo+xk*5) (F4 (⟨pg,f.bytes,f.pins,f.mark,V⟩:Fr))from P);clear P gd ei eh;have dj:=Hq (fun W=>Gu b L (by have:=Fa fj.out;omega) W);generalize Cj b L=z2 at dj df
   go_upto_region 22 with(first
    |(refine Bt Kr fun K hK=>wp_load_mid 116 (.tmp 98) rfl di (bo+xk*5) rfl (F4 (⟨pg,f.bytes,f.pins,f.mark,V⟩:Fr)) _ ek.out Cw Kr Kr (hK _ _ ?_))
    |with_reducible refine sN (Cg (⟨pg,f.bytes,f.pins,f.mark,V⟩:Fr)) ?_)
   have az:=Ad w12 (.cells (Cg (⟨pg,f.bytes,f.pins,f.mark,V⟩:Fr)) 116);have dm:=Hq (dh.out.step az);have bp:=Hq (heap_alloc_new w12 (.cells (Cg (⟨pg,f.bytes,f.pins,f.mark,V⟩:Fr)) 116));have bq:=Hq (Ac a1.out az);have br:=Hq (O.out.below az);have en:=O.out.ft.lt;have eo:g<w12.heap.size:=C0 a1.out;obtain⟨g2,ca⟩:=ex w12.heap.size;obtain⟨gx,b0⟩:=ex (w12.alloc (.cells (Cg (⟨pg,f.bytes,f.pins,f.mark,V⟩:Fr)) 116));rw[← ca,← b0]at bp;rw[← b0]at dm bq br;rw[← b0,← ca];rw[← ca]at eo;have ep:=Hq (show ∀ ad,E.F=some ad→ad.block≠g2 from fun ad e=>by have:=en ad e;omega);clear b0 ca az dh a1 O ek ej en
   try simp only[Act.put]
   go_upto_region 23 with(go_at_call 101;refine(dj.out _).mono ?_;rintro e a6 ⟨rfl,a7⟩;have er:=Hq (dm.out.step a7);have ch:=Hq (Ac bq.out a7);have a8:=Hq (Ac bp.out a7);have cj:=Hq (br.out.below a7);have aa:=Hq (Bs 1 a8.out (.string z2));have dc:=show a6.cell? ⟨g2,1,none⟩=some (.string f.bytes)from(by rw[Aa a8.out];rfl);have dd:=Ao a8.out 1;have gf:=show(a6.setCell ⟨g2,1,none⟩ (.string z2)).cell? ⟨g2,3,none⟩=some (.bool f.mark)from(by rw[Aa aa.out];rfl);have gg:=Ao aa.out 3)
   have ck:=Hq (show((a6.setCell ⟨g2,1,none⟩ (.string z2)).setCell ⟨g2,3,none⟩ (.bool true)).heap[g2]? =some (.cells (Cg (⟨pg,z2,f.pins,true,V⟩:Fr)) 116 (0,0))from by have:=Bs 3 aa.out (.bool true);simpa using this);have bs:Below g2 a6 ((a6.setCell ⟨g2,1,none⟩ (.string z2)).setCell ⟨g2,3,none⟩ (.bool true)):=((show Below g2 a6 a6 from⟨rfl,rfl,rfl,Nat.le_refl _,fun _ _=>rfl⟩).setCell (p:=⟨g2,1,none⟩) (Nat.le_refl _) (.string z2)).setCell (p:=⟨g2,3,none⟩) (Nat.le_refl _) (.bool true);have et:=Hq (er.out.under (M:=g2) (by simp;omega) bs);have cm:=Hq ((bs.block g (by omega)).trans ch.out);have cn:=Hq ((cj.out.own a8.out ep.out 1 (.string z2)).own aa.out ep.out 3 (.bool true));generalize (a6.setCell ⟨g2,1,none⟩ (.string z2)).setCell ⟨g2,3,none⟩ (.bool true)=w16 at et cm ck cn ⊢;clear dm bq bp br er ch a8 cj aa dc dd gf gg a7 bs dj;have eu:=Hq (fun W hp=>Fq {xs with log:=l4} E d fu xk cf (⟨pg,z2,f.pins,true,V⟩:Fr) W hp);have dn:=Hq (fun(q4:SP) W (hp:An W {xs with log:=l4} q4 (d.set xk (⟨pg,z2,f.pins,true,V⟩:Fr)))=>show Cq 189 #[Af {xs with log:=l4} q4,.int .i64 (H:Int),.agg #[L,U,A,z,pg,C,(),o.kind,o.slot,o.Bd,o.new,G,rt,c.key,c.page,c.slot,'s','s']] W fun e w'=>∃ q:SP,e= .returned (Af {xs with log:=l4,txns:=xs.txns.set H {F9 xs.txns H with last:=L,next:=if z=3 then C else L}} q)∧An w' {xs with log:=l4,txns:=xs.txns.set H {F9 xs.txns H with last:=L,next:=if z=3 then C else L}} q (d.set xk (⟨pg,z2,f.pins,true,V⟩:Fr))∧Bw W w' from aA {xs with log:=l4} q4 (d.set xk (⟨pg,z2,f.pins,true,V⟩:Fr)) (by show xs.txns.length≤800000;rw[cc.out];exact dp) H db (⟨L,U,A,z,pg,C,0,o,G,rt,c,[],[]⟩:Rc.Rec) W hp);rw[fw.out]at dn eu;obtain⟨s5,ev⟩:=ex ({xs with log:=l4,txns:=xs.txns.set H {F9 xs.txns H with last:=L,next:=if z=3 then C else L}}:Tx.St);rw[← ev]at dn df;clear ev;have H9:=et.out.drew;have hSn:w16.drew.heap[g]? =some (.cells (Ai {xs with log:=l4} E) 36 (0,0))∧w16.drew.heap[g2]? =some (.cells (Cg (⟨pg,z2,f.pins,true,V⟩:Fr)) 116 (0,0))∧w16.drew.heap[w.heap.size+1]? =some (.cells #[L,U,A,z,pg,C,(),o.kind,o.slot,o.Bd,o.new,G,rt,c.key,c.page,c.slot,'s','s'] 88 (0,0)):=⟨cm.out,ck.out,H9.Ah⟩;have ew:=cn.out.below (Below.refl _ w16).drew
   try simp only[Act.put]
   refine E4 (S:=(fun u=>u.heap[g]? =some (.cells (Ai {xs with log:=l4} E) 36 (0,0))∧u.heap[g2]? =some (.cells (Cg (⟨pg,z2,f.pins,true,V⟩:Fr)) 116 (0,0))∧u.heap[w.heap.size+1]? =some (.cells #[L,U,A,z,pg,C,(),o.kind,o.slot,o.Bd,o.new,G,rt,c.key,c.page,c.slot,'s','s'] 88 (0,0)))) (fun R=>?_);generalize w16.drew=w9 at hSn H9 ew ⊢;refine Q3 0 Ak ?_;refine Au 1 ?_;refine Kt 2 (some 107) (v:=.agg (Cg (⟨pg,z2,f.pins,true,V⟩:Fr))) rfl (yieldsIf_load_mid (by rfl) 116 (.tmp 13) rfl g2 0 (by rfl) (Cg (⟨pg,z2,f.pins,true,V⟩:Fr)).toList _ (fun u hu=>(by intro j v hj;rw[Nat.zero_add,Aa hu.2.1];simpa using hj)) Cw Kr Kr) ?_
   try simp only[Act.put,pS]
   refine Au 4 ?_;refine Kt 5 (some 110) (v:=.agg #[L,U,A,z,pg,C,(),o.kind,o.slot,o.Bd,o.new,G,rt,c.key,c.page,c.slot,'s','s']) rfl (yieldsIf_load_mid (by rfl) 88 (.tmp 3) rfl (w.heap.size+1) 0 (by rfl) #[.int .i64 L,.int .i64 U,.int .i64 A,.int .i64 z,.int .i64 pg,.int .i64 C,.int .i64 0,.int .i64 o.kind,.int .i64 o.slot,.string o.Bd,.string o.new,.int .i64 G,.int .i64 rt,.string c.key,.int .i64 c.page,.int .i64 c.slot,.slice none 0 0,.slice none 0 0].toList _ (fun u hu=>(by intro j v hj;rw[Nat.zero_add,Aa hu.2.2];simpa using hj)) Ds Kr Kr) ?_
   try simp only[Act.put,pS]
   refine Bx 3 fun K hK=>?_
   go_simp
   (refine(eu.out _ ew).mono ?_);rintro e gy ⟨q4,rfl,gh,b1⟩;have ae:=And.intro (Ac hSn.1 b1) (And.intro (Ac hSn.2.1 b1) (Ac hSn.2.2 b1));clear hSn;have hSn:=ae;clear ae;have gi:=H9.step b1
   refine Bl hK (fun R=>?_);clear hK K;refine Bx 6 fun K hK=>?_
   go_simp
   (refine(dn.out _ _ gh).mono ?_);rintro e gz ⟨q5,rfl,gj,b2⟩;have ae:=And.intro (Ac hSn.1 b2) (And.intro (Ac hSn.2.1 b2) (Ac hSn.2.2 b2));clear hSn;have hSn:=ae;clear ae;have cb:=gi.step b2
   refine Bl hK (fun R=>?_);clear hK K;refine Bx 7 fun K hK=>?_;refine Az (by rfl) ?_;refine sW (Ai s5 q5) cb.Ax ?_;have gk:=cb.row 2 (Ai s5 q5) _ rfl;have ey:=gj.other (t:=36) cb.Ax (by decide) (by decide) (by decide) (Ai s5 q5);have ae:=And.intro ((Aj _ _ (Ai s5 q5) _ (show g≠w.heap.size+2 by omega)).trans hSn.1) (And.intro ((Aj _ _ (Ai s5 q5) _ (show g2≠w.heap.size+2 by omega)).trans hSn.2.1) ((Aj _ _ (Ai s5 q5) _ (show w.heap.size+1≠w.heap.size+2 by omega)).trans hSn.2.2));clear hSn;have hSn:=ae;clear ae;refine Bl hK (fun R=>?_);clear hK K;refine Au 8 ?_;refine wpAnyH_done Kr ?_ _;clear R;go_wp2_with fail;refine rT2 () cb.Ax Ak ?_;exact cq.out _ df.out _ q5 ey gk.below
 ·rw[decide_eq_false hn]at b9
  have gl:=Hq (show X=⟨s,fs,1⟩from by rw[hX];unfold D5;rw[if_pos (fun hc=>hn hc.2)]);clear hX hn hD cp h hW;generalize Bk X w=Q at af ⊢;go_enter Tryz.func116,Tryz.ntmps116;go_upto_region 1 with fail;have H0:=Jo w (Ai s p) 36 #[(),(),A,z,pg,C,(),o.kind,o.slot,o.Bd,o.new,G,rt,c.key,c.page,c.slot,'s','s'] 88 Zq9 36;obtain⟨W0,bc⟩:=Dr H0;rw[← bc]at H0 ⊢;clear bc
  go_cut [28] (fun x wc=>x= .bool true∧Dm w.heap.size w [((Ai s p),36),(#[(),(),A,z,pg,C,(),o.kind,o.slot,o.Bd,o.new,G,rt,c.key,c.page,c.slot,'s','s'],88),(Zq9,36)] wc)
  case first=>
   have cv:=show W0.cell? ⟨(w.heap.size+1),4,none⟩=some (.int .i64 pg)from(by rw[Aa H0.out.Ah];rfl);have fa:=show W0.cell? ⟨(w.heap.size+1),3,none⟩=some (.int .i64 z)from(by rw[Aa H0.out.Ah];rfl);rcases b8 with rfl|rfl
   all_goals
    go_wp2_with(first|with_reducible refine lL H0.out.Ag Ak ?_|(go_at_call 168;refine(b9.out _).mono ?_;rintro e w1 ⟨rfl,cw⟩;have H1:=Hq (H0.out.step cw)))
    go_meet
    case rel=>exact⟨rfl,H1.out⟩
  case rest=>
   obtain⟨rfl,bf⟩:=hcut;have H1:=Hq bf;clear bf
   go_wp2_with(first|with_reducible refine lL H1.out.Ag Ak ?_|with_reducible refine lS (Ai s p) H1.out.Ax ?_)
   refine rT2 (.int .i64 1) H1.out.Ax Ak ?_;exact af.out _ (H1.out.row 2 (Ai s p) _ rfl).below 1 gl.out
end Go.Proofs.YtmldoihahndcgaaGreatDoor
