import Derived.Test.YtmldoihahndcgaaGreatDoorHs00
import Derived.Test.YtmldoihahndcgaaGreatDoorHs14
import Derived.Test.YtmldoihahndcgaaGreatDoorHs06
import Derived.Test.YtmldoihahndcgaaGreatDoorHs03
import Derived.Test.YtmldoihahndcgaaGreatDoorHs09
set_option maxRecDepth 100000
set_option maxHeartbeats 16000000
set_option linter.unusedSimpArgs false
namespace Go.Proofs.YtmldoihahndcgaaGreatDoor
open Go.RowKit
theorem oC {p b r:ByteArray}(d:Mo p)(e:(Af p).recs=[b])(f:b.size≠0)(h:r.size≠0)(i:r.size≤400):
 aJ p ⟨3,0,b,r⟩=(C8 {Af p with recs:=[r]},0)∧Mo (C8 {Af p with recs:=[r]})∧Af (C8 {Af p with recs:=[r]})={Af p with recs:=[r]}:=by
 obtain⟨j,k⟩:=pU d e f h i;refine⟨?_,k⟩;have a:Pg.Bc (Af p).recs 0=b:=by rw[e];rfl
 have l:F5 p ⟨3,0,b,r⟩=true:=by
  unfold F5;simp only;rw[a,decide_eq_false f,decide_eq_true rfl];rfl
 have g:Dg p ⟨3,0,b,r⟩=(C8 {Af p with recs:=[r]},true):=by
  unfold Dg;rw[if_neg (show ¬ (3:Int)=1 by decide),if_neg (show ¬ (3:Int)=2 by decide),if_pos rfl,l,if_pos rfl];simp only;rw[j];rfl
 have c:D9 p ⟨3,0,b,r⟩=true:=by unfold D9;rw[g,d.is];rfl
 rw[Wk c,g]
theorem oD {p q:ByteArray}(c:Mo p)(a:Mo q)(f:(Af q).lsn=0):
 aJ p ⟨7,0,Bg p 0,q⟩=(Bg q ((Af p).lsn:Nat),0)∧Mo (Bg q ((Af p).lsn:Nat))∧Af (Bg q ((Af p).lsn:Nat))=⟨(Af p).lsn,(Af q).kind,(Af q).link,(Af q).recs⟩:=by
 have d:=jA c.is a.is;refine⟨?_,d⟩;have g:Bg q 0=q:=by have:=a.pl;unfold Mw at this;rw[f]at this;exact this
 have e:Dg p ⟨7,0,Bg p 0,q⟩=(Bg q ((Af p).lsn:Nat),true):=by
  unfold Dg;rw[if_neg (show ¬ (7:Int)=1 by decide),if_neg (show ¬ (7:Int)=2 by decide),if_neg (show ¬ (7:Int)=3 by decide),if_neg (show ¬ (7:Int)=4 by decide),if_neg (show ¬ (7:Int)=5 by decide),if_neg (show ¬ (7:Int)=6 by decide),if_pos rfl];unfold Gf;rw[if_pos ⟨rfl,rfl,by simp only;rw[a.size];decide,g⟩];simp only;rw[decide_eq_false (by rw[d.1.size];decide)];rfl
 have b:D9 p ⟨7,0,Bg p 0,q⟩=true:=by unfold D9;rw[e,c.is];rfl
 rw[Wk b,e]
theorem Ux {p:ByteArray}(b:Mo p){l:Int}(a:Rc.num l):Mo (Bg p l)∧Af (Bg p l)=⟨l.toNat,(Af p).kind,(Af p).link,(Af p).recs⟩:=by
 have h:=Mg b.is (l:=l.toNat) (by have:=a.2;omega);rw[show((l.toNat:Nat):Int)=l from by have:=a.1;omega]at h;exact h
open Sc
structure sF (s s':Tx.St) (fs fs':List Fr) (t l:Int):Prop where
 ti:∃ (i:Nat) (h:i<s.txns.length),s.txns[i].txn=t∧s'.txns=s.txns.set i {s.txns[i]with last:=l,next:=l}
 lr:Rc.num l
 nx:s'.next=s.next
 zf:s'.zframes=s.zframes
 ln:fs'.length=fs.length
 e0:s.log.end_≤s'.log.end_
 en:s'.log.end_≤s.log.end_+2524
theorem Sq {w w':World}{A:Option Addr}{c n M:Nat}{vs:List Value}(h:Reads w A c n vs)(g:∀ ad,A=some ad→ad.block<M)(f:Below M w w'):Reads w' A c n vs:=fun i=>by
 obtain⟨b,off,e,k,d,a⟩:=h i;exact⟨b,off,e,k,Nat.lt_of_lt_of_le d f.size,fun j v l=>by rw[f.cell (p:=⟨b,off+j,none⟩) (show b<M from g ⟨b,off,none⟩ e)];exact a j v l⟩
theorem Cp.lt {n:Nat}{w:World}{T:TypeId}{A:Option Addr}(h:Cp n w T A):∀ ad,A=some ad→ad.block<w.heap.size:=fun ad e=>by
 obtain⟨_,cs,b,a⟩:=h ad e;exact By a
theorem Ao.upto {w w':World}{s:Tx.St}{p:SP}{fs:List Fr}(h:Ao w s p fs){M:Nat}(c:∀ ad,p.A=some ad→ad.block<M)(d:∀ ad,p.F=some ad→ad.block<M)(a:Below M w w'){f:List Rc.A9}{T:Option Addr}{tc:Nat}(g:Wv w' T tc f)(b:Cp 0 w' 134 T):
 Ao w' {s with txns:=f} {p with T:=T,tc:=tc} fs:=
 ⟨⟨⟨Sq h.st.dk.secs c a,h.st.dk.small⟩,fun ad e=>⟨(h.st.dt ad e).1,by rw[a.block _ (c ad e)];exact(h.st.dt ad e).2⟩,g,b⟩,h.fn,Sq h.fr d a,fun ad e=>⟨(h.ft ad e).1,by rw[a.block _ (d ad e)];exact(h.ft ad e).2⟩⟩
def Uy (N n:Nat)(C:Nat→ByteArray)(s:Tx.St)(fs:List Fr)(t:Int)(pg:Nat)(b:ByteArray)(w:World)(e:Ending)(w':World):Prop:=
 ∃ (s':Tx.St) (q:SP) (fs':List Fr) (l:Int),e= .returned (.tuple #[Ag s' q,()])∧Ao w' s' q fs'∧PI N n s' fs' (fun x=>if x=pg then Bg b l else C x)∧sF s s' fs fs' t l∧Bw w w'
theorem Zk (a:Rc.A9)(t:Int)(b:Nat)(w:World)(d:w.cell? ⟨b,2,none⟩=some (.int .i64 t)):Cq 177 #[.agg (kS a),.pointer (some ⟨b,0,none⟩)] w (Lu (a.txn=t) w):=by
 have k:=Hq d;have g:b<w.heap.size:=by
  rcases Nat.lt_or_ge b w.heap.size with h|h
  ·exact h
  ·rw[World.cell?,Array.getElem?_eq_none h]at d
   cases d
 have i:=show(w.alloc (.cells (kS a) 134)).cell? ⟨b,2,none⟩=some (.int .i64 t)from by rw[(Ab w (.cells (kS a) 134)).cell (p:=⟨b,2,none⟩) g];exact d
 have j:=show(w.alloc (.cells (kS a) 134)).cell? ⟨w.heap.size,0,none⟩=some (.int .i64 a.txn)from by rw[Aa (heap_alloc_new w (.cells (kS a) 134))];rfl
 clear d
 by_cases c:a.txn=t
 ·have e:=Hq (fun w' f=>We (p:=a.txn=t) (w:=w) (w':=w') c f)
  generalize Lu (a.txn=t) w=Q at e ⊢;have f:(a.txn==t)=true:=by rw[c];exact beq_self_eq_true _
  clear c;go_enter Tryz.func177,Tryz.ntmps177;go_wp2_with fail;exact e.out _ (Ab _ _)
 ·have e:=Hq (fun w' f=>Wg (p:=a.txn=t) (w:=w) (w':=w') c f)
  generalize Lu (a.txn=t) w=Q at e ⊢;have f:(a.txn==t)=false:=beq_eq_false_iff_ne.2 c;clear c;go_enter Tryz.func177,Tryz.ntmps177;go_wp2_with fail;exact e.out _ (Ab _ _)
theorem Zy {N n:Nat}(s:Tx.St)(p:SP)(fs:List Fr)(C:Nat→ByteArray)(hI:PI N n s fs C)(t:Int)(pg:Nat)(ct:pg<n)(o:Rc.Op)(b:ByteArray)(hex:∃ a∈s.txns,a.txn=t)(e4:∀ a∈s.txns,Rc.I0 a)(gx:s.txns.length≤800000)
 (hR:∀ l v,Rc.num l→Rc.num v→Rc.Bs (⟨l,v,t,2,(pg:Int),0,0,o,1,0,Rc.Cm,[],[]⟩:Rc.Rec)) (e5:∀ W,Cr 178 #[.string (C pg),.agg #[o.kind,o.slot,o.Cs,o.new]] W (Mm (b,0))) (hb:Mo b) (c7:s.log.end_+2524≤(N:Int)*128) (w:World) (h:Ao w s p fs):
 Cq 107 #[Ag s p,.agg #[(),(),t,.int .i64 2,.int .i64 (pg:Int),(),(),o.kind,o.slot,o.Cs,o.new,.int .i64 1,(),"",(),(),'s','s']] w (Uy N n C s fs t pg b w):=by
 have gy:=hI.nf;have cu:=Hq (fun W=>Zg s p n hI.zp (pg:Int) W);rw[decide_eq_true (show 0≤(pg:Int)∧(pg:Int)<(n:Int)from by omega)]at cu;have e6:=Hq (fun(g:Nat) W (hb:Bw w W) (hg:W.cell? ⟨g,2,none⟩=some (.int .i64 t)) (gz:g<W.heap.size)=>cR (fun a=>a.txn=t) 177 #[.pointer (some ⟨g,0,none⟩)] (enters_of Tryz.func177 Kr rfl) s.txns (by omega) p.T p.tc W (h.st.tx.below hb) (fun a _ V hV=>Zk a t g V (by rw[hV.cell (p:=⟨g,2,none⟩) gz];exact hg)));have e7:=Hq (fun W (hb:Bw w W)=>Uq s p fs C hI pg ct W (h.below hb));have e8:=Hq hex;have h0:=Hq e4;have HR:=Hq hR;have e9:=Hq e5;have HB:=Hq hb;have aq:=Hq c7;have HQ:=Hq (fun(s':Tx.St) (q:SP) (j:List Fr) (l:Int) w' G h2 h3 h4=>show Uy N n C s fs t pg b w (.returned (.tuple #[Ag s' q,()])) w' from⟨s',q,j,l,rfl,G,h2,h3,h4⟩);generalize Uy N n C s fs t pg b w=Q at HQ ⊢;clear h hI hex e4 hR e5 hb c7 gy;go_enter Tryz.func107,Tryz.ntmps107;go_upto_region 1 with fail;have H0:=Q6 w (Aj s p) 36 #[(),(),t,.int .i64 2,.int .i64 (pg:Int),(),(),o.kind,o.slot,o.Cs,o.new,.int .i64 1,(),"",(),(),'s','s'] 88 #[(),(),(),'s',(),false,(),(),(),(),"",'s',(),'s',()] 36;obtain⟨W0,ea⟩:=Ee H0;rw[← ea]at H0 ⊢;clear ea;have h5:=show W0.cell? ⟨(w.heap.size+1),3,none⟩=some (.int .i64 2)from by rw[Aa H0.out.Am];rfl
 have cv:=show W0.cell? ⟨(w.heap.size+1),4,none⟩=some (.int .i64 (pg:Int))from by rw[Aa H0.out.Am];rfl
 go_upto_region 3 with(first|with_reducible refine lL H0.out.Ai Ar ?_|(go_at_call 145;refine(cu.out _).mono ?_;rintro e w1 ⟨rfl,eb⟩;have H1:=Hq (H0.out.step eb)))
 have H:=show w1.cell? ⟨w.heap.size,13,none⟩=some (.slice p.T s.txns.length p.tc)from by rw[Aa H1.out.Ai];rfl
 have ec:=Hq (e6.out (w.heap.size+1) w1 H1.out.below (by rw[Aa H1.out.Am];rfl) (H1.out.lt (i:=1) (by simp)));clear h5 cv eb cu H0 e6
 go_upto_region 4 with(go_at_call 176;(refine ec.out.mono ?_);rintro e w2 ⟨kk,rfl,hq,ed⟩;have H2:=Hq (H1.out.step ed);clear ed H1 ec H;rcases hq with⟨rfl,hq⟩|⟨i,hi,rfl,ee,_⟩)
 ·exact absurd e8.out (fun⟨a,ha,e⟩=>hq a ha e)
 have il:¬ (i:Int)<0:=by omega
 have h6:=Hq ee;have cv:=show w2.cell? ⟨(w.heap.size+1),4,none⟩=some (.int .i64 (pg:Int))from by rw[Aa H2.out.Am];rfl
 clear ee e8
 go_upto_region 9 with(first
  |with_reducible refine lL H2.out.Ai Ar ?_
  |(go_at_call 71;refine(e7.out _ H2.out.below).mono ?_;rintro e w4 ⟨s',q,j,k,rfl,ef,D,eg,⟨ak,bk,bl⟩,bm⟩)
  |with_reducible refine sN (Aj s' q) ?_)
 have eh:=bm.trans ((Ab w4 (.cells (Aj s' q) 36)).mono bm.size);have H5:=Hq (H2.out.step eh);have ar:=Hq (heap_alloc_new w4 (.cells (Aj s' q) 36));have au:=Hq (ef.below (Ab w4 (.cells (Aj s' q) 36)));have h7:(w.heap.size+2)<w4.heap.size:=Nat.lt_of_lt_of_le (H2.out.lt (i:=2) (by simp)) bm.size;obtain⟨g,hg⟩:=ex w4.heap.size;obtain⟨w5,bn⟩:=ex (w4.alloc (.cells (Aj s' q) 36));rw[← hg,← bn]at ar;rw[← bn]at H5 au;rw[← bn,← hg];rw[← hg]at h7;have an:=Hq D;have A:=Hq eg;have cw:=(D.bytes ak bk bl).2;have cx:=D.fr.pin k ak;have cy:=D.fr.rc k ak;have h9:j.length≤100:=by have:=D.nf;omega
 clear bn hg bm eh ef H2 e7 cv D eg
 try simp only[Act.put]
 have ij:(0:Int)≤(k:Int):=by omega
 have im:(k:Int)<(j.length:Int):=by omega
 obtain⟨fb,av,cz,hc,ei,a6⟩:=Bu Dh au.out.fr ak;obtain⟨f,da⟩:=ex (j[k]);have hd:=Hq da;rw[← da]at a6 bk bl cw cx cy;have ej:=Hq (show w5.rangeAt fb (av+k*5) (Ib f)from a6);have ek:=show w5.cell? ⟨g,11,none⟩=some (.slice (some ⟨fb,av,none⟩) j.length q.fc)from by rw[Aa ar.out,← cz,← au.out.fn];rfl
 have bo:=Hq (show Full f∧f.Ac=(pg:Int)∧f.bytes=C pg∧f.pins=0∧Rc.num f.rc from⟨bk,bl,cw,cx,cy⟩);have eo:∀ ad,q.F=some ad→ad.block<w5.heap.size:=fun ad e=>by rw[cz]at e;injection e with e;subst e;exact ei
 have bp:=Hq eo;clear a6 hc ei cz da bk bl cw cx cy eo
 go_upto_region 10 with(first
  |(refine Cw Kr fun K hK=>wp_load_mid 116 (.tmp 52) rfl fb (av+k*5) rfl (Ib f) _ ej.out Fw Kr Kr (hK _ _ ?_))
  |with_reducible refine sN (Er f) ?_)
 have bq:=Ab w5 (.cells (Er f) 116);have H6:=Hq (H5.out.step bq);have br:=Hq (heap_alloc_new w5 (.cells (Er f) 116));have db:=Hq (Ae ar.out bq);have dc:=Hq (au.out.below bq);have ep:g<w5.heap.size:=By ar.out;obtain⟨g2,bs⟩:=ex w5.heap.size;obtain⟨w6,bt⟩:=ex (w5.alloc (.cells (Er f) 116));rw[← bs,← bt]at br;rw[← bt]at H6 db dc;rw[← bt,← bs];rw[← bs]at ep bp;clear bt bs bq H5 ar au ej ek
 try simp only[Act.put]
 have er:=show w6.cell? ⟨g2,1,none⟩=some (.string (C pg))from by rw[Aa br.out,← bo.out.2.2.1];rfl
 go_upto_region 13 with(first
  |with_reducible refine lP #[o.kind,o.slot,o.Cs,o.new] H6.out.Am pC ?_
  |(go_at_call 178;refine(e9.out _).mono ?_;rintro e w7 ⟨rfl,aw⟩))
 have H7:=Hq (H6.out.step aw);have bu:=Hq (Ae db.out aw);have ax:=Hq (Ae br.out aw);have dd:=Hq (dc.out.below aw);have hf:=show w7.cell? ⟨g2,4,none⟩=some (.int .i64 f.rc)from by rw[Aa ax.out];rfl
 clear er aw H6 db br dc e9;go_upto_if 68 with fail
 go_cut [9] (fun x wc=>x= .int .i64 0∧∃ (y:Lg.Lo) (d:Int),D6 w.heap.size w [((Aj s p),36),(#[(),(),t,.int .i64 2,.int .i64 (pg:Int),(),(),o.kind,o.slot,o.Cs,o.new,.int .i64 1,(),"",(),(),'s','s'],88),(#[(),(),(),'s',(),false,(),(),(),(),"",'s',(),'s',()],36)] wc∧wc.heap[g]? =some (.cells (Aj {s' with log:=y} q) 36 (0,0))∧wc.heap[g2]? =some (.cells (Er {f with rc:=d}) 116 (0,0))∧Ao wc {s' with log:=y} q j∧PI N n {s' with log:=y} j C∧Rc.num d∧d≠0∧s'.log.end_≤y.end_∧y.end_≤s'.log.end_+1262)
 case first=>
  by_cases bw:f.rc=0
  ·have hh:(f.rc==0)=true:=by rw[bw];rfl
   have de:=an.out.num;have hj:=A.out.en;obtain⟨y,et,eu,ew,ey⟩:=an.out.log (⟨0,0,0,8,(pg:Int),0,0,⟨7,0,⟨#[]⟩,C pg⟩,0,0,Rc.Cm,[],[]⟩:Rc.Rec) (Ui de.1 (by have:=an.out.n1;show 0≤(pg:Int)∧(pg:Int)<60;omega) (by rw[(an.out.nm pg ct).size];omega)) (by show(8:Int)≠9;decide) (by have:=aq.out;omega);have E:=Hq (fun W=>show Cq 179 #[Ag s' q,.agg #[(),(),(),.int .i64 8,.int .i64 (pg:Int),(),(),.int .i64 7,(),"",.string (C pg),(),(),"",(),(),'s','s']] W _ from P9 s' q an.out.qH (⟨0,0,0,8,(pg:Int),0,0,⟨7,0,⟨#[]⟩,C pg⟩,0,0,Rc.Cm,[],[]⟩:Rc.Rec) rfl rfl W);rw[et]at E;have hl:=Hq eu;have df:=Hq de;have hn:=Hq (And.intro (Int.le_of_lt ew) ey);have hr:=show w7.cell? ⟨(w.heap.size+1),4,none⟩=some (.int .i64 (pg:Int))from(by rw[Aa H7.out.Am];rfl);have er:=show w7.cell? ⟨g2,1,none⟩=some (.string (C pg))from(by rw[Aa ax.out,← bo.out.2.2.1];rfl);clear bw de hj et eu ew ey;generalize s'.log.end_+1=d at E df
   go_wp2_with(first
    |with_reducible refine lL bu.out Ar ?_
    |(go_at_call 179;refine(E.out _).mono ?_;rintro e w8 ⟨rfl,bx⟩;have H8:=Hq (H7.out.step bx);have a7:=Hq (Ae bu.out bx);have bz:=Hq (Ae ax.out bx);have ay:=Hq (dd.out.below bx);have I:=Hq ((Ah w8 g (Aj {s' with log:=y} q) g2 (by omega)).trans bz.out);have iq:=show(w8.setRow g (Aj {s' with log:=y} q)).cell? ⟨g2,4,none⟩=some (.int .i64 f.rc)from(by rw[Aa I.out];rfl);have ir:=Ap I.out 4)
    |with_reducible refine lS (Aj {s' with log:=y} q) a7.out ?_)
   have hs:=E7 (g:=g) (Nat.le_refl g) (show Below g w8 w8 from⟨rfl,rfl,rfl,Nat.le_refl _,fun _ _=>rfl⟩) (Aj {s' with log:=y} q);have H9:=Hq (H8.out.under (M:=g) (by simp;omega) hs);have ao:=Hq (setRow_heap _ _ _ (Aj {s' with log:=y} q) _ _ a7.out);have az:=Hq (show Ao (w8.setRow g (Aj {s' with log:=y} q)) {s' with log:=y} q j from by have G:=ay.out.other (t:=36) a7.out (by decide) (by decide) (by decide) (Aj {s' with log:=y} q);exact⟨⟨G.st.dk,G.st.dt,G.st.tx,G.st.tt⟩,G.fn,G.fr,G.ft⟩);go_meet
   case rel=>exact⟨rfl,y,d,H9.out.under (M:=g2) (by simp;omega) ((Below.refl _ _).setCell (p:=⟨g2,4,none⟩) (Nat.le_refl _) _),(by rw[Below.heap_setCell _ _ _ _ (by show g≠g2;omega)];exact ao.out),(by have:=Cb 4 I.out (.int .i64 d);simpa using this),az.out.own I.out (fun ad e=>by have:=bp.out ad e;omega) 4 _,hl.out,df.out.1,df.out.2.1,hn.out⟩
  ·have hh:(f.rc==0)=false:=beq_eq_false_iff_ne.2 bw
   go_wp2_with fail;go_meet
   case rel=>exact⟨rfl,s'.log,f.rc,H7.out,bu.out,ax.out,dd.out,an.out,bo.out.2.2.2.2,bw,Int.le_refl _,by omega⟩
 case rest=>
  obtain⟨rfl,y,d,h8,ez,fa,fe,ff,fg,fh,c8,ca⟩:=hcut;obtain⟨w8,rfl⟩:=ex wc;have H8:=Hq h8;have a7:=Hq ez;have bz:=Hq fa;have ay:=Hq fe;have dh:=Hq ff;have fi:=Hq (And.intro fg fh);have di:=Hq (And.intro c8 ca);have b0:i<s'.txns.length:=by rw[A.out.tx];exact hi
  have iu:(i:Int)<(s'.txns.length:Int):=by omega
  have ik:(0:Int)≤(i:Int):=by omega
  clear h8 ez fa fe ff fg fh c8 ca H7 bu ax dd hf;obtain⟨tb,fj,fk,ht,fl,aa⟩:=Bu Dw ay.out.st.tx b0;obtain⟨tv,c6⟩:=ex (s'.txns[i]);have iv:=Hq c6;have fm:=aa 1 (.int .i64 tv.last) (by rw[c6];rfl);have H:=show w8.cell? ⟨g,13,none⟩=some (.slice (some ⟨tb,fj,none⟩) s'.txns.length q.tc)from(by rw[Aa a7.out,← fk];rfl);have dj:=show w8.cell? ⟨(w.heap.size+1),1,none⟩=some (.int .i64 0)from(by rw[Aa H8.out.Am];rfl);have dm:=Ap H8.out.Am 1;have fo:Rc.num tv.last:=by
   have hm:tv∈s'.txns:=(by rw[c6];exact List.getElem_mem b0);rw[A.out.tx]at hm;exact(h0.out _ hm).2.1
  have fp:=Hq fo;clear aa ht fl fk fo c6;generalize tv.last=pv at fm fp;go_upto_region 18 with fail;have H9:=Hq (show D6 w.heap.size w [((Aj s p),36),(#[(),pv,t,.int .i64 2,.int .i64 (pg:Int),(),(),o.kind,o.slot,o.Cs,o.new,.int .i64 1,(),"",(),(),'s','s'],88),(#[(),(),(),'s',(),false,(),(),(),(),"",'s',(),'s',()],36)] (w8.setCell ⟨(w.heap.size+1),1,none⟩ (.int .i64 pv))from H8.out.set 1 1 (.int .i64 pv) _ rfl);have ao:=Hq (show(w8.setCell ⟨(w.heap.size+1),1,none⟩ (.int .i64 pv)).heap[g]? =some (.cells (Aj {s' with log:=y} q) 36 (0,0))from by rw[Below.heap_setCell _ _ _ _ (by show g≠(w.heap.size+1);omega)];exact a7.out);have I:=Hq (show(w8.setCell ⟨(w.heap.size+1),1,none⟩ (.int .i64 pv)).heap[g2]? =some (.cells (Er {f with rc:=d}) 116 (0,0))from by rw[Below.heap_setCell _ _ _ _ (by show g2≠(w.heap.size+1);omega)];exact bz.out);have az:=Hq (ay.out.set H8.out.Am (by decide) (by decide) (by decide) 1 (.int .i64 pv));generalize w8.setCell ⟨(w.heap.size+1),1,none⟩ (.int .i64 pv)=w9 at H9 ao I az ⊢;clear H dj dm fm H8 a7 bz ay;have dn:=dh.out.num;obtain⟨m,fq,D,fu,fv⟩:=dh.out.log (⟨0,pv,t,2,(pg:Int),0,0,o,1,0,Rc.Cm,[],[]⟩:Rc.Rec) (HR.out _ _ dn.1 fp.out) (by show(2:Int)≠9;decide) (by have:=aq.out;have:=di.out;have:=A.out.en;show y.end_+1262≤(N:Int)*128;omega);have E:=Hq (fun W=>show Cq 179 #[Ag {s' with log:=y} q,.agg #[(),pv,t,.int .i64 2,.int .i64 (pg:Int),(),(),o.kind,o.slot,o.Cs,o.new,.int .i64 1,(),"",(),(),'s','s']] W _ from P9 {s' with log:=y} q dh.out.qH (⟨0,pv,t,2,(pg:Int),0,0,o,1,0,Rc.Cm,[],[]⟩:Rc.Rec) rfl rfl W);rw[fq]at E;have fw:=Hq D;have fx:=Hq (show s.log.end_≤m.end_∧m.end_≤s.log.end_+2524 from by have:=di.out;have:=A.out.en;simp only at fu fv;omega);have dp:=Hq (show Rc.num (y.end_+1)from dn.1);clear dn fq D fu fv di aq HR;dsimp only at E;generalize y.end_+1=lsn at E dp
  go_upto_region 21 with(first
   |with_reducible refine lL ao.out Ar ?_
   |with_reducible refine lL H9.out.Am Da ?_
   |(go_at_call 179;refine(E.out _).mono ?_;rintro e b1 ⟨rfl,J⟩;have fy:=Hq (H9.out.step J);have ae:=Hq (Ae ao.out J);have cb:=Hq (Ae I.out J);have cc:=Hq (az.out.below J);clear J)
   |with_reducible refine lS (Aj {s' with log:=m} q) ae.out ?_)
  have dq:=Hq (fy.out.under (M:=g) (by simp;omega) (E7 (g:=g) (Nat.le_refl g) (show Below g b1 b1 from⟨rfl,rfl,rfl,Nat.le_refl _,fun _ _=>rfl⟩) (Aj {s' with log:=m} q)));have b2:=Hq (setRow_heap _ _ _ (Aj {s' with log:=m} q) _ _ ae.out);have b3:=Hq ((Ah b1 g (Aj {s' with log:=m} q) g2 (by omega)).trans cb.out);have b4:=Hq (show Ao (b1.setRow g (Aj {s' with log:=m} q)) {s' with log:=m} q j from by have G:=cc.out.other (t:=36) ae.out (by decide) (by decide) (by decide) (Aj {s' with log:=m} q);exact⟨⟨G.st.dk,G.st.dt,G.st.tx,G.st.tt⟩,G.fn,G.fr,G.ft⟩);generalize b1.setRow g (Aj {s' with log:=m} q)=w11 at dq b2 b3 b4 ⊢;clear H9 ao I az fy ae cb cc E
  try simp only[Act.put]
  have fz:=Ux HB.out dp.out;have ga:=Hq fz.1;have dr:=Hq (fun W=>Ge b lsn (by have:=HB.out.size;omega) W);have gb:=Hq (show ∃ z,z=Bg b lsn from⟨_,rfl⟩);clear fz;obtain⟨z,hz⟩:=gb.out;rw[← hz]at ga dr;have HZ:=Hq hz;clear hz gb
  go_upto_region 22 with(go_at_call 20;refine(dr.out _).mono ?_;rintro e O ⟨rfl,P⟩;have gd:=Hq (dq.out.step P);have cd:=Hq (Ae b2.out P);have R:=Hq (Ae b3.out P);have cf:=Hq (b4.out.below P);have U:=Hq (Cb 1 R.out (.string z));have dj:=show O.cell? ⟨g2,1,none⟩=some (.string f.bytes)from(by rw[Aa R.out];rfl);have dm:=Ap R.out 1;have hv:=show(O.setCell ⟨g2,1,none⟩ (.string z)).cell? ⟨g2,3,none⟩=some (.bool f.mark)from(by rw[Aa U.out];rfl);have hx:=Ap U.out 3)
  have b5:=Hq (show((O.setCell ⟨g2,1,none⟩ (.string z)).setCell ⟨g2,3,none⟩ (.bool true)).heap[g2]? =some (.cells (Er ⟨f.Ac,z,f.pins,true,d⟩) 116 (0,0))from by have:=Cb 3 U.out (.bool true);simpa using this);have b6:Below g2 O ((O.setCell ⟨g2,1,none⟩ (.string z)).setCell ⟨g2,3,none⟩ (.bool true)):=((show Below g2 O O from⟨rfl,rfl,rfl,Nat.le_refl _,fun _ _=>rfl⟩).setCell (p:=⟨g2,1,none⟩) (Nat.le_refl _) (.string z)).setCell (p:=⟨g2,3,none⟩) (Nat.le_refl _) (.bool true);have ds:=Hq (gd.out.under (M:=g2) (by simp;omega) b6);have af:=Hq ((b6.block g (by omega)).trans cd.out);have b7:=Hq (((cf.out.own R.out (fun ad e=>by have:=bp.out ad e;omega) 1 (.string z))).own U.out (fun ad e=>by have:=bp.out ad e;omega) 3 (.bool true));generalize (O.setCell ⟨g2,1,none⟩ (.string z)).setCell ⟨g2,3,none⟩ (.bool true)=w14 at ds af b5 b7 ⊢;clear dq b2 b3 b4 gd cd R cf U dj dm hv hx P b6 dr;have gf:=Hq (fun W hp=>Mj {s' with log:=m} q j h9 k ak ⟨f.Ac,z,f.pins,true,d⟩ W hp)
  go_upto_region 23 with(first
   |with_reducible refine lL af.out Ar ?_
   |with_reducible refine lL b5.out Fw ?_
   |(go_at_call 146;refine(gf.out _ b7.out).mono ?_;rintro e du ⟨X,rfl,cg,b8⟩;have gg:=Hq (ds.out.step b8);have ag:=Hq (Ae af.out b8))
   |with_reducible refine lS (Aj {s' with log:=m} X) ag.out ?_)
  have dv:=Hq (gg.out.under (M:=g) (by simp;omega) (E7 (g:=g) (Nat.le_refl g) (show Below g du du from⟨rfl,rfl,rfl,Nat.le_refl _,fun _ _=>rfl⟩) (Aj {s' with log:=m} X)));have Y:=Hq (setRow_heap _ _ _ (Aj {s' with log:=m} X) _ _ ag.out);have B:=Hq (cg.other (t:=36) ag.out (by decide) (by decide) (by decide) (Aj {s' with log:=m} X));generalize du.setRow g (Aj {s' with log:=m} X)=w16 at dv Y B ⊢;clear ds af b5 b7 gg ag cg b8 gf
  try simp only[Act.put]
  have H:=show w16.cell? ⟨g,13,none⟩=some (.slice X.T s'.txns.length X.tc)from(by rw[Aa Y.out];rfl);have iw:s'.txns.length≤800000:=by rw[A.out.tx];exact gx
  have dw:=Hq (And.intro B.out.st.dt.lt B.out.ft.lt);have gh:=Hq (R6 s'.txns (by omega) X.T X.tc w16 B.out.st.tx)
  go_upto_region 24 with(go_at_call 180;(refine gh.out.mono ?_);rintro e b9 ⟨v,rfl,ho,ah⟩;obtain⟨g4,c4,rfl,dx⟩:=Ji ho (by omega);have gi:=Hq (dv.out.step ah);have Z:=Hq (Ae Y.out ah);have gj:=show b9.cell? ⟨g,13,none⟩=some (.slice X.T s'.txns.length X.tc)from(by rw[Aa Z.out];rfl);have gk:=Ap Z.out 13)
  have ai:g<w16.heap.size:=By Y.out;have ix:g<g4:=by omega
  have gl:=Hq (gi.out.under (M:=g) (by simp;omega) ((show Below g b9 b9 from⟨rfl,rfl,rfl,Nat.le_refl _,fun _ _=>rfl⟩).setCell (p:=⟨g,13,none⟩) (Nat.le_refl _) (.slice (some ⟨g4,0,none⟩) s'.txns.length c4)));have ba:=Hq (show(b9.setCell ⟨g,13,none⟩ (.slice (some ⟨g4,0,none⟩) s'.txns.length c4)).heap[g]? =some (.cells (Aj {s' with log:=m} {X with T:=some ⟨g4,0,none⟩,tc:=c4}) 36 (0,0))from by have:=Cb 13 Z.out (.slice (some ⟨g4,0,none⟩) s'.txns.length c4);simpa using this);have bb:=Hq (Jm ho ⟨g,13,none⟩ (.slice (some ⟨g4,0,none⟩) s'.txns.length c4) ai);have cj:=Hq (B.out.below ah);have ck:=Hq (cj.out.set Z.out (by decide) (by decide) (by decide) 13 (.slice (some ⟨g4,0,none⟩) s'.txns.length c4));generalize b9.setCell ⟨g,13,none⟩ (.slice (some ⟨g4,0,none⟩) s'.txns.length c4)=a1 at gl ba bb ck ⊢;clear H gj gk dv Y B gi Z cj gh ho ah;generalize w16.heap.size=M at bb dx ai dw
  try simp only[Act.put]
  obtain⟨y1,dy⟩:=ex ({s'.txns[i]with last:=lsn}:Rc.A9);obtain⟨y2,dz⟩:=ex ({y1 with next:=lsn}:Rc.A9);have gm:i<(s'.txns.set i y1).length:=by rw[List.length_set];exact b0
  have cm:Fz y2=(Fz (s'.txns.set i y1)[i]).set 2 (.int .i64 lsn):=by rw[List.getElem_set_self,dz];rfl
  have cn:Fz y1=(Fz s'.txns[i]).set 1 (.int .i64 lsn):=by rw[dy];rfl
  have ia:=Hq (show(s'.txns.set i y1).set i y2=s'.txns.set i {s'.txns[i]with last:=lsn,next:=lsn}from by rw[List.set_set,dz,dy]);clear dy dz
  go_cut [128] (fun x wc=>∃ ts,ts=(s'.txns.set i y1).set i y2∧wc.ownsRow M 134 4 (.slice (some ⟨g4,0,none⟩) s'.txns.length c4) s'.txns.length (ts.flatMap Fz)∧Below M a1 wc)
  case first=>
   have hQ:Below M a1 a1.drew:=(show Below M a1 a1 from⟨rfl,rfl,rfl,Nat.le_refl _,fun _ _=>rfl⟩).drew;have hO:=Db bb.out (Below.refl _ a1).drew;have e0:=Hq (fun(u:World) (hu:Below M a1 u)=>show u.cell? ⟨g,13,none⟩=some (.slice (some ⟨g4,0,none⟩) s'.txns.length c4)from by rw[hu.cell (p:=⟨g,13,none⟩) ai,Aa ba.out];rfl);have hSn:=e0.out _ hQ;refine Gd (S:=(fun u=>u.cell? ⟨g,13,none⟩=some (.slice (some ⟨g4,0,none⟩) s'.txns.length c4))) (fun a8=>?_);generalize a1.drew=w8 at hSn hO hQ ⊢;refine Au 0 ?_ (hy:=by
    intro u c;have r:=c;clear c;go_simp;(try with_reducible rfl))
   refine Au 1 ?_ (hy:=by
    intro u c;have r:=c;clear c;go_simp;(try with_reducible rfl))
   refine Au 2 ?_ (hy:=by
    intro u c;have r:=c;clear c;go_simp;(try with_reducible rfl))
   refine Au 3 ?_ (hy:=by
    intro u c;have r:=c;clear c;go_simp;(try with_reducible rfl))
   refine Au 4 ?_ (hy:=by
    intro u c;have r:=c;clear c;go_simp;(try with_reducible rfl))
   refine Au 5 ?_ (hy:=by
    intro u c;have r:=c;clear c;go_simp;(try with_reducible rfl))
   refine Au 6 ?_ (hy:=by
    intro u c;have r:=c;clear c;go_simp;(try with_reducible rfl))
   refine Au 7 ?_ (hy:=by
    intro u c;have r:=c;clear c;go_simp;(try with_reducible rfl))
   refine Au 8 ?_ (hy:=by
    intro u c;have r:=c;clear c;go_simp;(try with_reducible rfl))
   refine Au 9 ?_ (hy:=by
    intro u c;have r:=c;clear c;go_simp;(try with_reducible rfl))
   refine Ch 10 fun K hK=>?_;obtain⟨e1,e2,bc⟩:=Ff hO rfl i b0 1 (by omega) (.int .i64 lsn) y1 cn;have bd:=hQ.setCell (p:=⟨g4,i*4+1,none⟩) dx (.int .i64 lsn)
   go_simp
   clear hSn hO hQ e1 e2;have hQ:=bd;have hO:=bc;clear bd bc;generalize w8.setCell ⟨g4,i*4+1,none⟩ (.int .i64 lsn)=w3 at hQ hO ⊢;have hSn:=e0.out _ hQ;refine Bq hK (fun a8=>?_);clear hK K;refine Au 11 ?_ (hy:=by
    intro u c;have r:=c;clear c;go_simp;(try with_reducible rfl))
   refine Au 12 ?_ (hy:=by
    intro u c;have r:=c;clear c;go_simp;(try with_reducible rfl))
   refine Ch 13 fun K hK=>?_;obtain⟨e1,e2,bc⟩:=Ff hO (by rw[List.length_set]) i gm 2 (by omega) (.int .i64 lsn) y2 cm;have bd:=hQ.setCell (p:=⟨g4,i*4+2,none⟩) dx (.int .i64 lsn)
   go_simp
   clear hSn hO hQ e1 e2;have hQ:=bd;have hO:=bc;clear bd bc;generalize w3.setCell ⟨g4,i*4+2,none⟩ (.int .i64 lsn)=w4 at hQ hO ⊢;have hSn:=e0.out _ hQ;refine Bq hK (fun a8=>?_);clear hK K;refine wpAnyH_done Kr ?_ _;clear a8;go_wp2_with fail;go_meet
   case rel=>exact⟨_,rfl,hO,hQ⟩
  case rest=>
   obtain⟨ts,bf,cp,aj⟩:=hcut;obtain⟨ib,rfl⟩:=ex wc;have gn:=Hq bf;have cq:ts.length=s'.txns.length:=(by rw[bf,List.length_set,List.length_set]);have gp:=Hq cq;have bg:=Hq (gl.out.under (M:=M) (by simp;omega) aj);have gq:=Hq ((aj.block g ai).trans ba.out);have gr:=Hq cp;have gu:=Hq aj;have hr:=show ib.cell? ⟨(w.heap.size+1),3,none⟩=some (.int .i64 2)from(by rw[Aa bg.out.Am];rfl);clear bf cq cp aj cn cm gm
   go_wp2_with(first
    |with_reducible refine lL gq.out Ar ?_
    |with_reducible refine lS (Aj {s' with log:=m} {X with T:=some ⟨g4,0,none⟩,tc:=c4}) bg.out.Cj ?_)
   refine rT2 () bg.out.Cj Ar ?_;have ic:∀ L (e:L=s.txns) (h:i<L.length),L.set i {L[i]with last:=lsn,next:=lsn}=s.txns.set i {s.txns[i]with last:=lsn,next:=lsn}:=fun L e h=>by subst e;rfl
   have ie:(Value.agg (Aj {s' with log:=m} {X with T:=some ⟨g4,0,none⟩,tc:=c4}))=Ag {s' with log:=m,txns:=ts} {X with T:=some ⟨g4,0,none⟩,tc:=c4}:=(by dsimp only[Ag,Aj];rw[gp.out]);have e3:=gr.out;rw[← gp.out]at e3;have gv:=ck.out.upto dw.out.1 dw.out.2 gu.out (Dr e3) ((Cp.own e3).mono (Nat.zero_le _));have bh:=gv.other (t:=36) bg.out.Cj (by decide) (by decide) (by decide) (Aj {s' with log:=m} {X with T:=some ⟨g4,0,none⟩,tc:=c4});have ig:=(bg.out.row 2 (Aj {s' with log:=m} {X with T:=some ⟨g4,0,none⟩,tc:=c4}) _ rfl).below;rw[ie];have gw:=hd.out;have bj:=bo.out;rw[gw]at bj;have cr:=fw.out.change (s':={s' with log:=m,txns:=ts}) ak ct bj.1 bj.2.1 ga.out fi.out.1 fi.out.2 rfl rfl rfl rfl fw.out.pw;have ih:(⟨f.Ac,z,f.pins,true,d⟩:Fr)=⟨(pg:Int),z,0,true,d⟩:=(by rw[gw,bj.2.1,bj.2.2.2.1]);rw[ih]at bh;rw[HZ.out]at bh cr;exact HQ.out _ _ _ lsn _ bh cr ⟨⟨i,hi,h6.out,gn.out.trans (ia.out.trans (ic _ A.out.tx b0))⟩,dp.out,A.out.nx,A.out.zf,by rw[List.length_set];exact A.out.ln,fx.out.1,fx.out.2⟩ ig
end Go.Proofs.YtmldoihahndcgaaGreatDoor
