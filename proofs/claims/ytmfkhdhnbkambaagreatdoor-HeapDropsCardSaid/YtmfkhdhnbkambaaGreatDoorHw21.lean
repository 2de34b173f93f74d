import Derived.Test.YtmfkhdhnbkambaaGreatDoorHw00
import Derived.Test.YtmfkhdhnbkambaaGreatDoorHw10
import Derived.Test.YtmfkhdhnbkambaaGreatDoorHw16
set_option maxRecDepth 100000
set_option maxHeartbeats 16000000
set_option linter.unusedSimpArgs false
namespace Go.Proofs.YtmfkhdhnbkambaaGreatDoor
open Go.RowKit Sc
structure wC (s s':Tx.St) (fs fs':List Fr) (t l:Int):Prop where
 ti:∃ (i:Nat) (h:i<s.txns.length),s.txns[i].txn=t∧s'.txns=s.txns.set i {s.txns[i]with last:=l,next:=l}
 lr:Rc.num l
 nx:s'.next=s.next
 zf:s'.zframes=s.zframes
 ln:fs'.length=fs.length
 e0:s.log.end_≤s'.log.end_
 en:s'.log.end_≤s.log.end_+1634
theorem Tr {w w':World}{A:Option Addr}{c n M:Nat}{vs:List Value}(h:Reads w A c n vs)(g:∀ ad,A=some ad→ad.block<M)(f:Below M w w'):Reads w' A c n vs:=fun i=>by
 obtain⟨b,off,e,k,d,a⟩:=h i;exact⟨b,off,e,k,Nat.lt_of_lt_of_le d f.size,fun j v l=>by rw[f.cell (p:=⟨b,off+j,none⟩) (show b<M from g ⟨b,off,none⟩ e)];exact a j v l⟩
theorem De.lt {n:Nat}{w:World}{T:TypeId}{A:Option Addr}(h:De n w T A):∀ ad,A=some ad→ad.block<w.heap.size:=fun ad e=>by
 obtain⟨_,cs,b,a⟩:=h ad e;exact Bt a
theorem Am.upto {w w':World}{s:Tx.St}{p:SP}{fs:List Fr}(h:Am w s p fs){M:Nat}(c:∀ ad,p.A=some ad→ad.block<M)(d:∀ ad,p.F=some ad→ad.block<M)(a:Below M w w'){f:List Rc.Be}{T:Option Addr}{tc:Nat}(g:Xx w' T tc f)(b:De 0 w' 59 T):
 Am w' {s with txns:=f} {p with T:=T,tc:=tc} fs:=
 ⟨⟨⟨Tr h.st.dk.secs c a,h.st.dk.small⟩,fun ad e=>⟨(h.st.dt ad e).1,by rw[a.block _ (c ad e)];exact(h.st.dt ad e).2⟩,g,b⟩,h.fn,Tr h.fr d a,fun ad e=>⟨(h.ft ad e).1,by rw[a.block _ (d ad e)];exact(h.ft ad e).2⟩⟩
def Pf (N n:Nat)(C:Nat→ByteArray)(s:Tx.St)(fs:List Fr)(t:Int)(pg:Nat)(b:ByteArray)(w:World)(e:Ending)(w':World):Prop:=
 ∃ (s':Tx.St) (q:SP) (fs':List Fr) (l:Int),e= .returned (.tuple #[Ah s' q,()])∧Am w' s' q fs'∧PI N n s' fs' (fun x=>if x=pg then Bl b l else C x)∧wC s s' fs fs' t l∧Bw w w'
theorem aJ (a:Rc.Be)(t:Int)(b:Nat)(w:World)(d:w.cell? ⟨b,2,none⟩=some (.int .i64 t)):Cq 77 #[.agg (mS a),.pointer (some ⟨b,0,none⟩)] w (Mr (a.txn=t) w):=by
 have k:=Hq d;have g:b<w.heap.size:=by
  rcases Nat.lt_or_ge b w.heap.size with h|h
  ·exact h
  ·rw[World.cell?,Array.getElem?_eq_none h]at d
   cases d
 have i:=show(w.alloc (.cells (mS a) 59)).cell? ⟨b,2,none⟩=some (.int .i64 t)from by rw[(Ac w (.cells (mS a) 59)).cell (p:=⟨b,2,none⟩) g];exact d
 have j:=show(w.alloc (.cells (mS a) 59)).cell? ⟨w.heap.size,0,none⟩=some (.int .i64 a.txn)from by rw[Aa (heap_alloc_new w (.cells (mS a) 59))];rfl
 clear d
 by_cases c:a.txn=t
 ·have e:=Hq (fun w' f=>Xh (p:=a.txn=t) (w:=w) (w':=w') c f)
  generalize Mr (a.txn=t) w=Q at e ⊢;have f:(a.txn==t)=true:=by rw[c];exact beq_self_eq_true _
  clear c;go_enter Tryz.func77,Tryz.ntmps77;go_wp2_with fail;exact e.out _ (Ac _ _)
 ·have e:=Hq (fun w' f=>Xi (p:=a.txn=t) (w:=w) (w':=w') c f)
  generalize Mr (a.txn=t) w=Q at e ⊢;have f:(a.txn==t)=false:=beq_eq_false_iff_ne.2 c;clear c;go_enter Tryz.func77,Tryz.ntmps77;go_wp2_with fail;exact e.out _ (Ac _ _)
theorem Qw {N n:Nat}(s:Tx.St)(p:SP)(fs:List Fr)(C:Nat→ByteArray)(hI:PI N n s fs C)(t:Int)(pg:Nat)(cq:pg<n)(o:Rc.Op)(b:ByteArray)(hex:∃ a∈s.txns,a.txn=t)(e2:∀ a∈s.txns,Rc.Ji a)(gu:s.txns.length≤800000)
 (hR:∀ l v,Rc.num l→Rc.num v→Rc.Bu (⟨l,v,t,2,(pg:Int),0,0,o,1,0,Rc.Ce,[],[]⟩:Rc.Rec)) (hb:Lu b) (c1:s.log.end_+1634≤(N:Int)*128) (w:World) (e3:∀ W,Bw w W→Cr 78 #[.string (C pg),.agg #[o.kind,o.slot,o.By,o.new]] W (Kn (b,0))) (h:Am w s p fs):
 Cq 34 #[Ah s p,.agg #[(),(),t,.int .i64 2,.int .i64 (pg:Int),(),(),o.kind,o.slot,o.By,o.new,.int .i64 1,(),"",(),(),"s","s"]] w (Pf N n C s fs t pg b w):=by
 have gv:=hI.nf;have cr:=Hq (fun W=>aD s p n hI.zp (pg:Int) W);rw[decide_eq_true (show 0≤(pg:Int)∧(pg:Int)<(n:Int)from by omega)]at cr;have e4:=Hq (fun(g:Nat) W (hb:Bw w W) (hg:W.cell? ⟨g,2,none⟩=some (.int .i64 t)) (gw:g<W.heap.size)=>dN (fun a=>a.txn=t) 77 #[.pointer (some ⟨g,0,none⟩)] (enters_of Tryz.func77 Kr rfl) s.txns (by omega) p.T p.tc W (h.st.tx.below hb) (fun a _ V hV=>aJ a t g V (by rw[hV.cell (p:=⟨g,2,none⟩) gw];exact hg)));have e5:=Hq (fun W (hb:Bw w W)=>Vo s p fs C hI pg cq W (h.below hb));have e6:=Hq hex;have gx:=Hq e2;have HR:=Hq hR;have e7:=Hq e3;have HB:=Hq hb;have ao:=Hq c1;have HQ:=Hq (fun(s':Tx.St) (q:SP) (j:List Fr) (l:Int) w' G h2 h3 h4=>show Pf N n C s fs t pg b w (.returned (.tuple #[Ah s' q,()])) w' from⟨s',q,j,l,rfl,G,h2,h3,h4⟩);generalize Pf N n C s fs t pg b w=Q at HQ ⊢;clear h hI hex e2 hR e3 hb c1 gv;go_enter Tryz.func34,Tryz.ntmps34;go_upto_region 1 with fail;have H0:=Ol w (Ak s p) 36 #[(),(),t,.int .i64 2,.int .i64 (pg:Int),(),(),o.kind,o.slot,o.By,o.new,.int .i64 1,(),"",(),(),"s","s"] 49 #[(),(),(),"s",(),false,(),(),(),(),"","s",(),"s",()] 36;obtain⟨W0,e8⟩:=E0 H0;rw[← e8]at H0 ⊢;clear e8;have gy:=show W0.cell? ⟨(w.heap.size+1),3,none⟩=some (.int .i64 2)from by rw[Aa H0.out.Aq];rfl
 have ct:=show W0.cell? ⟨(w.heap.size+1),4,none⟩=some (.int .i64 (pg:Int))from by rw[Aa H0.out.Aq];rfl
 go_upto_region 3 with(first|with_reducible refine lL H0.out.Ao Ar ?_|(go_at_call 75;refine(cr.out _).mono ?_;rintro e w1 ⟨rfl,e9⟩;have H1:=Hq (H0.out.step e9)))
 have H:=show w1.cell? ⟨w.heap.size,13,none⟩=some (.slice p.T s.txns.length p.tc)from by rw[Aa H1.out.Ao];rfl
 have ea:=Hq (e4.out (w.heap.size+1) w1 H1.out.below (by rw[Aa H1.out.Aq];rfl) (H1.out.lt (i:=1) (by simp)));clear gy ct e9 cr H0 e4
 go_upto_region 4 with(go_at_call 76;(refine ea.out.mono ?_);rintro e w2 ⟨kk,rfl,hq,eb⟩;have H2:=Hq (H1.out.step eb);clear eb H1 ea H;rcases hq with⟨rfl,hq⟩|⟨i,hi,rfl,ec,_⟩)
 ·exact absurd e6.out (fun⟨a,ha,e⟩=>hq a ha e)
 have ih:¬ (i:Int)<0:=by omega
 have gz:=Hq ec;have ct:=show w2.cell? ⟨(w.heap.size+1),4,none⟩=some (.int .i64 (pg:Int))from by rw[Aa H2.out.Aq];rfl
 clear ec e6
 go_upto_region 9 with(first
  |with_reducible refine lL H2.out.Ao Ar ?_
  |(go_at_call 44;refine(e5.out _ H2.out.below).mono ?_;rintro e w4 ⟨s',q,j,k,rfl,ed,D,ee,⟨ak,bj,bk⟩,bl⟩)
  |with_reducible refine sN (Ak s' q) ?_)
 have ef:=bl.trans ((Ac w4 (.cells (Ak s' q) 36)).mono bl.size);have H5:=Hq (H2.out.step ef);have aq:=Hq (heap_alloc_new w4 (.cells (Ak s' q) 36));have ar:=Hq (ed.below (Ac w4 (.cells (Ak s' q) 36)));have h0:(w.heap.size+2)<w4.heap.size:=Nat.lt_of_lt_of_le (H2.out.lt (i:=2) (by simp)) bl.size;obtain⟨g,hg⟩:=ex w4.heap.size;obtain⟨w5,bm⟩:=ex (w4.alloc (.cells (Ak s' q) 36));rw[← hg,← bm]at aq;rw[← bm]at H5 ar;rw[← bm,← hg];rw[← hg]at h0;have al:=Hq D;have A:=Hq ee;have cu:=(D.bytes ak bj bk).2;have cv:=D.fr.pin k ak;have cw:=D.fr.rc k ak;have h5:j.length≤100:=by have:=D.nf;omega
 clear bm hg bl ef ed H2 e5 ct D ee
 try simp only[Act.put]
 have ie:(0:Int)≤(k:Int):=by omega
 have ij:(k:Int)<(j.length:Int):=by omega
 obtain⟨fb,au,cx,h6,eg,a6⟩:=Bz Eb ar.out.fr ak;obtain⟨f,cy⟩:=ex (j[k]);have h7:=Hq cy;rw[← cy]at a6 bj bk cu cv cw;have eh:=Hq (show w5.rangeAt fb (au+k*5) (Kw f)from a6);have ei:=show w5.cell? ⟨g,11,none⟩=some (.slice (some ⟨fb,au,none⟩) j.length q.fc)from by rw[Aa aq.out,← cx,← ar.out.fn];rfl
 have bn:=Hq (show Full f∧f.Ad=(pg:Int)∧f.bytes=C pg∧f.pins=0∧Rc.num f.rc from⟨bj,bk,cu,cv,cw⟩);have ej:∀ ad,q.F=some ad→ad.block<w5.heap.size:=fun ad e=>by rw[cx]at e;injection e with e;subst e;exact eg
 have bo:=Hq ej;clear a6 h6 eg cx cy bj bk cu cv cw ej
 go_upto_region 10 with(first
  |(refine Da Kr fun K hK=>wp_load_mid 108 (.tmp 52) rfl fb (au+k*5) rfl (Kw f) _ eh.out Gy Kr Kr (hK _ _ ?_))
  |with_reducible refine sN (Fs f) ?_)
 have bp:=Ac w5 (.cells (Fs f) 108);have H6:=Hq (H5.out.step bp);have bq:=Hq (heap_alloc_new w5 (.cells (Fs f) 108));have cz:=Hq (Af aq.out bp);have da:=Hq (ar.out.below bp);have ek:g<w5.heap.size:=Bt aq.out;obtain⟨g2,br⟩:=ex w5.heap.size;obtain⟨w6,bs⟩:=ex (w5.alloc (.cells (Fs f) 108));rw[← br,← bs]at bq;rw[← bs]at H6 cz da;rw[← bs,← br];rw[← br]at ek bo;clear bs br bp H5 aq ar eh ei
 try simp only[Act.put]
 have eo:=show w6.cell? ⟨g2,1,none⟩=some (.string (C pg))from by rw[Aa bq.out,← bn.out.2.2.1];rfl
 go_upto_region 13 with(first
  |with_reducible refine lP #[o.kind,o.slot,o.By,o.new] H6.out.Aq oE ?_
  |(go_at_call 78;refine(e7.out _ H6.out.below).mono ?_;rintro e w7 ⟨rfl,av⟩))
 have H7:=Hq (H6.out.step av);have bt:=Hq (Af cz.out av);have aw:=Hq (Af bq.out av);have db:=Hq (da.out.below av);have h9:=show w7.cell? ⟨g2,4,none⟩=some (.int .i64 f.rc)from by rw[Aa aw.out];rfl
 clear eo av H6 cz bq da e7;go_upto_if 68 with fail
 go_cut [9] (fun x wc=>x= .int .i64 0∧∃ (y:Lg.Lo) (d:Int),Eg w.heap.size w [((Ak s p),36),(#[(),(),t,.int .i64 2,.int .i64 (pg:Int),(),(),o.kind,o.slot,o.By,o.new,.int .i64 1,(),"",(),(),"s","s"],49),(#[(),(),(),"s",(),false,(),(),(),(),"","s",(),"s",()],36)] wc∧wc.heap[g]? =some (.cells (Ak {s' with log:=y} q) 36 (0,0))∧wc.heap[g2]? =some (.cells (Fs {f with rc:=d}) 108 (0,0))∧Am wc {s' with log:=y} q j∧PI N n {s' with log:=y} j C∧Rc.num d∧d≠0∧s'.log.end_≤y.end_∧y.end_≤s'.log.end_+562)
 case first=>
  by_cases bu:f.rc=0
  ·have hc:(f.rc==0)=true:=by rw[bu];rfl
   have dc:=al.out.num;have hd:=A.out.en;obtain⟨y,ep,er,et,eu⟩:=al.out.xG (⟨0,0,0,8,(pg:Int),0,0,⟨7,0,⟨#[]⟩,C pg⟩,0,0,Rc.Ce,[],[]⟩:Rc.Rec) (Vh dc.1 (by have:=al.out.n1;show 0≤(pg:Int)∧(pg:Int)<60;omega) (by rw[(al.out.nm pg cq).size];omega)) rfl (by show(⟨#[]⟩:ByteArray).size=0;rfl) (by have:=ao.out;omega);have E:=Hq (fun W=>show Cq 79 #[Ah s' q,.agg #[(),(),(),.int .i64 8,.int .i64 (pg:Int),(),(),.int .i64 7,(),"",.string (C pg),(),(),"",(),(),"s","s"]] W _ from Qu s' q al.out.tF (⟨0,0,0,8,(pg:Int),0,0,⟨7,0,⟨#[]⟩,C pg⟩,0,0,Rc.Ce,[],[]⟩:Rc.Rec) rfl rfl W);rw[ep]at E;have hf:=Hq er;have dd:=Hq dc;have hh:=Hq (And.intro (Int.le_of_lt et) eu);have hj:=show w7.cell? ⟨(w.heap.size+1),4,none⟩=some (.int .i64 (pg:Int))from(by rw[Aa H7.out.Aq];rfl);have eo:=show w7.cell? ⟨g2,1,none⟩=some (.string (C pg))from(by rw[Aa aw.out,← bn.out.2.2.1];rfl);clear bu dc hd ep er et eu;generalize s'.log.end_+1=d at E dd
   go_wp2_with(first
    |with_reducible refine lL bt.out Ar ?_
    |(go_at_call 79;refine(E.out _).mono ?_;rintro e w8 ⟨rfl,bw⟩;have H8:=Hq (H7.out.step bw);have a7:=Hq (Af bt.out bw);have bx:=Hq (Af aw.out bw);have ax:=Hq (db.out.below bw);have I:=Hq ((Ae w8 g (Ak {s' with log:=y} q) g2 (by omega)).trans bx.out);have ik:=show(w8.setRow g (Ak {s' with log:=y} q)).cell? ⟨g2,4,none⟩=some (.int .i64 f.rc)from(by rw[Aa I.out];rfl);have il:=Ap I.out 4)
    |with_reducible refine lS (Ak {s' with log:=y} q) a7.out ?_)
   have hl:=Gx (g:=g) (Nat.le_refl g) (show Below g w8 w8 from⟨rfl,rfl,rfl,Nat.le_refl _,fun _ _=>rfl⟩) (Ak {s' with log:=y} q);have H9:=Hq (H8.out.under (M:=g) (by simp;omega) hl);have an:=Hq (setRow_heap _ _ _ (Ak {s' with log:=y} q) _ _ a7.out);have ay:=Hq (show Am (w8.setRow g (Ak {s' with log:=y} q)) {s' with log:=y} q j from by have G:=ax.out.other (t:=36) a7.out (by decide) (by decide) (by decide) (Ak {s' with log:=y} q);exact⟨⟨G.st.dk,G.st.dt,G.st.tx,G.st.tt⟩,G.fn,G.fr,G.ft⟩);go_meet
   case rel=>exact⟨rfl,y,d,H9.out.under (M:=g2) (by simp;omega) ((Below.refl _ _).setCell (p:=⟨g2,4,none⟩) (Nat.le_refl _) _),(by rw[Below.heap_setCell _ _ _ _ (by show g≠g2;omega)];exact an.out),(by have:=Cp 4 I.out (.int .i64 d);simpa using this),ay.out.own I.out (fun ad e=>by have:=bo.out ad e;omega) 4 _,hf.out,dd.out.1,dd.out.2.1,hh.out⟩
  ·have hc:(f.rc==0)=false:=beq_eq_false_iff_ne.2 bu
   go_wp2_with fail;go_meet
   case rel=>exact⟨rfl,s'.log,f.rc,H7.out,bt.out,aw.out,db.out,al.out,bn.out.2.2.2.2,bu,Int.le_refl _,by omega⟩
 case rest=>
  obtain⟨rfl,y,d,h8,ev,ew,ey,ez,fa,fe,c6,c7⟩:=hcut;obtain⟨w8,rfl⟩:=ex wc;have H8:=Hq h8;have a7:=Hq ev;have bx:=Hq ew;have ax:=Hq ey;have de:=Hq ez;have ff:=Hq (And.intro fa fe);have df:=Hq (And.intro c6 c7);have az:i<s'.txns.length:=by rw[A.out.tx];exact hi
  have im:(i:Int)<(s'.txns.length:Int):=by omega
  have ig:(0:Int)≤(i:Int):=by omega
  clear h8 ev ew ey ez fa fe c6 c7 H7 bt aw db h9;obtain⟨tb,fg,fh,hn,fi,aa⟩:=Bz Dr ax.out.st.tx az;obtain⟨tv,bz⟩:=ex (s'.txns[i]);have iq:=Hq bz;have fj:=aa 1 (.int .i64 tv.last) (by rw[bz];rfl);have H:=show w8.cell? ⟨g,13,none⟩=some (.slice (some ⟨tb,fg,none⟩) s'.txns.length q.tc)from(by rw[Aa a7.out,← fh];rfl);have dh:=show w8.cell? ⟨(w.heap.size+1),1,none⟩=some (.int .i64 0)from(by rw[Aa H8.out.Aq];rfl);have di:=Ap H8.out.Aq 1;have fk:Rc.num tv.last:=by
   have hm:tv∈s'.txns:=(by rw[bz];exact List.getElem_mem az);rw[A.out.tx]at hm;exact(gx.out _ hm).2.1
  have fl:=Hq fk;clear aa hn fi fh fk bz;generalize tv.last=pv at fj fl;go_upto_region 18 with fail;have H9:=Hq (show Eg w.heap.size w [((Ak s p),36),(#[(),pv,t,.int .i64 2,.int .i64 (pg:Int),(),(),o.kind,o.slot,o.By,o.new,.int .i64 1,(),"",(),(),"s","s"],49),(#[(),(),(),"s",(),false,(),(),(),(),"","s",(),"s",()],36)] (w8.setCell ⟨(w.heap.size+1),1,none⟩ (.int .i64 pv))from H8.out.set 1 1 (.int .i64 pv) _ rfl);have an:=Hq (show(w8.setCell ⟨(w.heap.size+1),1,none⟩ (.int .i64 pv)).heap[g]? =some (.cells (Ak {s' with log:=y} q) 36 (0,0))from by rw[Below.heap_setCell _ _ _ _ (by show g≠(w.heap.size+1);omega)];exact a7.out);have I:=Hq (show(w8.setCell ⟨(w.heap.size+1),1,none⟩ (.int .i64 pv)).heap[g2]? =some (.cells (Fs {f with rc:=d}) 108 (0,0))from by rw[Below.heap_setCell _ _ _ _ (by show g2≠(w.heap.size+1);omega)];exact bx.out);have ay:=Hq (ax.out.set H8.out.Aq (by decide) (by decide) (by decide) 1 (.int .i64 pv));generalize w8.setCell ⟨(w.heap.size+1),1,none⟩ (.int .i64 pv)=w9 at H9 an I ay ⊢;clear H dh di fj H8 a7 bx ax;have dj:=de.out.num;obtain⟨m,fm,D,fo,fp⟩:=de.out.log (⟨0,pv,t,2,(pg:Int),0,0,o,1,0,Rc.Ce,[],[]⟩:Rc.Rec) (HR.out _ _ dj.1 fl.out) (by show(2:Int)≠9;decide) (by have:=ao.out;have:=df.out;have:=A.out.en;show y.end_+1072≤(N:Int)*128;omega);have E:=Hq (fun W=>show Cq 79 #[Ah {s' with log:=y} q,.agg #[(),pv,t,.int .i64 2,.int .i64 (pg:Int),(),(),o.kind,o.slot,o.By,o.new,.int .i64 1,(),"",(),(),"s","s"]] W _ from Qu {s' with log:=y} q de.out.tF (⟨0,pv,t,2,(pg:Int),0,0,o,1,0,Rc.Ce,[],[]⟩:Rc.Rec) rfl rfl W);rw[fm]at E;have fq:=Hq D;have fu:=Hq (show s.log.end_≤m.end_∧m.end_≤s.log.end_+1634 from by have:=df.out;have:=A.out.en;simp only at fo fp;omega);have dm:=Hq (show Rc.num (y.end_+1)from dj.1);clear dj fm D fo fp df ao HR;dsimp only at E;generalize y.end_+1=lsn at E dm
  go_upto_region 21 with(first
   |with_reducible refine lL an.out Ar ?_
   |with_reducible refine lL H9.out.Aq C5 ?_
   |(go_at_call 79;refine(E.out _).mono ?_;rintro e b0 ⟨rfl,J⟩;have fv:=Hq (H9.out.step J);have ae:=Hq (Af an.out J);have c8:=Hq (Af I.out J);have ca:=Hq (ay.out.below J);clear J)
   |with_reducible refine lS (Ak {s' with log:=m} q) ae.out ?_)
  have dn:=Hq (fv.out.under (M:=g) (by simp;omega) (Gx (g:=g) (Nat.le_refl g) (show Below g b0 b0 from⟨rfl,rfl,rfl,Nat.le_refl _,fun _ _=>rfl⟩) (Ak {s' with log:=m} q)));have b1:=Hq (setRow_heap _ _ _ (Ak {s' with log:=m} q) _ _ ae.out);have b2:=Hq ((Ae b0 g (Ak {s' with log:=m} q) g2 (by omega)).trans c8.out);have b3:=Hq (show Am (b0.setRow g (Ak {s' with log:=m} q)) {s' with log:=m} q j from by have G:=ca.out.other (t:=36) ae.out (by decide) (by decide) (by decide) (Ak {s' with log:=m} q);exact⟨⟨G.st.dk,G.st.dt,G.st.tx,G.st.tt⟩,G.fn,G.fr,G.ft⟩);generalize b0.setRow g (Ak {s' with log:=m} q)=w11 at dn b1 b2 b3 ⊢;clear H9 an I ay fv ae c8 ca E
  try simp only[Act.put]
  have fw:=P6 HB.out dm.out;have fx:=Hq fw.1;have dp:=Hq (fun W=>Jd b lsn (by have:=HB.out.size;omega) W);have fy:=Hq (show ∃ z,z=Bl b lsn from⟨_,rfl⟩);clear fw;obtain⟨z,hz⟩:=fy.out;rw[← hz]at fx dp;have HZ:=Hq hz;clear hz fy
  go_upto_region 22 with(go_at_call 80;refine(dp.out _).mono ?_;rintro e O ⟨rfl,P⟩;have fz:=Hq (dn.out.step P);have cb:=Hq (Af b1.out P);have R:=Hq (Af b2.out P);have cc:=Hq (b3.out.below P);have U:=Hq (Cp 1 R.out (.string z));have dh:=show O.cell? ⟨g2,1,none⟩=some (.string f.bytes)from(by rw[Aa R.out];rfl);have di:=Ap R.out 1;have hr:=show(O.setCell ⟨g2,1,none⟩ (.string z)).cell? ⟨g2,3,none⟩=some (.bool f.mark)from(by rw[Aa U.out];rfl);have hs:=Ap U.out 3)
  have b4:=Hq (show((O.setCell ⟨g2,1,none⟩ (.string z)).setCell ⟨g2,3,none⟩ (.bool true)).heap[g2]? =some (.cells (Fs ⟨f.Ad,z,f.pins,true,d⟩) 108 (0,0))from by have:=Cp 3 U.out (.bool true);simpa using this);have b5:Below g2 O ((O.setCell ⟨g2,1,none⟩ (.string z)).setCell ⟨g2,3,none⟩ (.bool true)):=((show Below g2 O O from⟨rfl,rfl,rfl,Nat.le_refl _,fun _ _=>rfl⟩).setCell (p:=⟨g2,1,none⟩) (Nat.le_refl _) (.string z)).setCell (p:=⟨g2,3,none⟩) (Nat.le_refl _) (.bool true);have dq:=Hq (fz.out.under (M:=g2) (by simp;omega) b5);have af:=Hq ((b5.block g (by omega)).trans cb.out);have b6:=Hq (((cc.out.own R.out (fun ad e=>by have:=bo.out ad e;omega) 1 (.string z))).own U.out (fun ad e=>by have:=bo.out ad e;omega) 3 (.bool true));generalize (O.setCell ⟨g2,1,none⟩ (.string z)).setCell ⟨g2,3,none⟩ (.bool true)=w14 at dq af b4 b6 ⊢;clear dn b1 b2 b3 fz cb R cc U dh di hr hs P b5 dp;have ga:=Hq (fun W hp=>Nf {s' with log:=m} q j h5 k ak ⟨f.Ad,z,f.pins,true,d⟩ W hp)
  go_upto_region 23 with(first
   |with_reducible refine lL af.out Ar ?_
   |with_reducible refine lL b4.out Gy ?_
   |(go_at_call 74;refine(ga.out _ b6.out).mono ?_;rintro e dr ⟨X,rfl,cd,b7⟩;have gb:=Hq (dq.out.step b7);have ag:=Hq (Af af.out b7))
   |with_reducible refine lS (Ak {s' with log:=m} X) ag.out ?_)
  have ds:=Hq (gb.out.under (M:=g) (by simp;omega) (Gx (g:=g) (Nat.le_refl g) (show Below g dr dr from⟨rfl,rfl,rfl,Nat.le_refl _,fun _ _=>rfl⟩) (Ak {s' with log:=m} X)));have Y:=Hq (setRow_heap _ _ _ (Ak {s' with log:=m} X) _ _ ag.out);have B:=Hq (cd.other (t:=36) ag.out (by decide) (by decide) (by decide) (Ak {s' with log:=m} X));generalize dr.setRow g (Ak {s' with log:=m} X)=w16 at ds Y B ⊢;clear dq af b4 b6 gb ag cd b7 ga
  try simp only[Act.put]
  have H:=show w16.cell? ⟨g,13,none⟩=some (.slice X.T s'.txns.length X.tc)from(by rw[Aa Y.out];rfl);have ir:s'.txns.length≤800000:=by rw[A.out.tx];exact gu
  have du:=Hq (And.intro B.out.st.dt.lt B.out.ft.lt);have gd:=Hq (Td s'.txns (by omega) X.T X.tc w16 B.out.st.tx)
  go_upto_region 24 with(go_at_call 81;(refine gd.out.mono ?_);rintro e b8 ⟨v,rfl,ho,ah⟩;obtain⟨g4,c4,rfl,dv⟩:=J3 ho (by omega);have gf:=Hq (ds.out.step ah);have Z:=Hq (Af Y.out ah);have gg:=show b8.cell? ⟨g,13,none⟩=some (.slice X.T s'.txns.length X.tc)from(by rw[Aa Z.out];rfl);have gh:=Ap Z.out 13)
  have ai:g<w16.heap.size:=Bt Y.out;have iu:g<g4:=by omega
  have gi:=Hq (gf.out.under (M:=g) (by simp;omega) ((show Below g b8 b8 from⟨rfl,rfl,rfl,Nat.le_refl _,fun _ _=>rfl⟩).setCell (p:=⟨g,13,none⟩) (Nat.le_refl _) (.slice (some ⟨g4,0,none⟩) s'.txns.length c4)));have b9:=Hq (show(b8.setCell ⟨g,13,none⟩ (.slice (some ⟨g4,0,none⟩) s'.txns.length c4)).heap[g]? =some (.cells (Ak {s' with log:=m} {X with T:=some ⟨g4,0,none⟩,tc:=c4}) 36 (0,0))from by have:=Cp 13 Z.out (.slice (some ⟨g4,0,none⟩) s'.txns.length c4);simpa using this);have ba:=Hq (J9 ho ⟨g,13,none⟩ (.slice (some ⟨g4,0,none⟩) s'.txns.length c4) ai);have cf:=Hq (B.out.below ah);have cg:=Hq (cf.out.set Z.out (by decide) (by decide) (by decide) 13 (.slice (some ⟨g4,0,none⟩) s'.txns.length c4));generalize b8.setCell ⟨g,13,none⟩ (.slice (some ⟨g4,0,none⟩) s'.txns.length c4)=a1 at gi b9 ba cg ⊢;clear H gg gh ds Y B gf Z cf gd ho ah;generalize w16.heap.size=M at ba dv ai du
  try simp only[Act.put]
  obtain⟨y1,dw⟩:=ex ({s'.txns[i]with last:=lsn}:Rc.Be);obtain⟨y2,dx⟩:=ex ({y1 with next:=lsn}:Rc.Be);have gj:i<(s'.txns.set i y1).length:=by rw[List.length_set];exact az
  have cj:F6 y2=(F6 (s'.txns.set i y1)[i]).set 2 (.int .i64 lsn):=by rw[List.getElem_set_self,dx];rfl
  have ck:F6 y1=(F6 s'.txns[i]).set 1 (.int .i64 lsn):=by rw[dw];rfl
  have ht:=Hq (show(s'.txns.set i y1).set i y2=s'.txns.set i {s'.txns[i]with last:=lsn,next:=lsn}from by rw[List.set_set,dx,dw]);clear dw dx
  go_cut [128] (fun x wc=>∃ ts,ts=(s'.txns.set i y1).set i y2∧wc.ownsRow M 59 4 (.slice (some ⟨g4,0,none⟩) s'.txns.length c4) s'.txns.length (ts.flatMap F6)∧Below M a1 wc)
  case first=>
   have hQ:Below M a1 a1.drew:=(show Below M a1 a1 from⟨rfl,rfl,rfl,Nat.le_refl _,fun _ _=>rfl⟩).drew;have hO:=Bg ba.out (Below.refl _ a1).drew;have dy:=Hq (fun(u:World) (hu:Below M a1 u)=>show u.cell? ⟨g,13,none⟩=some (.slice (some ⟨g4,0,none⟩) s'.txns.length c4)from by rw[hu.cell (p:=⟨g,13,none⟩) ai,Aa b9.out];rfl);have hSn:=dy.out _ hQ;refine G7 (S:=(fun u=>u.cell? ⟨g,13,none⟩=some (.slice (some ⟨g4,0,none⟩) s'.txns.length c4))) (fun a8=>?_);generalize a1.drew=w8 at hSn hO hQ ⊢;refine Bb 0 ?_ (hy:=by
    intro u c;have r:=c;clear c;go_simp;(try with_reducible rfl))
   refine Bb 1 ?_ (hy:=by
    intro u c;have r:=c;clear c;go_simp;(try with_reducible rfl))
   refine Bb 2 ?_ (hy:=by
    intro u c;have r:=c;clear c;go_simp;(try with_reducible rfl))
   refine Bb 3 ?_ (hy:=by
    intro u c;have r:=c;clear c;go_simp;(try with_reducible rfl))
   refine Bb 4 ?_ (hy:=by
    intro u c;have r:=c;clear c;go_simp;(try with_reducible rfl))
   refine Bb 5 ?_ (hy:=by
    intro u c;have r:=c;clear c;go_simp;(try with_reducible rfl))
   refine Bb 6 ?_ (hy:=by
    intro u c;have r:=c;clear c;go_simp;(try with_reducible rfl))
   refine Bb 7 ?_ (hy:=by
    intro u c;have r:=c;clear c;go_simp;(try with_reducible rfl))
   refine Bb 8 ?_ (hy:=by
    intro u c;have r:=c;clear c;go_simp;(try with_reducible rfl))
   refine Bb 9 ?_ (hy:=by
    intro u c;have r:=c;clear c;go_simp;(try with_reducible rfl))
   refine Dg 10 fun K hK=>?_;obtain⟨dz,e0,bb⟩:=Fe hO rfl i az 1 (by omega) (.int .i64 lsn) y1 ck;have bc:=hQ.setCell (p:=⟨g4,i*4+1,none⟩) dv (.int .i64 lsn)
   go_simp
   clear hSn hO hQ dz e0;have hQ:=bc;have hO:=bb;clear bc bb;generalize w8.setCell ⟨g4,i*4+1,none⟩ (.int .i64 lsn)=w3 at hQ hO ⊢;have hSn:=dy.out _ hQ;refine Cw hK (fun a8=>?_);clear hK K;refine Bb 11 ?_ (hy:=by
    intro u c;have r:=c;clear c;go_simp;(try with_reducible rfl))
   refine Bb 12 ?_ (hy:=by
    intro u c;have r:=c;clear c;go_simp;(try with_reducible rfl))
   refine Dg 13 fun K hK=>?_;obtain⟨dz,e0,bb⟩:=Fe hO (by rw[List.length_set]) i gj 2 (by omega) (.int .i64 lsn) y2 cj;have bc:=hQ.setCell (p:=⟨g4,i*4+2,none⟩) dv (.int .i64 lsn)
   go_simp
   clear hSn hO hQ dz e0;have hQ:=bc;have hO:=bb;clear bc bb;generalize w3.setCell ⟨g4,i*4+2,none⟩ (.int .i64 lsn)=w4 at hQ hO ⊢;have hSn:=dy.out _ hQ;refine Cw hK (fun a8=>?_);clear hK K;refine wpAnyH_done Kr ?_ _;clear a8;go_wp2_with fail;go_meet
   case rel=>exact⟨_,rfl,hO,hQ⟩
  case rest=>
   obtain⟨ts,bd,cm,aj⟩:=hcut;obtain⟨hv,rfl⟩:=ex wc;have gk:=Hq bd;have cn:ts.length=s'.txns.length:=(by rw[bd,List.length_set,List.length_set]);have gl:=Hq cn;have bf:=Hq (gi.out.under (M:=M) (by simp;omega) aj);have gm:=Hq ((aj.block g ai).trans b9.out);have gn:=Hq cm;have gp:=Hq aj;have hj:=show hv.cell? ⟨(w.heap.size+1),3,none⟩=some (.int .i64 2)from(by rw[Aa bf.out.Aq];rfl);clear bd cn cm aj ck cj gj
   go_wp2_with(first
    |with_reducible refine lL gm.out Ar ?_
    |with_reducible refine lS (Ak {s' with log:=m} {X with T:=some ⟨g4,0,none⟩,tc:=c4}) bf.out.Cd ?_)
   refine rT2 () bf.out.Cd Ar ?_;have hx:∀ L (e:L=s.txns) (h:i<L.length),L.set i {L[i]with last:=lsn,next:=lsn}=s.txns.set i {s.txns[i]with last:=lsn,next:=lsn}:=fun L e h=>by subst e;rfl
   have ia:(Value.agg (Ak {s' with log:=m} {X with T:=some ⟨g4,0,none⟩,tc:=c4}))=Ah {s' with log:=m,txns:=ts} {X with T:=some ⟨g4,0,none⟩,tc:=c4}:=(by dsimp only[Ah,Ak];rw[gl.out]);have e1:=gn.out;rw[← gl.out]at e1;have gq:=cg.out.upto du.out.1 du.out.2 gp.out (Cz e1) ((De.own e1).mono (Nat.zero_le _));have bg:=gq.other (t:=36) bf.out.Cd (by decide) (by decide) (by decide) (Ak {s' with log:=m} {X with T:=some ⟨g4,0,none⟩,tc:=c4});have ib:=(bf.out.row 2 (Ak {s' with log:=m} {X with T:=some ⟨g4,0,none⟩,tc:=c4}) _ rfl).below;rw[ia];have gr:=h7.out;have bh:=bn.out;rw[gr]at bh;have cp:=fq.out.change (s':={s' with log:=m,txns:=ts}) ak cq bh.1 bh.2.1 fx.out ff.out.1 ff.out.2 rfl rfl rfl rfl fq.out.pw;have ic:(⟨f.Ad,z,f.pins,true,d⟩:Fr)=⟨(pg:Int),z,0,true,d⟩:=(by rw[gr,bh.2.1,bh.2.2.2.1]);rw[ic]at bg;rw[HZ.out]at bg cp;exact HQ.out _ _ _ lsn _ bg cp ⟨⟨i,hi,gz.out,gk.out.trans (ht.out.trans (hx _ A.out.tx az))⟩,dm.out,A.out.nx,A.out.zf,by rw[List.length_set];exact A.out.ln,fu.out.1,fu.out.2⟩ ib
end Go.Proofs.YtmfkhdhnbkambaaGreatDoor
