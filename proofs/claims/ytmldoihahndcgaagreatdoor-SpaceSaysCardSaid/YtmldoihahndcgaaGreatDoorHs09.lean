import Derived.Test.YtmldoihahndcgaaGreatDoorHs00
import Derived.Test.YtmldoihahndcgaaGreatDoorHs07
import Derived.Test.YtmldoihahndcgaaGreatDoorHs08
import Derived.Test.YtmldoihahndcgaaGreatDoorHs06
import Derived.Test.YtmldoihahndcgaaGreatDoorHs05
import Derived.Test.YtmldoihahndcgaaGreatDoorHs02
set_option maxRecDepth 100000
set_option maxHeartbeats 16000000
set_option linter.unusedSimpArgs false
namespace Go.Proofs.YtmldoihahndcgaaGreatDoor
open Go.RowKit Sc
theorem PI.qH {N n:Nat}{s:Tx.St}{fs:List Fr}{C:Nat→ByteArray}(h:PI N n s fs C):Tx.Y4 s:=by
 obtain⟨b,c,a⟩:=h.pw.inv;exact Tx.eK a (by have:=h.n1.2.2;omega)
def fF (N n:Nat)(C:Nat→ByteArray)(s:Tx.St)(fs:List Fr)(k:Nat)(w:World)(e:Ending)(w':World):Prop:=
 ∃ (d:Lg.Dk) (l:Lg.Lo) (q:SP) (fs':List Fr),e= .returned (.tuple #[Ag {s with As:=d,log:=l} q,()])∧Ao w' {s with As:=d,log:=l} q fs'∧PI N n {s with As:=d,log:=l} fs' C∧Hk s {s with As:=d,log:=l} fs fs'∧Mi fs fs'∧(∃ h:k<fs'.length,fs'[k].rc=0)∧Bw w w'
theorem cT {N n:Nat}(s:Tx.St)(p:SP)(fs:List Fr)(C:Nat→ByteArray)(hI:PI N n s fs C)(k:Nat)(hk:k<fs.length)(m:Full fs[k])(w:World)(h:Ao w s p fs):
 Cq 181 #[Ag s p,.int .i64 (k:Int)] w (fF N n C s fs k w):=by
 have HP:=Hq h;have bf:=Hq h.fn;have bg:fs.length≤100:=by have:=hI.nf;omega
 have P:=hI.qH;have ax:=hI.pw;have an:=Hq (fun W (J:Bw w W)=>iC s.As (by rw[ax.left];decide) p.A p.c s.log P.e0 (by have:=P.e1;omega) (by have:=P.n0;omega) (by have:=P.n1;omega) (by have:=P.f;omega) (by have:=P.f;omega) (by have:=P.t0;have:=P.e1;omega) P.t0 P.t1 W (h.st.dk.below J));obtain⟨d2,d,ef,l,ay⟩:=hI.force;rw[ef]at an;clear ef P;obtain⟨pg,Y,R,bh⟩:=hI.fr.at_ k hk m;have Z:=Hq (fun W (J:Bw w W) (bj:fs[k].rc=0)=>show fF N n C s fs k w (.returned (.tuple #[Ag s p,()])) W from⟨s.As,s.log,p,fs,rfl,h.below J,hI,Hk.refl s fs,Mi.refl fs,⟨hk,bj⟩,J⟩);have a1:=Hq (fun(w':World) (q:SP) (hp:Ao w' {s with As:=Mp d2 (1+N+4*pg) (Dn (C pg)),log:=d} q (fs.set k {fs[k]with rc:=0})) (J:Bw w w')=>show fF N n C s fs k w (.returned (.tuple #[Ag {s with As:=Mp d2 (1+N+4*pg) (Dn (C pg)),log:=d} q,()])) w' from⟨_,_,q,_,rfl,hp,l.flush hk Y m R,⟨rfl,rfl,ay,rfl,List.length_set⟩,Mi.set fs k hk _ rfl rfl,⟨by rw[List.length_set];exact hk,by rw[List.getElem_set_self]⟩,J⟩);have az:=Hq (fun W=>Lv {s with As:=d2,log:=d} p N pg l.zl l.n1.2.2 (by have:=l.n1;omega) W);have ao:=Hq (fun A c W=>Lv {s with As:=d2,log:=d} {p with A:=A,c:=c} N pg l.zl l.n1.2.2 (by have:=l.n1;omega) W);have aq:=Hq (fun W=>gI (C pg) (by have:=(l.nm pg Y).size;omega) W);have T:=(Gb (l.nm pg Y).is).2.2.2;have U:=Hq (fun A c W (hr:Ca W d2 A c) (ht:Cp 0 W 9 A)=>Sn d2 l.pw A c (1+N+4*pg) (by omega) (by omega) (by have:=l.n1;omega) (Dn (C pg)) T W hr ht);generalize Mp d2 (1+N+4*pg) (Dn (C pg))=d3 at a1 U;generalize Dn (C pg)=z at aq U;generalize 1+N+4*pg=at_ at az ao U;generalize fF N n C s fs k w=Q at Z a1 ⊢;have ar:=hI.bytes hk m R;obtain⟨b,off,b0,bk,au,H⟩:=Bu Dh h.fr hk;generalize bl:fs[k]=f at H Z a1 ar R;have bm:=Hq au;have b1:=Hq (fun u (hu:Bw w u)=>show u.rangeAt b (off+k*5) (Ib f)from fun i v hv=>by rw[hu.cell (p:=⟨b,off+k*5+i,none⟩) au];exact H i v hv);have b2:=Hq b0;have bw:(0:Int)≤(k:Int):=by omega
 have bx:(k:Int)<(fs.length:Int):=by omega
 have B:=Hq R;have D:=Hq ar.2;clear h hI l ay bl H bk au b0 ax Y R bh m T ar az;go_enter Tryz.func181,Tryz.ntmps181;go_upto_region 1 with fail;have H0:=Hp w (Aj s p) 36 #[(),(),(),'s',(),false,(),(),(),(),"",'s',(),'s',()] 36;obtain⟨W0,b3⟩:=Ee H0;rw[← b3]at H0 ⊢;clear b3;have hc:=show W0.cell? ⟨w.heap.size,11,none⟩=some (.slice (some ⟨b,off,none⟩) fs.length p.fc)from by rw[Aa H0.out.Ai,← b2.out,← bf.out];rfl
 have b4:=Hq (show W0.rangeAt b (off+k*5) (Ib f)from b1.out W0 H0.out.below)
 go_upto_region 2 with(first
  |(refine Cw Kr fun K L=>wp_load_mid 116 (.tmp 12) rfl b (off+k*5) rfl (Ib f) _ b4.out Fw Kr Kr (L _ _ ?_))
  |with_reducible refine sN (Er f) ?_)
 have H1:=Hq (H0.out.step (Ab W0 (.cells (Er f) 116)));have HG:=Hq (heap_alloc_new W0 (.cells (Er f) 116));have bn:w.heap.size+1<W0.heap.size:=H0.out.lt (i:=1) (by simp);obtain⟨g,hg⟩:=ex W0.heap.size;obtain⟨w1,a6⟩:=ex (W0.alloc (.cells (Er f) 116));rw[← hg,← a6]at HG;rw[← a6]at H1;rw[← a6,← hg];rw[← hg]at bn;clear a6 hg H0 b4 hc b1
 try simp only[Act.put]
 have bo:=show w1.cell? ⟨g,4,none⟩=some (.int .i64 f.rc)from by rw[Aa HG.out];rfl
 by_cases V:f.rc=0
 ·have b5:(f.rc==0)=true:=by rw[V];rfl
  have bp:=Hq V;clear V
  go_wp2_with(first|with_reducible refine lL H1.out.Ai Ar ?_|with_reducible refine lS (Aj s p) H1.out.Am ?_)
  refine rT2 () H1.out.Am Ar ?_;exact Z.out _ (H1.out.row 1 (Aj s p) _ rfl).below bp.out
 ·have b5:(f.rc==0)=false:=beq_eq_false_iff_ne.2 V
  clear V Z
  go_upto_region 6 with(first
   |with_reducible refine lP #[.slice p.A s.As.sectors.length p.c,s.As.left,s.As.down] H1.out.Ai Cu ?_
   |with_reducible refine lP #[s.log.from_,s.log.n,s.log.end_,s.log.safe,s.log.tail] H1.out.Ai Fi ?_
   |(go_at_call 230;refine(an.out _ H1.out.below).mono ?_;rintro e w2 ⟨A2,c2,rfl,b6,b7,a7⟩;have H2:=Hq (H1.out.step a7);have H3:=Hq (show D6 w.heap.size w [((Aj {s with As:=d2} {p with A:=A2,c:=c2}),36),(#[(),(),(),'s',(),false,(),(),(),(),"",'s',(),'s',()],36)] (w2.setRow w.heap.size (Aj {s with As:=d2} {p with A:=A2,c:=c2}))from H2.out.row 0 (Aj {s with As:=d2} {p with A:=A2,c:=c2}) _ rfl))
   |with_reducible refine lU #[.slice A2 d2.sectors.length c2,d2.left,d2.down] (Aj {s with As:=d2} {p with A:=A2,c:=c2}) H2.out.Ai ?_
   |with_reducible refine lU #[d.from_,d.n,d.end_,d.safe,d.tail] (Aj {s with As:=d2,log:=d} {p with A:=A2,c:=c2}) H3.out.Ai ?_)
  have af:Cp 0 w2 9 A2:=b7.elim (fun e=>by rw[e];exact HP.out.st.dt.below H2.out.below) (fun e=>e.mono (Nat.zero_le _));have T:Below w.heap.size w2 ((w2.setRow w.heap.size (Aj {s with As:=d2} {p with A:=A2,c:=c2})).setRow w.heap.size (Aj {s with As:=d2,log:=d} {p with A:=A2,c:=c2})):=E7 (Nat.le_refl _) (E7 (Nat.le_refl _) (show Below w.heap.size w2 w2 from⟨rfl,rfl,rfl,Nat.le_refl _,fun _ _=>rfl⟩) (Aj {s with As:=d2} {p with A:=A2,c:=c2})) (Aj {s with As:=d2,log:=d} {p with A:=A2,c:=c2});have H4:=Hq (show D6 w.heap.size w [((Aj {s with As:=d2,log:=d} {p with A:=A2,c:=c2}),36),(#[(),(),(),'s',(),false,(),(),(),(),"",'s',(),'s',()],36)] ((w2.setRow w.heap.size (Aj {s with As:=d2} {p with A:=A2,c:=c2})).setRow w.heap.size (Aj {s with As:=d2,log:=d} {p with A:=A2,c:=c2}))from H3.out.row 0 (Aj {s with As:=d2,log:=d} {p with A:=A2,c:=c2}) _ rfl);have av:=Hq ((Ah _ _ (Aj {s with As:=d2,log:=d} {p with A:=A2,c:=c2}) _ (show g≠w.heap.size by omega)).trans ((Ah _ _ (Aj {s with As:=d2} {p with A:=A2,c:=c2}) _ (show g≠w.heap.size by omega)).trans (Ae HG.out a7)));have b8:=Hq ((HP.out.below H1.out.below).As a7 d b6 af);have X:=Hq (((b8.out.other (t:=36) H2.out.Ai (by decide) (by decide) (by decide) (Aj {s with As:=d2} {p with A:=A2,c:=c2}))).other (t:=36) H3.out.Ai (by decide) (by decide) (by decide) (Aj {s with As:=d2,log:=d} {p with A:=A2,c:=c2}));generalize (w2.setRow w.heap.size (Aj {s with As:=d2} {p with A:=A2,c:=c2})).setRow w.heap.size (Aj {s with As:=d2,log:=d} {p with A:=A2,c:=c2})=w3 at H4 av X T ⊢;clear b6 b7 af T a7 H1 H2 H3 HG an HP b8 bo b5
  try simp only[Act.put]
  go_upto_region 8 with fail
  go_cut [7] (fun x wc=>x= .int .i64 0∧∃ (O:Option Addr) (c3:Nat),D6 w.heap.size w [((Aj {s with As:=d3,log:=d} {p with A:=O,c:=c3}),36),(#[(),(),(),'s',(),false,(),(),(),(),"",'s',(),'s',()],36)] wc∧wc.heap[g]? =some (.cells (Er f) 116 (0,0))∧Ao wc {s with As:=d3,log:=d} {p with A:=O,c:=c3} fs)
  case first=>
   have a8:=Hq (fun(u:World) (hu:Bw w3 u)=>show u.heap[w.heap.size]? =some (.cells (Aj {s with As:=d2,log:=d} {p with A:=A2,c:=c2}) 36 (0,0))∧u.heap[g]? =some (.cells (Er f) 116 (0,0))from⟨Ae H4.out.Ai hu,Ae av.out hu⟩);have y:Bw w3 w3.drew:=(Below.refl _ w3).drew;have hSn:=a8.out _ y;refine Ep (S:=(fun u=>u.heap[w.heap.size]? =some (.cells (Aj {s with As:=d2,log:=d} {p with A:=A2,c:=c2}) 36 (0,0))∧u.heap[g]? =some (.cells (Er f) 116 (0,0)))) 14 Kr ?_ (fun I=>?_)
   ·exact hSn
   generalize w3.drew=w8 at y hSn ⊢;refine An (i:=0) (oi:={dst:=some 34,op:=_,type:=_,pos:=_,after:=_,guard:=_}) (v:=?_) (p:=[14]) rfl Kr Kr Kr Kr Kr Kr (fun _ _ _ h=>h) (Or.inl ⟨by rfl,?_⟩) (by assumption) ?_
   rotate_left
   ·intro u a;have hcl0:=show u.cell? ⟨g,0,none⟩=some (.int .i64 (pg:Int))from(by rw[Aa a.2,← B.out];rfl);have hcl1:=show u.cell? ⟨g,1,none⟩=some (.string (C pg))from(by rw[Aa a.2,← D.out];rfl)
    clear a;go_simp;(try with_reducible rfl)
   try simp only[Act.put,pS]
   refine An (i:=1) (oi:={dst:=some 35,op:=_,type:=_,pos:=_,after:=_,guard:=_}) (v:=.agg #[.slice A2 d2.sectors.length c2,d2.left,d2.down]) (p:=[14]) rfl Kr Kr Kr Kr Kr Kr (fun _ _ _ h=>h) (yieldsIf_load_mid (by rfl) 28 (.tmp 34) rfl w.heap.size 3 (by rfl) [.slice A2 d2.sectors.length c2,.int .i64 d2.left,.bool d2.down] _ (fun u hu j v hj=>by rw[Aa hu.1];rcases j with _|_|_|j<;>simp at hj ⊢<;>exact hj) Cu Kr Kr) (by assumption) ?_
   try simp only[Act.put,pS]
   refine sL 2 [14] Ar ?_;refine An (i:=3) (oi:={dst:=some 37,op:=_,type:=_,pos:=_,after:=_,guard:=_}) (v:=?_) (p:=[14]) rfl Kr Kr Kr Kr Kr Kr (fun _ _ _ h=>h) (Or.inl ⟨by rfl,?_⟩) (by assumption) ?_
   rotate_left
   ·intro u a;have hcl0:=show u.cell? ⟨g,0,none⟩=some (.int .i64 (pg:Int))from(by rw[Aa a.2,← B.out];rfl);have hcl1:=show u.cell? ⟨g,1,none⟩=some (.string (C pg))from(by rw[Aa a.2,← D.out];rfl)
    clear a;go_simp;(try with_reducible rfl)
   try simp only[Act.put,pS]
   refine An (i:=4) (oi:={dst:=some 38,op:=_,type:=_,pos:=_,after:=_,guard:=_}) (v:=?_) (p:=[14]) rfl Kr Kr Kr Kr Kr Kr (fun _ _ _ h=>h) (Or.inl ⟨by rfl,?_⟩) (by assumption) ?_
   rotate_left
   ·intro u a;have hcl0:=show u.cell? ⟨g,0,none⟩=some (.int .i64 (pg:Int))from(by rw[Aa a.2,← B.out];rfl);have hcl1:=show u.cell? ⟨g,1,none⟩=some (.string (C pg))from(by rw[Aa a.2,← D.out];rfl)
    clear a;go_simp;(try with_reducible rfl)
   try simp only[Act.put,pS]
   refine An (i:=6) (oi:={dst:=some 40,op:=_,type:=_,pos:=_,after:=_,guard:=_}) (v:=?_) (p:=[14]) rfl Kr Kr Kr Kr Kr Kr (fun _ _ _ h=>h) (Or.inl ⟨by rfl,?_⟩) (by assumption) ?_
   rotate_left
   ·intro u a;have hcl0:=show u.cell? ⟨g,0,none⟩=some (.int .i64 (pg:Int))from(by rw[Aa a.2,← B.out];rfl);have hcl1:=show u.cell? ⟨g,1,none⟩=some (.string (C pg))from(by rw[Aa a.2,← D.out];rfl)
    clear a;go_simp;(try with_reducible rfl)
   try simp only[Act.put,pS]
   refine An (i:=7) (oi:={dst:=some 41,op:=_,type:=_,pos:=_,after:=_,guard:=_}) (v:=?_) (p:=[14]) rfl Kr Kr Kr Kr Kr Kr (fun _ _ _ h=>h) (Or.inl ⟨by rfl,?_⟩) (by assumption) ?_
   rotate_left
   ·intro u a;have hcl0:=show u.cell? ⟨g,0,none⟩=some (.int .i64 (pg:Int))from(by rw[Aa a.2,← B.out];rfl);have hcl1:=show u.cell? ⟨g,1,none⟩=some (.string (C pg))from(by rw[Aa a.2,← D.out];rfl)
    clear a;go_simp;(try with_reducible rfl)
   try simp only[Act.put,pS]
   refine Bj (rs:=[5]) Kr (by simp) ?_;refine(Ax.cons (o:={dst:=some 39,op:=_,type:=_,pos:=_,after:=_,guard:=_}) rfl (fun K L=>?_) Ax.nil)
   go_simp
   (refine(ao.out A2 c2 _).mono ?_);rintro e w9 ⟨rfl,r⟩;have E:=Ad y r;clear y hSn r;have y:=E;clear E;have hSn:=a8.out _ y
   refine Bq L (fun I=>?_);clear L K;refine Bj (rs:=[8]) Kr (by simp) ?_;refine(Ax.cons (o:={dst:=some 42,op:=_,type:=_,pos:=_,after:=_,guard:=_}) rfl (fun K L=>?_) Ax.nil)
   go_simp
   (refine(aq.out _).mono ?_);rintro e w9 ⟨rfl,r⟩;have E:=Ad y r;clear y hSn r;have y:=E;clear E;have hSn:=a8.out _ y
   refine Bq L (fun I=>?_);clear L K;refine Bj (rs:=[9]) Kr (by simp) ?_;refine(Ax.cons (o:={dst:=some 43,op:=_,type:=_,pos:=_,after:=_,guard:=_}) rfl (fun K L=>?_) Ax.nil)
   go_simp
   (refine(U.out A2 c2 _ (X.out.below y).st.dk (X.out.below y).st.dt).mono ?_);rintro e w9 ⟨O,c3,rfl,b9,ba,r⟩;have bq:=(X.out.below y).As r d b9 ba;clear b9 ba;have E:=Ad y r;clear y hSn r;have y:=E;clear E;have hSn:=a8.out _ y
   refine Bq L (fun I=>?_);clear L K;refine An (i:=10) (oi:={dst:=some 33,op:=_,type:=_,pos:=_,after:=_,guard:=_}) (v:=?_) (p:=[14]) rfl Kr Kr Kr Kr Kr Kr (fun _ _ _ h=>h) (Or.inl ⟨by rfl,?_⟩) (by assumption) ?_
   rotate_left
   ·intro u a;have hcl0:=show u.cell? ⟨g,0,none⟩=some (.int .i64 (pg:Int))from(by rw[Aa a.2,← B.out];rfl);have hcl1:=show u.cell? ⟨g,1,none⟩=some (.string (C pg))from(by rw[Aa a.2,← D.out];rfl)
    clear a;go_simp;(try with_reducible rfl)
   try simp only[Act.put,pS]
   refine An (i:=11) (oi:={dst:=some 44,op:=_,type:=_,pos:=_,after:=_,guard:=_}) (v:=?_) (p:=[14]) rfl Kr Kr Kr Kr Kr Kr (fun _ _ _ h=>h) (Or.inl ⟨by rfl,?_⟩) (by assumption) ?_
   rotate_left
   ·intro u a;have hcl0:=show u.cell? ⟨g,0,none⟩=some (.int .i64 (pg:Int))from(by rw[Aa a.2,← B.out];rfl);have hcl1:=show u.cell? ⟨g,1,none⟩=some (.string (C pg))from(by rw[Aa a.2,← D.out];rfl)
    clear a;go_simp;(try with_reducible rfl)
   try simp only[Act.put,pS]
   refine Bv (i:=12) (oi:={dst:=some 45,op:=_,type:=_,pos:=_,after:=_,guard:=_}) (v:=?_) rfl Kr Kr Kr Kr (fun _ _ _ h=>h) (Or.inl ⟨by rfl,?_⟩) (fun _=>by assumption) ?_
   rotate_left
   ·intro u a;clear a;go_simp;(try with_reducible rfl)
   try simp only[Act.put,pS]
   refine An (i:=13) (oi:={dst:=some 46,op:=_,type:=_,pos:=_,after:=_,guard:=_}) (v:=?_) (p:=[14]) rfl Kr Kr Kr Kr Kr Kr (fun _ _ _ h=>h) (Or.inl ⟨by rfl,?_⟩) (by assumption) ?_
   rotate_left
   ·intro u a;have hcl0:=show u.cell? ⟨g,0,none⟩=some (.int .i64 (pg:Int))from(by rw[Aa a.2,← B.out];rfl);have hcl1:=show u.cell? ⟨g,1,none⟩=some (.string (C pg))from(by rw[Aa a.2,← D.out];rfl)
    clear a;go_simp;(try with_reducible rfl)
   try simp only[Act.put,pS]
   refine Bj (rs:=[14]) Kr (by simp) ?_;refine(Ax.last (o:={dst:=none,op:=_,type:=_,pos:=_,after:=_,guard:=_}) rfl Kr (fun K L=>?_) Ax.nil);refine Ay (by rfl) ?_;refine nT 28 (.tmp 46) (.tmp 44) rfl w.heap.size 3 #[.slice O d3.sectors.length c3,d3.left,d3.down] (Aj {s with As:=d2,log:=d} {p with A:=A2,c:=c2}) (Aj {s with As:=d3,log:=d} {p with A:=O,c:=c3}) _ rfl rfl hSn.1 Kr Kr Kr Kr ?_;refine L.out _ _ ?_;clear L K
   try simp only[Act.put]
   refine Bv (i:=15) (oi:={dst:=some 7,op:=_,type:=_,pos:=_,after:=_,guard:=_}) (v:=?_) rfl Kr Kr Kr Kr (fun _ _ _ h=>h) (Or.inl ⟨by rfl,?_⟩) (fun h=>absurd h (by decide)) ?_
   rotate_left
   ·intro u a;clear a;go_simp;(try with_reducible rfl)
   try simp only[Act.put,pS]
   refine Eo Kr ?_ _;go_wp2_with fail;go_meet
   case rel=>exact⟨rfl,O,c3,(H4.out.step y).row 0 (Aj {s with As:=d3,log:=d} {p with A:=O,c:=c3}) _ rfl,(Ah _ _ (Aj {s with As:=d3,log:=d} {p with A:=O,c:=c3}) _ (show g≠w.heap.size by omega)).trans hSn.2,bq.other (t:=36) hSn.1 (by decide) (by decide) (by decide) (Aj {s with As:=d3,log:=d} {p with A:=O,c:=c3})⟩
  case rest=>
   obtain⟨rfl,O,c3,bb,ag,ah⟩:=hcut;obtain⟨aa,rfl⟩:=ex wc;have bc:=Hq bb;have G:=Hq ag;have ai:=Hq ah;clear bb ag ah H4 av X aq U ao;have br:=show aa.cell? ⟨g,4,none⟩=some (.int .i64 f.rc)from(by rw[Aa G.out];rfl);have bs:=Ap G.out 4;have bt:=Hq (fun W (hp:Ao W {s with As:=d3,log:=d} {p with A:=O,c:=c3} fs)=>Mj {s with As:=d3,log:=d} {p with A:=O,c:=c3} fs bg k hk {f with rc:=0} W hp);go_upto_region 12 with fail;have aj:=Hq (show(aa.setCell ⟨g,4,none⟩ (.int .i64 0)).heap[g]? =some (.cells (Er {f with rc:=0}) 116 (0,0))from by have:=Cb 4 G.out (.int .i64 0);simpa using this);have aw:=Hq (bc.out.under (M:=g) (by simp;omega) ((Below.refl _ aa).setCell (p:=⟨g,4,none⟩) (Nat.le_refl _) (.int .i64 0)));have ak:=Hq (ai.out.own G.out (fun ad e=>by have e2:p.F=some ad:=e;rw[b2.out]at e2;injection e2 with e2;subst e2;have:=bm.out;show b≠g;omega) 4 (.int .i64 0));generalize aa.setCell ⟨g,4,none⟩ (.int .i64 0)=w14 at aj aw ak ⊢;clear br bs bc ai G
   go_wp2_with(first
    |with_reducible refine lL aw.out.Ai Ar ?_
    |with_reducible refine lL aj.out Fw ?_
    |(go_at_call 146;refine(bt.out _ ak.out).mono ?_;rintro e bz ⟨q,rfl,bu,bd⟩;have ae:=Hq (aw.out.step bd))
    |with_reducible refine lS (Aj {s with As:=d3,log:=d} q) ae.out.Am ?_)
   refine rT2 () ae.out.Am Ar ?_;exact a1.out _ q (bu.other ae.out.Am (by decide) (by decide) (by decide) _) (ae.out.row 1 (Aj {s with As:=d3,log:=d} q) _ rfl).below
def rC (N n:Nat)(C:Nat→ByteArray)(s:Tx.St)(fs:List Fr)(w:World)(e:Ending)(w':World):Prop:=
 ∃ (s':Tx.St) (q:SP) (fs':List Fr) (k:Nat),e= .returned (.tuple #[Ag s' q,.int .i64 (k:Int),()])∧Ao w' s' q fs'∧PI N n s' fs' C∧Hk s s' fs fs'∧Mi fs fs'∧(∃ h:k<fs'.length,Full fs'[k]→fs'[k].rc=0)∧Bw w w'
theorem jN {N n:Nat}(s:Tx.St)(p:SP)(fs:List Fr)(C:Nat→ByteArray)(Q:PI N n s fs C)(w:World)(h:Ao w s p fs):
 Cq 148 #[Ag s p] w (rC N n C s fs w):=by
 have af:=Q.nf;have E:=Hq (fun W (Y:Bw w W)=>Sl (fun f=>¬ Full f) 124 #[] (enters_of Tryz.func124 Kr rfl) fs (by omega) p.F p.fc W (h.fr.below Y) (fun f _ V _=>by simpa using Un f V));have v:=Hq (fun W (Y:Bw w W)=>Zj s p fs C Q W (h.below Y));have y:=Hq (fun(x:Int) (Z:0≤x∧x≤64) (q:SP) (b:List Fr) (A:Qt fs b) (k:Nat) (hk:k<b.length) (hf:Full b[k]) W (hp:Ao W {s with hand:=x} q b)=>cT {s with hand:=x} q b C ((Q.hand x Z).marks A) k hk hf W hp);have a1:=Hq h.fn;have HP:=Hq h;have G:=Hq (fun W (c:Bw w W) (k:Nat) (hk:k<fs.length) (hf:¬ Full fs[k])=>show rC N n C s fs w (.returned (.tuple #[Ag s p,.int .i64 (k:Int),()])) W from⟨s,p,fs,k,rfl,h.below c,Q,Hk.refl s fs,Mi.refl fs,⟨hk,fun e=>absurd e hf⟩,c⟩);clear h;go_enter Tryz.func148,Tryz.ntmps148;go_upto_region 1 with fail;have B:=Hp w (Aj s p) 36 #[(),(),(),'s',(),false,(),(),(),(),"",'s',(),'s',()] 36;obtain⟨W0,H⟩:=Ee B;rw[← H]at B ⊢;clear H;have hc:=show W0.cell? ⟨w.heap.size,11,none⟩=some (.slice p.F fs.length p.fc)from by rw[Aa B.out.Ai,← a1.out];rfl
 go_upto_region 2 with(go_at_call 122;refine(E.out _ B.out.below).mono ?_;rintro e w1 ⟨kk,rfl,R,c⟩;have H1:=Hq (B.out.step c);clear c E hc B;rcases R with⟨rfl,R⟩|⟨k,hk,rfl,I,_⟩)
 ·have ag:¬ (0:Int)≤-1:=by decide
  have g:∀ i (hi:i<fs.length),Full fs[i]:=fun i hi=>Classical.byContradiction fun hn=>R fs[i] (List.getElem_mem hi) hn;have a6:=Hq g;clear g R G
  go_upto_region 5 with(first
   |with_reducible refine lL H1.out.Ai Ar ?_
   |(go_at_call 212;refine(v.out _ H1.out.below).mono ?_;rintro e w2 ⟨x,q,b,k,rfl,Z,hk,A,J,K⟩;have S:=Hq (H1.out.step K))
   |with_reducible refine lS (Aj {s with hand:=x} q) S.out.Ai ?_)
  have T:=Hq (show D6 w.heap.size w [((Aj {s with hand:=x} q),36),(#[(),(),(),'s',(),false,(),(),(),(),"",'s',(),'s',()],36)] (w2.setRow w.heap.size (Aj {s with hand:=x} q))from S.out.row 0 (Aj {s with hand:=x} q) _ rfl);have z:=Hq (J.other (t:=36) S.out.Ai (by decide) (by decide) (by decide) (Aj {s with hand:=x} q));have U:=Hq A;have a7:=A.len;have L:k<b.length:=by omega
  have a8:=Hq (show Full b[k]from by
   have e:=(Mi.marks A k hk L).2;have:=a6.out k hk;unfold Full at this ⊢;rw[e];exact this)
  have ah:¬ (k:Int)<0:=by omega
  generalize w2.setRow w.heap.size (Aj {s with hand:=x} q)=w3 at T z ⊢;clear K J H1 S A a7 hk v
  try simp only[Act.put]
  go_upto_region 8 with(first
   |with_reducible refine lL T.out.Ai Ar ?_
   |(go_at_call 181;refine(y.out x Z q b U.out k L a8.out _ z.out).mono ?_;rintro e w4 ⟨d,l,j,aa,rfl,M,m,o,r,u,O⟩;have X:=Hq (T.out.step O))
   |with_reducible refine lS (Aj {s with hand:=x,As:=d,log:=l} j) X.out.Ai ?_)
  have D:=Hq (show D6 w.heap.size w [((Aj {s with hand:=x,As:=d,log:=l} j),36),(#[(),(),(),'s',(),false,(),(),(),(),"",'s',(),'s',()],36)] (w4.setRow w.heap.size (Aj {s with hand:=x,As:=d,log:=l} j))from X.out.row 0 (Aj {s with hand:=x,As:=d,log:=l} j) _ rfl);have P:=Hq (M.other (t:=36) X.out.Ai (by decide) (by decide) (by decide) (Aj {s with hand:=x,As:=d,log:=l} j));have ad:=Hq (And.intro m (And.intro o (And.intro r u)));generalize w4.setRow w.heap.size (Aj {s with hand:=x,As:=d,log:=l} j)=w5 at D P ⊢;clear O M T X z m o r u y
  try simp only[Act.put]
  go_wp2_with(first
   |with_reducible refine lL D.out.Ai Ar ?_
   |with_reducible refine lS (Aj {s with hand:=x,As:=d,log:=l} j) D.out.Am ?_)
  refine rT3 (.int .i64 (k:Int)) () D.out.Am Ar ?_;obtain⟨m,o,r,u⟩:=ad.out;exact⟨_,j,aa,k,rfl,P.out.other (t:=36) D.out.Am (by decide) (by decide) (by decide) _,m,(show Hk s {s with hand:=x} fs b from⟨rfl,rfl,rfl,rfl,U.out.len⟩).trans o,(Mi.marks U.out).trans r U.out.len,u.imp fun _ a _=>a,(D.out.row 1 (Aj {s with hand:=x,As:=d,log:=l} j) _ rfl).below⟩
 ·have ai:(0:Int)≤(k:Int):=by omega
  clear v y;have ae:=Hq I;clear I
  go_wp2_with(first
   |with_reducible refine lL H1.out.Ai Ar ?_
   |with_reducible refine lS (Aj s p) H1.out.Am ?_)
  refine rT3 (.int .i64 (k:Int)) () H1.out.Am Ar ?_;exact G.out _ (H1.out.row 1 (Aj s p) _ rfl).below k hk ae.out
def tI (N n:Nat)(C:Nat→ByteArray)(s:Tx.St)(fs:List Fr)(pg:Nat)(w:World)(e:Ending)(w':World):Prop:=
 ∃ (s':Tx.St) (q:SP) (fs':List Fr) (k:Nat),e= .returned (.tuple #[Ag s' q,.int .i64 (k:Int),()])∧Ao w' s' q fs'∧PI N n s' fs' C∧Hk s s' fs fs'∧(∃ h:k<fs'.length,Full fs'[k]∧fs'[k].Ac=(pg:Int))∧Bw w w'
theorem Uq {N n:Nat}(s:Tx.St)(p:SP)(fs:List Fr)(C:Nat→ByteArray)(P:PI N n s fs C)(pg:Nat)(D:pg<n)(w:World)(h:Ao w s p fs):
 Cq 71 #[Ag s p,.int .i64 (pg:Int)] w (tI N n C s fs pg w):=by
 have af:=P.nf;have R:fs.length≤100:=by omega
 have E:=Hq (fun W=>Zg s p n P.zp (pg:Int) W);rw[decide_eq_true (show 0≤(pg:Int)∧(pg:Int)<(n:Int)from by omega)]at E;have S:=Hq (fun W (G:Bw w W)=>qE s p fs (by omega) (pg:Int) W (h.below G));have H:=Hq (fun hd W (G:Bw w W)=>jM s p fs C P pg D hd W (h.st.dk.below G));have I:=Hq (fun W (G:Bw w W)=>jN s p fs C P W (h.below G));have u:=Hq (fun k hk f W (G:Bw w W)=>Mj s p fs R k hk f W (h.below G));have ag:=Hq h.fn;have HP:=Hq h;have HI:=Hq P;clear h P af R;go_enter Tryz.func71,Tryz.ntmps71;go_upto_region 1 with fail;have T:=Hp w (Aj s p) 36 #[(),(),(),'s',(),false,(),(),(),(),"",'s',(),'s',()] 36;obtain⟨W0,U⟩:=Ee T;rw[← U]at T ⊢;clear U
 go_upto_region 3 with(first|with_reducible refine lL T.out.Ai Ar ?_|(go_at_call 145;refine(E.out _).mono ?_;rintro e w1 ⟨rfl,V⟩;have H1:=Hq (T.out.step V)))
 go_upto_region 4 with(first|with_reducible refine lL H1.out.Ai Ar ?_|(go_at_call 50;refine(S.out _ H1.out.below).mono ?_;rintro e J ⟨kk,rfl,hq,X⟩;have v:=Hq (H1.out.step X);clear V X T H1 E S;rcases hq with⟨rfl,hq⟩|⟨k,hk,rfl,Y,_⟩))
 ·have az:¬ (0:Int)≤-1:=by decide
  have L:=Wd hq;have ah:=Hq L;have Z:=Hq (H.out (Sj L));clear hq L u H
  go_upto_region 9 with(first|with_reducible refine lL v.out.Ai Ar ?_|(go_at_call 147;refine(Z.out _ v.out.below).mono ?_;rintro e w3 ⟨rfl,a1⟩;have H3:=Hq (v.out.step a1);clear a1))
  go_upto_region 12 with(first
   |with_reducible refine lL H3.out.Ai Ar ?_
   |(go_at_call 148;refine(I.out _ H3.out.below).mono ?_;rintro e w4 ⟨r,q,a6,k,rfl,a7,j,a,x,y,O⟩)
   |with_reducible refine sN (Aj r q) ?_)
  have m:=O.trans ((Ab w4 (.cells (Aj r q) 36)).mono O.size);have Q:=Hq (H3.out.step m);have d:=Hq (heap_alloc_new w4 (.cells (Aj r q) 36));have a8:=Hq (a7.below (Ab w4 (.cells (Aj r q) 36)));have aa:=Hq (And.intro j (And.intro a (And.intro x y)));obtain⟨g,B⟩:=ex w4.heap.size;obtain⟨w5,c⟩:=ex (w4.alloc (.cells (Aj r q) 36));rw[← B,← c]at d;rw[← c]at Q a8;rw[← c,← B];clear c B O m v H3 I Z a7 j a x y
  try simp only[Act.put]
  have u:=Hq (show ∀ W,Ao W r q a6→_ from by
   obtain⟨j,_,_,⟨z,_⟩⟩:=aa.out;exact fun W hp=>Mj r q a6 (by have:=j.nf;omega) k z ⟨(pg:Int),C pg,0,true,0⟩ W hp)
  go_wp2_with(first
   |with_reducible refine lL d.out Ar ?_
   |(go_at_call 146;refine(u.out _ a8.out).mono ?_;rintro e w6 ⟨q6,rfl,ai,aj⟩;have A:=Hq (Q.out.step aj))
   |with_reducible refine lS (Aj r q6) A.out.Am ?_)
  refine rT3 (.int .i64 (k:Int)) () A.out.Am Ar ?_;obtain⟨j,a,x,⟨z,y⟩⟩:=aa.out;refine⟨r,q6,_,k,rfl,ai.other (t:=36) A.out.Am (by decide) (by decide) (by decide) _,j.load z D y (x.none_ a.ln ah.out),⟨a.tx,a.nx,a.en,a.zf,by rw[List.length_set];exact a.ln⟩,⟨by rw[List.length_set];exact z,?_⟩,(A.out.row 1 (Aj r q6) _ rfl).below⟩;rw[List.getElem_set_self];exact⟨pY (j.nm pg D),rfl⟩
 ·have b0:(0:Int)≤(k:Int):=by omega
  have b1:(k:Int)<(fs.length:Int):=by omega
  have hc:=show J.cell? ⟨w.heap.size,11,none⟩=some (.slice p.F fs.length p.fc)from(by rw[Aa v.out.Ai,← ag.out];rfl);obtain⟨b,off,ad,ak,an,l⟩:=Bu Dh (HP.out.fr.below v.out.below) hk;obtain⟨f,o⟩:=ex (fs[k]);have ao:=Hq o;rw[← o]at l;rw[ad]at hc;have aq:=Hq (show J.rangeAt b (off+k*5) (Ib f)from l);have ar:=Hq Y;clear l ak an ad o Y H I
  go_upto_region 6 with(first
   |(refine Cw Kr fun K hK=>wp_load_mid 116 (.tmp 27) rfl b (off+k*5) rfl (Ib f) _ aq.out Fw Kr Kr (hK _ _ ?_))
   |with_reducible refine sN (Er f) ?_)
  have m:=Ab J (.cells (Er f) 116);have Q:=Hq (v.out.step m);have d:=Hq (heap_alloc_new J (.cells (Er f) 116));have au:w.heap.size+1<J.heap.size:=v.out.lt (i:=1) (by simp);obtain⟨g,B⟩:=ex J.heap.size;obtain⟨w5,c⟩:=ex (J.alloc (.cells (Er f) 116));rw[← B,← c]at d;rw[← c]at Q;rw[← c,← B];rw[← B]at au;clear c B m v hc
  try simp only[Act.put]
  have av:=show w5.cell? ⟨g,3,none⟩=some (.bool f.mark)from(by rw[Aa d.out];rfl);have aw:=Ap d.out 3;go_upto_region 7 with fail;have ae:=Hq (show(w5.setCell ⟨g,3,none⟩ (.bool true)).heap[g]? =some (.cells (Er {f with mark:=true}) 116 (0,0))from by have:=Cb 3 d.out (.bool true);simpa using this);have A:=Hq (Q.out.under (M:=g) (by simp;omega) ((Below.refl _ w5).setCell (p:=⟨g,3,none⟩) (Nat.le_refl _) (.bool true)));generalize w5.setCell ⟨g,3,none⟩ (.bool true)=w6 at ae A ⊢;clear av aw d Q
  go_wp2_with(first
   |with_reducible refine lL A.out.Ai Ar ?_
   |with_reducible refine lL ae.out Fw ?_
   |(go_at_call 146;refine(u.out k hk {f with mark:=true} _ A.out.below).mono ?_;rintro e w7 ⟨q,rfl,ax,ay⟩;have H7:=Hq (A.out.step ay))
   |with_reducible refine lS (Aj s q) H7.out.Am ?_)
  refine rT3 (.int .i64 (k:Int)) () H7.out.Am Ar ?_;have o:=ao.out;subst o;refine⟨s,q,_,k,rfl,ax.other (t:=36) H7.out.Am (by decide) (by decide) (by decide) _,HI.out.mark hk true,⟨rfl,rfl,rfl,rfl,List.length_set⟩,⟨by rw[List.length_set];exact hk,?_⟩,(H7.out.row 1 (Aj s q) _ rfl).below⟩;rw[List.getElem_set_self];exact ar.out
def nW (N n:Nat)(C:Nat→ByteArray)(s:Tx.St)(fs:List Fr)(pg:Nat)(w:World)(e:Ending)(w':World):Prop:=
 ∃ (s':Tx.St) (q:SP) (fs':List Fr),e= .returned (.tuple #[Ag s' q,.string (C pg),()])∧Ao w' s' q fs'∧PI N n s' fs' C∧Hk s s' fs fs'∧Bw w w'
theorem Lw {N n:Nat}(s:Tx.St)(p:SP)(fs:List Fr)(C:Nat→ByteArray)(hI:PI N n s fs C)(pg:Nat)(a8:pg<n)(w:World)(h:Ao w s p fs):
 Cq 19 #[Ag s p,.int .i64 (pg:Int)] w (nW N n C s fs pg w):=by
 have I:=Hq (fun W (hb:Bw w W)=>Uq s p fs C hI pg a8 W (h.below hb));clear h hI;go_enter Tryz.func19,Tryz.ntmps19;go_upto_region 1 with fail;have A:=Hp w (Aj s p) 36 #[(),(),(),'s',(),false,(),(),(),(),"",'s',(),'s',()] 36;obtain⟨W0,J⟩:=Ee A;rw[← J]at A ⊢;clear J
 go_upto_region 2 with(first
  |with_reducible refine lL A.out.Ai Ar ?_
  |(go_at_call 71;refine(I.out _ A.out.below).mono ?_;rintro e G ⟨j,q,c,k,rfl,B,D,L,⟨M,O,P⟩,o⟩)
  |with_reducible refine sN (Aj j q) ?_)
 have Q:=o.trans ((Ab G (.cells (Aj j q) 36)).mono o.size);have H5:=Hq (A.out.step Q);have R:=Hq (heap_alloc_new G (.cells (Aj j q) 36));have r:=Hq (B.below (Ab G (.cells (Aj j q) 36)));have aa:w.heap.size+1<G.heap.size:=Nat.lt_of_lt_of_le (A.out.lt (i:=1) (by simp)) o.size;obtain⟨b,off,E,ad,ae,l⟩:=Bu Dh r.out.fr M;have F:=r.out.ft _ E;have T:=(D.bytes M O P).2;have U:=l 1 (.string (C pg)) (by rw[← T];rfl);have d:=Hq B.fn;have V:=Hq (And.intro D L);have aj:(0:Int)≤(k:Int):=by omega
 have ak:(k:Int)<(c.length:Int):=by omega
 obtain⟨g,hg⟩:=ex G.heap.size;obtain⟨w5,z⟩:=ex (G.alloc (.cells (Aj j q) 36));rw[← hg,← z]at R;rw[← z]at H5 r U F;rw[← z,← hg];rw[← hg]at aa;have f:=Hq E;have X:b≠w.heap.size+1:=fun e=>by
  obtain⟨_,cs,fr,H⟩:=F;have h2:=H5.out.Am;rw[show(⟨b,off,none⟩:Addr).block=b from rfl,e,h2]at H
  injection H with H
  injection H with _ H
  exact absurd H (by decide)
 have af:=Hq X;clear z hg o Q A I B D L O P l ad ae E T F X
 try simp only[Act.put]
 go_upto_region 4 with fail
 go_cut [5,6] (fun x y wc=>x= .string (C pg)∧y= .int .i64 0∧wc.heap[w.heap.size+1]? =some (.cells (Aj j q) 36 (0,0))∧Ao wc j q c∧Bw w wc)
 case first=>
  have hSn:w5.drew.heap[g]? =some (.cells (Aj j q) 36 (0,0))∧w5.drew.cell? ⟨b,off+k*5+1,none⟩=some (.string (C pg)):=⟨R.out,U⟩;have Y:=H5.out.drew;have Z:=r.out.below (Below.refl _ w5).drew;refine Gd (S:=(fun u=>u.heap[g]? =some (.cells (Aj j q) 36 (0,0))∧u.cell? ⟨b,off+k*5+1,none⟩=some (.string (C pg)))) (fun m=>?_);generalize w5.drew=w9 at hSn Y Z ⊢;refine Nk 0 Ar ?_;refine Au 1 ?_ (hy:=by
   intro u a;have hcl0:=show u.cell? ⟨g,11,none⟩=some (.slice (some ⟨b,off,none⟩) c.length q.fc)from(by rw[Aa a.1,← f.out,← d.out];rfl);have hcl1:=a.2;clear a;go_simp;(try with_reducible rfl))
  refine Au 2 ?_ (hy:=by
   intro u a;have hcl0:=show u.cell? ⟨g,11,none⟩=some (.slice (some ⟨b,off,none⟩) c.length q.fc)from(by rw[Aa a.1,← f.out,← d.out];rfl);have hcl1:=a.2;clear a;go_simp;(try with_reducible rfl))
  refine Au 3 ?_ (hy:=by
   intro u a;have hcl0:=show u.cell? ⟨g,11,none⟩=some (.slice (some ⟨b,off,none⟩) c.length q.fc)from(by rw[Aa a.1,← f.out,← d.out];rfl);have hcl1:=a.2;clear a;go_simp;(try with_reducible rfl))
  refine Au 4 ?_ (hy:=by
   intro u a;have hcl0:=show u.cell? ⟨g,11,none⟩=some (.slice (some ⟨b,off,none⟩) c.length q.fc)from(by rw[Aa a.1,← f.out,← d.out];rfl);have hcl1:=a.2;clear a;go_simp;(try with_reducible rfl))
  refine Au 5 ?_ (hy:=by
   intro u a;have hcl0:=show u.cell? ⟨g,11,none⟩=some (.slice (some ⟨b,off,none⟩) c.length q.fc)from(by rw[Aa a.1,← f.out,← d.out];rfl);have hcl1:=a.2;clear a;go_simp;(try with_reducible rfl))
  refine Au 6 ?_ (hy:=by
   intro u a;have hcl0:=show u.cell? ⟨g,11,none⟩=some (.slice (some ⟨b,off,none⟩) c.length q.fc)from(by rw[Aa a.1,← f.out,← d.out];rfl);have hcl1:=a.2;clear a;go_simp;(try with_reducible rfl))
  refine Au 7 ?_ (hy:=by
   intro u a;have hcl0:=show u.cell? ⟨g,11,none⟩=some (.slice (some ⟨b,off,none⟩) c.length q.fc)from(by rw[Aa a.1,← f.out,← d.out];rfl);have hcl1:=a.2;clear a;go_simp;(try with_reducible rfl))
  refine Ch 8 fun K hK=>?_;refine Ay (by rfl) ?_;refine sW (Aj j q) Y.Am ?_;have a1:=Y.row 1 (Aj j q) _ rfl;have a6:=Z.other (t:=36) Y.Am (by decide) (by decide) (by decide) (Aj j q);have a7:=And.intro ((Ah _ _ (Aj j q) _ (show g≠w.heap.size+1 by omega)).trans hSn.1) (Ou (cs:=(Aj j q)) hSn.2 Y.Am af.out);clear hSn;have hSn:=a7;clear a7;refine Bq hK (fun m=>?_);clear hK K;refine Au 9 ?_ (hy:=by
   intro u a;have hcl0:=show u.cell? ⟨g,11,none⟩=some (.slice (some ⟨b,off,none⟩) c.length q.fc)from(by rw[Aa a.1,← f.out,← d.out];rfl);have hcl1:=a.2;clear a;go_simp;(try with_reducible rfl))
  refine Au 10 ?_ (hy:=by
   intro u a;have hcl0:=show u.cell? ⟨g,11,none⟩=some (.slice (some ⟨b,off,none⟩) c.length q.fc)from(by rw[Aa a.1,← f.out,← d.out];rfl);have hcl1:=a.2;clear a;go_simp;(try with_reducible rfl))
  refine wpAnyH_done Kr ?_ _;clear m;go_wp2_with fail;go_meet
  case rel=>exact⟨rfl,rfl,a1.Am,a6,a1.below⟩
 case rest=>
  obtain⟨rfl,rfl,ag,ah,ai⟩:=hcut;go_wp2_with fail;refine bodyPost_ret (v:=.tuple #[.agg (Aj j q),.string (C pg),()]) (Mr rfl _ _ rfl (Ci ag Ar Kr Kr) rfl rfl) rfl ?_;exact⟨j,q,c,rfl,ah,V.out.1,V.out.2,ai⟩
theorem P9 (s:Tx.St)(p:SP)(b:Tx.Y4 s)(r:Rc.Rec)(o:r.txns=[])(q:r.dirty=[])(w:World):
 Cr 179 #[Ag s p,.agg (Dz r (.slice none 0 0) (.slice none 0 0))] w (.tuple #[Ag {s with log:=(Lg.Aw s.log r).1} p,.int .i64 (Lg.Aw s.log r).2.1,.int .i64 (Lg.Aw s.log r).2.2]):=by
 have t:=Hq (fun W=>show Cq 201 #[Kv s.log,.agg (Dz r (.slice none 0 0) (.slice none 0 0))] W (V1 (Lg.Aw s.log r) W)from by
  have u:=R2 s.log b.e0 (by have:=b.e1;omega) (by have:=b.n0;omega) (by have:=b.n1;omega) (by have:=b.t0;have:=b.e1;omega) r none none 0 0 W (R7 r W o q);simp only[o,q,List.length_nil]at u;exact u)
 generalize Lg.Aw s.log r=x at t ⊢;go_enter Tryz.func179,Tryz.ntmps179;go_upto_region 1 with fail;have c:=Q6 w (Aj s p) 36 (Dz r (.slice none 0 0) (.slice none 0 0)) 88 #[(),(),(),'s',(),false,(),(),(),(),"",'s',(),'s',()] 36;obtain⟨y,d⟩:=Ee c;rw[← d]at c ⊢;clear d
 go_upto_region 2 with(first
  |with_reducible refine lP #[s.log.from_,s.log.n,s.log.end_,s.log.safe,s.log.tail] c.out.Ai Fi ?_
  |with_reducible refine lL c.out.Am Da ?_
  |(go_at_call 201;(with_reducible refine(t.out _).mono ?_);rintro e f ⟨rfl,h⟩;have H1:=Hq (c.out.step h);clear h)
  |with_reducible refine sN #[x.1.from_,x.1.n,x.1.end_,x.1.safe,x.1.tail] ?_)
 have l:=Hq (H1.out.step (Ab f (.cells #[x.1.from_,x.1.n,x.1.end_,x.1.safe,x.1.tail] 30)));have v:=Hq (heap_alloc_new f (.cells #[x.1.from_,x.1.n,x.1.end_,x.1.safe,x.1.tail] 30));have m:w.heap.size+2<f.heap.size:=H1.out.lt (i:=2) (by simp);obtain⟨g,k⟩:=ex f.heap.size;obtain⟨z,a⟩:=ex (f.alloc (.cells #[x.1.from_,x.1.n,x.1.end_,x.1.safe,x.1.tail] 30));rw[← k,← a]at v;rw[← a]at l;rw[← a,← k];rw[← k]at m;clear a k c H1
 try simp only[Act.put]
 go_upto_region 3 with(first
  |with_reducible refine lL v.out Fi ?_
  |with_reducible refine lU #[x.1.from_,x.1.n,x.1.end_,x.1.safe,x.1.tail] (Aj {s with log:=x.1} p) l.out.Ai ?_)
 have j:=Hq (l.out.row 0 (Aj {s with log:=x.1} p) _ rfl);have A:=j.out.Ai
 go_wp2_with(first
  |with_reducible refine lL j.out.Ai Ar ?_
  |with_reducible refine lS (Aj {s with log:=x.1} p) j.out.Cj ?_)
 refine rT3 (x.2.1) (x.2.2) j.out.Cj Ar ?_;exact⟨rfl,(j.out.row 2 (Aj {s with log:=x.1} p) _ rfl).below⟩
end Go.Proofs.YtmldoihahndcgaaGreatDoor
