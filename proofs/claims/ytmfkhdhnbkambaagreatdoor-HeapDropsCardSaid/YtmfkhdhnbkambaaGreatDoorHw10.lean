import Derived.Test.YtmfkhdhnbkambaaGreatDoorHw00
import Derived.Test.YtmfkhdhnbkambaaGreatDoorHw08
import Derived.Test.YtmfkhdhnbkambaaGreatDoorHw09
import Derived.Test.YtmfkhdhnbkambaaGreatDoorHw06
import Derived.Test.YtmfkhdhnbkambaaGreatDoorHw02
set_option maxRecDepth 100000
set_option maxHeartbeats 16000000
set_option linter.unusedSimpArgs false
namespace Go.Proofs.YtmfkhdhnbkambaaGreatDoor
open Go.RowKit Sc
theorem PI.tF {N n:Nat}{s:Tx.St}{fs:List Fr}{C:Nat→ByteArray}(h:PI N n s fs C):Tx.Z7 s:=by
 obtain⟨b,c,a⟩:=h.pw.inv;exact Tx.sM a (by have:=h.n1.2.2;omega)
def gK (N n:Nat)(C:Nat→ByteArray)(s:Tx.St)(fs:List Fr)(k:Nat)(w:World)(e:Ending)(w':World):Prop:=
 ∃ (d:Lg.Dk) (l:Lg.Lo) (q:SP) (fs':List Fr),e= .returned (.tuple #[Ah {s with Az:=d,log:=l} q,()])∧Am w' {s with Az:=d,log:=l} q fs'∧PI N n {s with Az:=d,log:=l} fs' C∧Hk s {s with Az:=d,log:=l} fs fs'∧Ng fs fs'∧(∃ h:k<fs'.length,fs'[k].rc=0)∧Bw w w'
theorem dW {N n:Nat}(s:Tx.St)(p:SP)(fs:List Fr)(C:Nat→ByteArray)(hI:PI N n s fs C)(k:Nat)(hk:k<fs.length)(m:Full fs[k])(w:World)(h:Am w s p fs):
 Cq 82 #[Ah s p,.int .i64 (k:Int)] w (gK N n C s fs k w):=by
 have HP:=Hq h;have bd:=Hq h.fn;have bf:fs.length≤100:=by have:=hI.nf;omega
 have P:=hI.tF;have aw:=hI.pw;have al:=Hq (fun W (J:Bw w W)=>jN s.Az (by rw[aw.left];decide) p.A p.c s.log P.e0 (by have:=P.e1;omega) (by have:=P.n0;omega) (by have:=P.n1;omega) (by have:=P.f;omega) (by have:=P.f;omega) (by have:=P.t0;have:=P.e1;omega) P.t0 P.t1 W (h.st.dk.below J));obtain⟨d2,d,ef,l,ax⟩:=hI.force;rw[ef]at al;clear ef P;obtain⟨pg,Y,R,bg⟩:=hI.fr.at_ k hk m;have Z:=Hq (fun W (J:Bw w W) (bh:fs[k].rc=0)=>show gK N n C s fs k w (.returned (.tuple #[Ah s p,()])) W from⟨s.Az,s.log,p,fs,rfl,h.below J,hI,Hk.refl s fs,Ng.refl fs,⟨hk,bh⟩,J⟩);have a1:=Hq (fun(w':World) (q:SP) (hp:Am w' {s with Az:=Nr d2 (1+N+4*pg) (Eh (C pg)),log:=d} q (fs.set k {fs[k]with rc:=0})) (J:Bw w w')=>show gK N n C s fs k w (.returned (.tuple #[Ah {s with Az:=Nr d2 (1+N+4*pg) (Eh (C pg)),log:=d} q,()])) w' from⟨_,_,q,_,rfl,hp,l.flush hk Y m R,⟨rfl,rfl,ax,rfl,List.length_set⟩,Ng.set fs k hk _ rfl rfl,⟨by rw[List.length_set];exact hk,by rw[List.getElem_set_self]⟩,J⟩);have ay:=Hq (fun W=>Ms {s with Az:=d2,log:=d} p N pg l.zl l.n1.2.2 (by have:=l.n1;omega) W);have an:=Hq (fun A c W=>Ms {s with Az:=d2,log:=d} {p with A:=A,c:=c} N pg l.zl l.n1.2.2 (by have:=l.n1;omega) W);have ao:=Hq (fun W=>iP (C pg) (by have:=(l.nm pg Y).size;omega) W);have T:=(Gv (l.nm pg Y).is).2.2.2;have U:=Hq (fun A c W (hr:Dd W d2 A c) (ht:De 0 W 9 A)=>Tp d2 l.pw A c (1+N+4*pg) (by omega) (by omega) (by have:=l.n1;omega) (Eh (C pg)) T W hr ht);generalize Nr d2 (1+N+4*pg) (Eh (C pg))=d3 at a1 U;generalize Eh (C pg)=z at ao U;generalize 1+N+4*pg=at_ at ay an U;generalize gK N n C s fs k w=Q at Z a1 ⊢;have aq:=hI.bytes hk m R;obtain⟨b,off,az,bj,ar,H⟩:=Bz Eb h.fr hk;generalize bk:fs[k]=f at H Z a1 aq R;have bl:=Hq ar;have b0:=Hq (fun u (hu:Bw w u)=>show u.rangeAt b (off+k*5) (Kw f)from fun i v hv=>by rw[hu.cell (p:=⟨b,off+k*5+i,none⟩) ar];exact H i v hv);have b1:=Hq az;have bu:(0:Int)≤(k:Int):=by omega
 have bw:(k:Int)<(fs.length:Int):=by omega
 have B:=Hq R;have D:=Hq aq.2;clear h hI l ax bk H bj ar az aw Y R bg m T aq ay;go_enter Tryz.func82,Tryz.ntmps82;go_upto_region 1 with fail;have H0:=Lx w (Ak s p) 36 #[(),(),(),"s",(),false,(),(),(),(),"","s",(),"s",()] 36;obtain⟨W0,b2⟩:=E0 H0;rw[← b2]at H0 ⊢;clear b2;have hc:=show W0.cell? ⟨w.heap.size,11,none⟩=some (.slice (some ⟨b,off,none⟩) fs.length p.fc)from by rw[Aa H0.out.Ao,← b1.out,← bd.out];rfl
 have b3:=Hq (show W0.rangeAt b (off+k*5) (Kw f)from b0.out W0 H0.out.below)
 go_upto_region 2 with(first
  |(refine Da Kr fun K L=>wp_load_mid 108 (.tmp 12) rfl b (off+k*5) rfl (Kw f) _ b3.out Gy Kr Kr (L _ _ ?_))
  |with_reducible refine sN (Fs f) ?_)
 have H1:=Hq (H0.out.step (Ac W0 (.cells (Fs f) 108)));have HG:=Hq (heap_alloc_new W0 (.cells (Fs f) 108));have bm:w.heap.size+1<W0.heap.size:=H0.out.lt (i:=1) (by simp);obtain⟨g,hg⟩:=ex W0.heap.size;obtain⟨w1,a6⟩:=ex (W0.alloc (.cells (Fs f) 108));rw[← hg,← a6]at HG;rw[← a6]at H1;rw[← a6,← hg];rw[← hg]at bm;clear a6 hg H0 b3 hc b0
 try simp only[Act.put]
 have bn:=show w1.cell? ⟨g,4,none⟩=some (.int .i64 f.rc)from by rw[Aa HG.out];rfl
 by_cases V:f.rc=0
 ·have b4:(f.rc==0)=true:=by rw[V];rfl
  have bo:=Hq V;clear V
  go_wp2_with(first|with_reducible refine lL H1.out.Ao Ar ?_|with_reducible refine lS (Ak s p) H1.out.Aq ?_)
  refine rT2 () H1.out.Aq Ar ?_;exact Z.out _ (H1.out.row 1 (Ak s p) _ rfl).below bo.out
 ·have b4:(f.rc==0)=false:=beq_eq_false_iff_ne.2 V
  clear V Z
  go_upto_region 6 with(first
   |with_reducible refine lP #[.slice p.A s.Az.sectors.length p.c,s.Az.left,s.Az.down] H1.out.Ao Fy ?_
   |with_reducible refine lP #[s.log.from_,s.log.n,s.log.end_,s.log.safe,s.log.tail] H1.out.Ao Jj ?_
   |(go_at_call 129;refine(al.out _ H1.out.below).mono ?_;rintro e w2 ⟨A2,c2,rfl,b5,b6,a7⟩;have H2:=Hq (H1.out.step a7);have H3:=Hq (show Eg w.heap.size w [((Ak {s with Az:=d2} {p with A:=A2,c:=c2}),36),(#[(),(),(),"s",(),false,(),(),(),(),"","s",(),"s",()],36)] (w2.setRow w.heap.size (Ak {s with Az:=d2} {p with A:=A2,c:=c2}))from H2.out.row 0 (Ak {s with Az:=d2} {p with A:=A2,c:=c2}) _ rfl))
   |with_reducible refine lU #[.slice A2 d2.sectors.length c2,d2.left,d2.down] (Ak {s with Az:=d2} {p with A:=A2,c:=c2}) H2.out.Ao ?_
   |with_reducible refine lU #[d.from_,d.n,d.end_,d.safe,d.tail] (Ak {s with Az:=d2,log:=d} {p with A:=A2,c:=c2}) H3.out.Ao ?_)
  have af:De 0 w2 9 A2:=b6.elim (fun e=>by rw[e];exact HP.out.st.dt.below H2.out.below) (fun e=>e.mono (Nat.zero_le _));have T:Below w.heap.size w2 ((w2.setRow w.heap.size (Ak {s with Az:=d2} {p with A:=A2,c:=c2})).setRow w.heap.size (Ak {s with Az:=d2,log:=d} {p with A:=A2,c:=c2})):=Gx (Nat.le_refl _) (Gx (Nat.le_refl _) (show Below w.heap.size w2 w2 from⟨rfl,rfl,rfl,Nat.le_refl _,fun _ _=>rfl⟩) (Ak {s with Az:=d2} {p with A:=A2,c:=c2})) (Ak {s with Az:=d2,log:=d} {p with A:=A2,c:=c2});have H4:=Hq (show Eg w.heap.size w [((Ak {s with Az:=d2,log:=d} {p with A:=A2,c:=c2}),36),(#[(),(),(),"s",(),false,(),(),(),(),"","s",(),"s",()],36)] ((w2.setRow w.heap.size (Ak {s with Az:=d2} {p with A:=A2,c:=c2})).setRow w.heap.size (Ak {s with Az:=d2,log:=d} {p with A:=A2,c:=c2}))from H3.out.row 0 (Ak {s with Az:=d2,log:=d} {p with A:=A2,c:=c2}) _ rfl);have au:=Hq ((Ae _ _ (Ak {s with Az:=d2,log:=d} {p with A:=A2,c:=c2}) _ (show g≠w.heap.size by omega)).trans ((Ae _ _ (Ak {s with Az:=d2} {p with A:=A2,c:=c2}) _ (show g≠w.heap.size by omega)).trans (Af HG.out a7)));have b7:=Hq ((HP.out.below H1.out.below).Az a7 d b5 af);have X:=Hq (((b7.out.other (t:=36) H2.out.Ao (by decide) (by decide) (by decide) (Ak {s with Az:=d2} {p with A:=A2,c:=c2}))).other (t:=36) H3.out.Ao (by decide) (by decide) (by decide) (Ak {s with Az:=d2,log:=d} {p with A:=A2,c:=c2}));generalize (w2.setRow w.heap.size (Ak {s with Az:=d2} {p with A:=A2,c:=c2})).setRow w.heap.size (Ak {s with Az:=d2,log:=d} {p with A:=A2,c:=c2})=w3 at H4 au X T ⊢;clear b5 b6 af T a7 H1 H2 H3 HG al HP b7 bn b4
  try simp only[Act.put]
  go_upto_region 8 with fail
  go_cut [7] (fun x wc=>x= .int .i64 0∧∃ (O:Option Addr) (c3:Nat),Eg w.heap.size w [((Ak {s with Az:=d3,log:=d} {p with A:=O,c:=c3}),36),(#[(),(),(),"s",(),false,(),(),(),(),"","s",(),"s",()],36)] wc∧wc.heap[g]? =some (.cells (Fs f) 108 (0,0))∧Am wc {s with Az:=d3,log:=d} {p with A:=O,c:=c3} fs)
  case first=>
   have a8:=Hq (fun(u:World) (hu:Bw w3 u)=>show u.heap[w.heap.size]? =some (.cells (Ak {s with Az:=d2,log:=d} {p with A:=A2,c:=c2}) 36 (0,0))∧u.heap[g]? =some (.cells (Fs f) 108 (0,0))from⟨Af H4.out.Ao hu,Af au.out hu⟩);have y:Bw w3 w3.drew:=(Below.refl _ w3).drew;have hSn:=a8.out _ y;refine Fu (S:=(fun u=>u.heap[w.heap.size]? =some (.cells (Ak {s with Az:=d2,log:=d} {p with A:=A2,c:=c2}) 36 (0,0))∧u.heap[g]? =some (.cells (Fs f) 108 (0,0)))) 14 Kr ?_ (fun I=>?_)
   ·exact hSn
   generalize w3.drew=w8 at y hSn ⊢;refine Aw (i:=0) (oi:={dst:=some 34,op:=_,type:=_,pos:=_,after:=_,guard:=_}) (v:=?_) (p:=[14]) rfl Kr Kr Kr Kr Kr Kr (fun _ _ _ h=>h) (Or.inl ⟨by rfl,?_⟩) (by assumption) ?_
   rotate_left
   ·intro u a;have hcl0:=show u.cell? ⟨g,0,none⟩=some (.int .i64 (pg:Int))from(by rw[Aa a.2,← B.out];rfl);have hcl1:=show u.cell? ⟨g,1,none⟩=some (.string (C pg))from(by rw[Aa a.2,← D.out];rfl)
    clear a;go_simp;(try with_reducible rfl)
   try simp only[Act.put,pS]
   refine Aw (i:=1) (oi:={dst:=some 35,op:=_,type:=_,pos:=_,after:=_,guard:=_}) (v:=.agg #[.slice A2 d2.sectors.length c2,d2.left,d2.down]) (p:=[14]) rfl Kr Kr Kr Kr Kr Kr (fun _ _ _ h=>h) (yieldsIf_load_mid (by rfl) 28 (.tmp 34) rfl w.heap.size 3 (by rfl) [.slice A2 d2.sectors.length c2,.int .i64 d2.left,.bool d2.down] _ (fun u hu j v hj=>by rw[Aa hu.1];rcases j with _|_|_|j<;>simp at hj ⊢<;>exact hj) Fy Kr Kr) (by assumption) ?_
   try simp only[Act.put,pS]
   refine zG 2 [14] Ar ?_;refine Aw (i:=3) (oi:={dst:=some 37,op:=_,type:=_,pos:=_,after:=_,guard:=_}) (v:=?_) (p:=[14]) rfl Kr Kr Kr Kr Kr Kr (fun _ _ _ h=>h) (Or.inl ⟨by rfl,?_⟩) (by assumption) ?_
   rotate_left
   ·intro u a;have hcl0:=show u.cell? ⟨g,0,none⟩=some (.int .i64 (pg:Int))from(by rw[Aa a.2,← B.out];rfl);have hcl1:=show u.cell? ⟨g,1,none⟩=some (.string (C pg))from(by rw[Aa a.2,← D.out];rfl)
    clear a;go_simp;(try with_reducible rfl)
   try simp only[Act.put,pS]
   refine Aw (i:=4) (oi:={dst:=some 38,op:=_,type:=_,pos:=_,after:=_,guard:=_}) (v:=?_) (p:=[14]) rfl Kr Kr Kr Kr Kr Kr (fun _ _ _ h=>h) (Or.inl ⟨by rfl,?_⟩) (by assumption) ?_
   rotate_left
   ·intro u a;have hcl0:=show u.cell? ⟨g,0,none⟩=some (.int .i64 (pg:Int))from(by rw[Aa a.2,← B.out];rfl);have hcl1:=show u.cell? ⟨g,1,none⟩=some (.string (C pg))from(by rw[Aa a.2,← D.out];rfl)
    clear a;go_simp;(try with_reducible rfl)
   try simp only[Act.put,pS]
   refine Aw (i:=6) (oi:={dst:=some 40,op:=_,type:=_,pos:=_,after:=_,guard:=_}) (v:=?_) (p:=[14]) rfl Kr Kr Kr Kr Kr Kr (fun _ _ _ h=>h) (Or.inl ⟨by rfl,?_⟩) (by assumption) ?_
   rotate_left
   ·intro u a;have hcl0:=show u.cell? ⟨g,0,none⟩=some (.int .i64 (pg:Int))from(by rw[Aa a.2,← B.out];rfl);have hcl1:=show u.cell? ⟨g,1,none⟩=some (.string (C pg))from(by rw[Aa a.2,← D.out];rfl)
    clear a;go_simp;(try with_reducible rfl)
   try simp only[Act.put,pS]
   refine Aw (i:=7) (oi:={dst:=some 41,op:=_,type:=_,pos:=_,after:=_,guard:=_}) (v:=?_) (p:=[14]) rfl Kr Kr Kr Kr Kr Kr (fun _ _ _ h=>h) (Or.inl ⟨by rfl,?_⟩) (by assumption) ?_
   rotate_left
   ·intro u a;have hcl0:=show u.cell? ⟨g,0,none⟩=some (.int .i64 (pg:Int))from(by rw[Aa a.2,← B.out];rfl);have hcl1:=show u.cell? ⟨g,1,none⟩=some (.string (C pg))from(by rw[Aa a.2,← D.out];rfl)
    clear a;go_simp;(try with_reducible rfl)
   try simp only[Act.put,pS]
   refine Bo (rs:=[5]) Kr (by simp) ?_;refine(Au.cons (o:={dst:=some 39,op:=_,type:=_,pos:=_,after:=_,guard:=_}) rfl (fun K L=>?_) Au.nil)
   go_simp
   (refine(an.out A2 c2 _).mono ?_);rintro e w9 ⟨rfl,r⟩;have E:=Ag y r;clear y hSn r;have y:=E;clear E;have hSn:=a8.out _ y
   refine Cw L (fun I=>?_);clear L K;refine Bo (rs:=[8]) Kr (by simp) ?_;refine(Au.cons (o:={dst:=some 42,op:=_,type:=_,pos:=_,after:=_,guard:=_}) rfl (fun K L=>?_) Au.nil)
   go_simp
   (refine(ao.out _).mono ?_);rintro e w9 ⟨rfl,r⟩;have E:=Ag y r;clear y hSn r;have y:=E;clear E;have hSn:=a8.out _ y
   refine Cw L (fun I=>?_);clear L K;refine Bo (rs:=[9]) Kr (by simp) ?_;refine(Au.cons (o:={dst:=some 43,op:=_,type:=_,pos:=_,after:=_,guard:=_}) rfl (fun K L=>?_) Au.nil)
   go_simp
   (refine(U.out A2 c2 _ (X.out.below y).st.dk (X.out.below y).st.dt).mono ?_);rintro e w9 ⟨O,c3,rfl,b8,b9,r⟩;have bp:=(X.out.below y).Az r d b8 b9;clear b8 b9;have E:=Ag y r;clear y hSn r;have y:=E;clear E;have hSn:=a8.out _ y
   refine Cw L (fun I=>?_);clear L K;refine Aw (i:=10) (oi:={dst:=some 33,op:=_,type:=_,pos:=_,after:=_,guard:=_}) (v:=?_) (p:=[14]) rfl Kr Kr Kr Kr Kr Kr (fun _ _ _ h=>h) (Or.inl ⟨by rfl,?_⟩) (by assumption) ?_
   rotate_left
   ·intro u a;have hcl0:=show u.cell? ⟨g,0,none⟩=some (.int .i64 (pg:Int))from(by rw[Aa a.2,← B.out];rfl);have hcl1:=show u.cell? ⟨g,1,none⟩=some (.string (C pg))from(by rw[Aa a.2,← D.out];rfl)
    clear a;go_simp;(try with_reducible rfl)
   try simp only[Act.put,pS]
   refine Aw (i:=11) (oi:={dst:=some 44,op:=_,type:=_,pos:=_,after:=_,guard:=_}) (v:=?_) (p:=[14]) rfl Kr Kr Kr Kr Kr Kr (fun _ _ _ h=>h) (Or.inl ⟨by rfl,?_⟩) (by assumption) ?_
   rotate_left
   ·intro u a;have hcl0:=show u.cell? ⟨g,0,none⟩=some (.int .i64 (pg:Int))from(by rw[Aa a.2,← B.out];rfl);have hcl1:=show u.cell? ⟨g,1,none⟩=some (.string (C pg))from(by rw[Aa a.2,← D.out];rfl)
    clear a;go_simp;(try with_reducible rfl)
   try simp only[Act.put,pS]
   refine Dn (i:=12) (oi:={dst:=some 45,op:=_,type:=_,pos:=_,after:=_,guard:=_}) (v:=?_) rfl Kr Kr Kr Kr (fun _ _ _ h=>h) (Or.inl ⟨by rfl,?_⟩) (fun _=>by assumption) ?_
   rotate_left
   ·intro u a;clear a;go_simp;(try with_reducible rfl)
   try simp only[Act.put,pS]
   refine Aw (i:=13) (oi:={dst:=some 46,op:=_,type:=_,pos:=_,after:=_,guard:=_}) (v:=?_) (p:=[14]) rfl Kr Kr Kr Kr Kr Kr (fun _ _ _ h=>h) (Or.inl ⟨by rfl,?_⟩) (by assumption) ?_
   rotate_left
   ·intro u a;have hcl0:=show u.cell? ⟨g,0,none⟩=some (.int .i64 (pg:Int))from(by rw[Aa a.2,← B.out];rfl);have hcl1:=show u.cell? ⟨g,1,none⟩=some (.string (C pg))from(by rw[Aa a.2,← D.out];rfl)
    clear a;go_simp;(try with_reducible rfl)
   try simp only[Act.put,pS]
   refine Bo (rs:=[14]) Kr (by simp) ?_;refine(Au.last (o:={dst:=none,op:=_,type:=_,pos:=_,after:=_,guard:=_}) rfl Kr (fun K L=>?_) Au.nil);refine Cc (by rfl) ?_;refine xE 28 (.tmp 46) (.tmp 44) rfl w.heap.size 3 #[.slice O d3.sectors.length c3,d3.left,d3.down] (Ak {s with Az:=d2,log:=d} {p with A:=A2,c:=c2}) (Ak {s with Az:=d3,log:=d} {p with A:=O,c:=c3}) _ rfl rfl hSn.1 Kr Kr Kr Kr ?_;refine L.out _ _ ?_;clear L K
   try simp only[Act.put]
   refine Dn (i:=15) (oi:={dst:=some 7,op:=_,type:=_,pos:=_,after:=_,guard:=_}) (v:=?_) rfl Kr Kr Kr Kr (fun _ _ _ h=>h) (Or.inl ⟨by rfl,?_⟩) (fun h=>absurd h (by decide)) ?_
   rotate_left
   ·intro u a;clear a;go_simp;(try with_reducible rfl)
   try simp only[Act.put,pS]
   refine Ft Kr ?_ _;go_wp2_with fail;go_meet
   case rel=>exact⟨rfl,O,c3,(H4.out.step y).row 0 (Ak {s with Az:=d3,log:=d} {p with A:=O,c:=c3}) _ rfl,(Ae _ _ (Ak {s with Az:=d3,log:=d} {p with A:=O,c:=c3}) _ (show g≠w.heap.size by omega)).trans hSn.2,bp.other (t:=36) hSn.1 (by decide) (by decide) (by decide) (Ak {s with Az:=d3,log:=d} {p with A:=O,c:=c3})⟩
  case rest=>
   obtain⟨rfl,O,c3,ba,ag,ah⟩:=hcut;obtain⟨aa,rfl⟩:=ex wc;have bb:=Hq ba;have G:=Hq ag;have ai:=Hq ah;clear ba ag ah H4 au X ao U an;have bq:=show aa.cell? ⟨g,4,none⟩=some (.int .i64 f.rc)from(by rw[Aa G.out];rfl);have br:=Ap G.out 4;have bs:=Hq (fun W (hp:Am W {s with Az:=d3,log:=d} {p with A:=O,c:=c3} fs)=>Nf {s with Az:=d3,log:=d} {p with A:=O,c:=c3} fs bf k hk {f with rc:=0} W hp);go_upto_region 12 with fail;have aj:=Hq (show(aa.setCell ⟨g,4,none⟩ (.int .i64 0)).heap[g]? =some (.cells (Fs {f with rc:=0}) 108 (0,0))from by have:=Cp 4 G.out (.int .i64 0);simpa using this);have av:=Hq (bb.out.under (M:=g) (by simp;omega) ((Below.refl _ aa).setCell (p:=⟨g,4,none⟩) (Nat.le_refl _) (.int .i64 0)));have ak:=Hq (ai.out.own G.out (fun ad e=>by have e2:p.F=some ad:=e;rw[b1.out]at e2;injection e2 with e2;subst e2;have:=bl.out;show b≠g;omega) 4 (.int .i64 0));generalize aa.setCell ⟨g,4,none⟩ (.int .i64 0)=w14 at aj av ak ⊢;clear bq br bb ai G
   go_wp2_with(first
    |with_reducible refine lL av.out.Ao Ar ?_
    |with_reducible refine lL aj.out Gy ?_
    |(go_at_call 74;refine(bs.out _ ak.out).mono ?_;rintro e bx ⟨q,rfl,bt,bc⟩;have ae:=Hq (av.out.step bc))
    |with_reducible refine lS (Ak {s with Az:=d3,log:=d} q) ae.out.Aq ?_)
   refine rT2 () ae.out.Aq Ar ?_;exact a1.out _ q (bt.other ae.out.Aq (by decide) (by decide) (by decide) _) (ae.out.row 1 (Ak {s with Az:=d3,log:=d} q) _ rfl).below
def uO (N n:Nat)(C:Nat→ByteArray)(s:Tx.St)(fs:List Fr)(w:World)(e:Ending)(w':World):Prop:=
 ∃ (s':Tx.St) (q:SP) (fs':List Fr) (k:Nat),e= .returned (.tuple #[Ah s' q,.int .i64 (k:Int),()])∧Am w' s' q fs'∧PI N n s' fs' C∧Hk s s' fs fs'∧Ng fs fs'∧(∃ h:k<fs'.length,Full fs'[k]→fs'[k].rc=0)∧Bw w w'
theorem lA {N n:Nat}(s:Tx.St)(p:SP)(fs:List Fr)(C:Nat→ByteArray)(Q:PI N n s fs C)(w:World)(h:Am w s p fs):
 Cq 103 #[Ah s p] w (uO N n C s fs w):=by
 have af:=Q.nf;have E:=Hq (fun W (Y:Bw w W)=>Tg (fun f=>¬ Full f) 47 #[] (enters_of Tryz.func47 Kr rfl) fs (by omega) p.F p.fc W (h.fr.below Y) (fun f _ V _=>by simpa using Vg f V));have v:=Hq (fun W (Y:Bw w W)=>aI s p fs C Q W (h.below Y));have y:=Hq (fun(x:Int) (Z:0≤x∧x≤64) (q:SP) (b:List Fr) (A:Ti fs b) (k:Nat) (hk:k<b.length) (hf:Full b[k]) W (hp:Am W {s with hand:=x} q b)=>dW {s with hand:=x} q b C ((Q.hand x Z).marks A) k hk hf W hp);have a1:=Hq h.fn;have HP:=Hq h;have G:=Hq (fun W (c:Bw w W) (k:Nat) (hk:k<fs.length) (hf:¬ Full fs[k])=>show uO N n C s fs w (.returned (.tuple #[Ah s p,.int .i64 (k:Int),()])) W from⟨s,p,fs,k,rfl,h.below c,Q,Hk.refl s fs,Ng.refl fs,⟨hk,fun e=>absurd e hf⟩,c⟩);clear h;go_enter Tryz.func103,Tryz.ntmps103;go_upto_region 1 with fail;have B:=Lx w (Ak s p) 36 #[(),(),(),"s",(),false,(),(),(),(),"","s",(),"s",()] 36;obtain⟨W0,H⟩:=E0 B;rw[← H]at B ⊢;clear H;have hc:=show W0.cell? ⟨w.heap.size,11,none⟩=some (.slice p.F fs.length p.fc)from by rw[Aa B.out.Ao,← a1.out];rfl
 go_upto_region 2 with(go_at_call 45;refine(E.out _ B.out.below).mono ?_;rintro e w1 ⟨kk,rfl,R,c⟩;have H1:=Hq (B.out.step c);clear c E hc B;rcases R with⟨rfl,R⟩|⟨k,hk,rfl,I,_⟩)
 ·have ag:¬ (0:Int)≤-1:=by decide
  have g:∀ i (hi:i<fs.length),Full fs[i]:=fun i hi=>Classical.byContradiction fun hn=>R fs[i] (List.getElem_mem hi) hn;have a6:=Hq g;clear g R G
  go_upto_region 5 with(first
   |with_reducible refine lL H1.out.Ao Ar ?_
   |(go_at_call 147;refine(v.out _ H1.out.below).mono ?_;rintro e w2 ⟨x,q,b,k,rfl,Z,hk,A,J,K⟩;have S:=Hq (H1.out.step K))
   |with_reducible refine lS (Ak {s with hand:=x} q) S.out.Ao ?_)
  have T:=Hq (show Eg w.heap.size w [((Ak {s with hand:=x} q),36),(#[(),(),(),"s",(),false,(),(),(),(),"","s",(),"s",()],36)] (w2.setRow w.heap.size (Ak {s with hand:=x} q))from S.out.row 0 (Ak {s with hand:=x} q) _ rfl);have z:=Hq (J.other (t:=36) S.out.Ao (by decide) (by decide) (by decide) (Ak {s with hand:=x} q));have U:=Hq A;have a7:=A.len;have L:k<b.length:=by omega
  have a8:=Hq (show Full b[k]from by
   have e:=(Ng.marks A k hk L).2;have:=a6.out k hk;unfold Full at this ⊢;rw[e];exact this)
  have ah:¬ (k:Int)<0:=by omega
  generalize w2.setRow w.heap.size (Ak {s with hand:=x} q)=w3 at T z ⊢;clear K J H1 S A a7 hk v
  try simp only[Act.put]
  go_upto_region 8 with(first
   |with_reducible refine lL T.out.Ao Ar ?_
   |(go_at_call 82;refine(y.out x Z q b U.out k L a8.out _ z.out).mono ?_;rintro e w4 ⟨d,l,j,aa,rfl,M,m,o,r,u,O⟩;have X:=Hq (T.out.step O))
   |with_reducible refine lS (Ak {s with hand:=x,Az:=d,log:=l} j) X.out.Ao ?_)
  have D:=Hq (show Eg w.heap.size w [((Ak {s with hand:=x,Az:=d,log:=l} j),36),(#[(),(),(),"s",(),false,(),(),(),(),"","s",(),"s",()],36)] (w4.setRow w.heap.size (Ak {s with hand:=x,Az:=d,log:=l} j))from X.out.row 0 (Ak {s with hand:=x,Az:=d,log:=l} j) _ rfl);have P:=Hq (M.other (t:=36) X.out.Ao (by decide) (by decide) (by decide) (Ak {s with hand:=x,Az:=d,log:=l} j));have ad:=Hq (And.intro m (And.intro o (And.intro r u)));generalize w4.setRow w.heap.size (Ak {s with hand:=x,Az:=d,log:=l} j)=w5 at D P ⊢;clear O M T X z m o r u y
  try simp only[Act.put]
  go_wp2_with(first
   |with_reducible refine lL D.out.Ao Ar ?_
   |with_reducible refine lS (Ak {s with hand:=x,Az:=d,log:=l} j) D.out.Aq ?_)
  refine rT3 (.int .i64 (k:Int)) () D.out.Aq Ar ?_;obtain⟨m,o,r,u⟩:=ad.out;exact⟨_,j,aa,k,rfl,P.out.other (t:=36) D.out.Aq (by decide) (by decide) (by decide) _,m,(show Hk s {s with hand:=x} fs b from⟨rfl,rfl,rfl,rfl,U.out.len⟩).trans o,(Ng.marks U.out).trans r U.out.len,u.imp fun _ a _=>a,(D.out.row 1 (Ak {s with hand:=x,Az:=d,log:=l} j) _ rfl).below⟩
 ·have ai:(0:Int)≤(k:Int):=by omega
  clear v y;have ae:=Hq I;clear I
  go_wp2_with(first
   |with_reducible refine lL H1.out.Ao Ar ?_
   |with_reducible refine lS (Ak s p) H1.out.Aq ?_)
  refine rT3 (.int .i64 (k:Int)) () H1.out.Aq Ar ?_;exact G.out _ (H1.out.row 1 (Ak s p) _ rfl).below k hk ae.out
def xJ (N n:Nat)(C:Nat→ByteArray)(s:Tx.St)(fs:List Fr)(pg:Nat)(w:World)(e:Ending)(w':World):Prop:=
 ∃ (s':Tx.St) (q:SP) (fs':List Fr) (k:Nat),e= .returned (.tuple #[Ah s' q,.int .i64 (k:Int),()])∧Am w' s' q fs'∧PI N n s' fs' C∧Hk s s' fs fs'∧(∃ h:k<fs'.length,Full fs'[k]∧fs'[k].Ad=(pg:Int))∧Bw w w'
theorem Vo {N n:Nat}(s:Tx.St)(p:SP)(fs:List Fr)(C:Nat→ByteArray)(P:PI N n s fs C)(pg:Nat)(D:pg<n)(w:World)(h:Am w s p fs):
 Cq 44 #[Ah s p,.int .i64 (pg:Int)] w (xJ N n C s fs pg w):=by
 have af:=P.nf;have R:fs.length≤100:=by omega
 have E:=Hq (fun W=>aD s p n P.zp (pg:Int) W);rw[decide_eq_true (show 0≤(pg:Int)∧(pg:Int)<(n:Int)from by omega)]at E;have S:=Hq (fun W (G:Bw w W)=>sT s p fs (by omega) (pg:Int) W (h.below G));have H:=Hq (fun hd W (G:Bw w W)=>kZ s p fs C P pg D hd W (h.st.dk.below G));have I:=Hq (fun W (G:Bw w W)=>lA s p fs C P W (h.below G));have u:=Hq (fun k hk f W (G:Bw w W)=>Nf s p fs R k hk f W (h.below G));have ag:=Hq h.fn;have HP:=Hq h;have HI:=Hq P;clear h P af R;go_enter Tryz.func44,Tryz.ntmps44;go_upto_region 1 with fail;have T:=Lx w (Ak s p) 36 #[(),(),(),"s",(),false,(),(),(),(),"","s",(),"s",()] 36;obtain⟨W0,U⟩:=E0 T;rw[← U]at T ⊢;clear U
 go_upto_region 3 with(first|with_reducible refine lL T.out.Ao Ar ?_|(go_at_call 75;refine(E.out _).mono ?_;rintro e w1 ⟨rfl,V⟩;have H1:=Hq (T.out.step V)))
 go_upto_region 4 with(first|with_reducible refine lL H1.out.Ao Ar ?_|(go_at_call 14;refine(S.out _ H1.out.below).mono ?_;rintro e J ⟨kk,rfl,hq,X⟩;have v:=Hq (H1.out.step X);clear V X T H1 E S;rcases hq with⟨rfl,hq⟩|⟨k,hk,rfl,Y,_⟩))
 ·have ay:¬ (0:Int)≤-1:=by decide
  have L:=Xj hq;have ah:=Hq L;have Z:=Hq (H.out (Tj L));clear hq L u H
  go_upto_region 9 with(first|with_reducible refine lL v.out.Ao Ar ?_|(go_at_call 102;refine(Z.out _ v.out.below).mono ?_;rintro e w3 ⟨rfl,a1⟩;have H3:=Hq (v.out.step a1);clear a1))
  go_upto_region 12 with(first
   |with_reducible refine lL H3.out.Ao Ar ?_
   |(go_at_call 103;refine(I.out _ H3.out.below).mono ?_;rintro e w4 ⟨r,q,a6,k,rfl,a7,j,a,x,y,O⟩)
   |with_reducible refine sN (Ak r q) ?_)
  have m:=O.trans ((Ac w4 (.cells (Ak r q) 36)).mono O.size);have Q:=Hq (H3.out.step m);have d:=Hq (heap_alloc_new w4 (.cells (Ak r q) 36));have a8:=Hq (a7.below (Ac w4 (.cells (Ak r q) 36)));have aa:=Hq (And.intro j (And.intro a (And.intro x y)));obtain⟨g,B⟩:=ex w4.heap.size;obtain⟨w5,c⟩:=ex (w4.alloc (.cells (Ak r q) 36));rw[← B,← c]at d;rw[← c]at Q a8;rw[← c,← B];clear c B O m v H3 I Z a7 j a x y
  try simp only[Act.put]
  have u:=Hq (show ∀ W,Am W r q a6→_ from by
   obtain⟨j,_,_,⟨z,_⟩⟩:=aa.out;exact fun W hp=>Nf r q a6 (by have:=j.nf;omega) k z ⟨(pg:Int),C pg,0,true,0⟩ W hp)
  go_wp2_with(first
   |with_reducible refine lL d.out Ar ?_
   |(go_at_call 74;refine(u.out _ a8.out).mono ?_;rintro e w6 ⟨q6,rfl,ai,aj⟩;have A:=Hq (Q.out.step aj))
   |with_reducible refine lS (Ak r q6) A.out.Aq ?_)
  refine rT3 (.int .i64 (k:Int)) () A.out.Aq Ar ?_;obtain⟨j,a,x,⟨z,y⟩⟩:=aa.out;refine⟨r,q6,_,k,rfl,ai.other (t:=36) A.out.Aq (by decide) (by decide) (by decide) _,j.load z D y (x.none_ a.ln ah.out),⟨a.tx,a.nx,a.en,a.zf,by rw[List.length_set];exact a.ln⟩,⟨by rw[List.length_set];exact z,?_⟩,(A.out.row 1 (Ak r q6) _ rfl).below⟩;rw[List.getElem_set_self];exact⟨sX (j.nm pg D),rfl⟩
 ·have az:(0:Int)≤(k:Int):=by omega
  have b0:(k:Int)<(fs.length:Int):=by omega
  have hc:=show J.cell? ⟨w.heap.size,11,none⟩=some (.slice p.F fs.length p.fc)from(by rw[Aa v.out.Ao,← ag.out];rfl);obtain⟨b,off,ad,ak,al,l⟩:=Bz Eb (HP.out.fr.below v.out.below) hk;obtain⟨f,o⟩:=ex (fs[k]);have an:=Hq o;rw[← o]at l;rw[ad]at hc;have ao:=Hq (show J.rangeAt b (off+k*5) (Kw f)from l);have aq:=Hq Y;clear l ak al ad o Y H I
  go_upto_region 6 with(first
   |(refine Da Kr fun K hK=>wp_load_mid 108 (.tmp 27) rfl b (off+k*5) rfl (Kw f) _ ao.out Gy Kr Kr (hK _ _ ?_))
   |with_reducible refine sN (Fs f) ?_)
  have m:=Ac J (.cells (Fs f) 108);have Q:=Hq (v.out.step m);have d:=Hq (heap_alloc_new J (.cells (Fs f) 108));have ar:w.heap.size+1<J.heap.size:=v.out.lt (i:=1) (by simp);obtain⟨g,B⟩:=ex J.heap.size;obtain⟨w5,c⟩:=ex (J.alloc (.cells (Fs f) 108));rw[← B,← c]at d;rw[← c]at Q;rw[← c,← B];rw[← B]at ar;clear c B m v hc
  try simp only[Act.put]
  have au:=show w5.cell? ⟨g,3,none⟩=some (.bool f.mark)from(by rw[Aa d.out];rfl);have av:=Ap d.out 3;go_upto_region 7 with fail;have ae:=Hq (show(w5.setCell ⟨g,3,none⟩ (.bool true)).heap[g]? =some (.cells (Fs {f with mark:=true}) 108 (0,0))from by have:=Cp 3 d.out (.bool true);simpa using this);have A:=Hq (Q.out.under (M:=g) (by simp;omega) ((Below.refl _ w5).setCell (p:=⟨g,3,none⟩) (Nat.le_refl _) (.bool true)));generalize w5.setCell ⟨g,3,none⟩ (.bool true)=w6 at ae A ⊢;clear au av d Q
  go_wp2_with(first
   |with_reducible refine lL A.out.Ao Ar ?_
   |with_reducible refine lL ae.out Gy ?_
   |(go_at_call 74;refine(u.out k hk {f with mark:=true} _ A.out.below).mono ?_;rintro e w7 ⟨q,rfl,aw,ax⟩;have H7:=Hq (A.out.step ax))
   |with_reducible refine lS (Ak s q) H7.out.Aq ?_)
  refine rT3 (.int .i64 (k:Int)) () H7.out.Aq Ar ?_;have o:=an.out;subst o;refine⟨s,q,_,k,rfl,aw.other (t:=36) H7.out.Aq (by decide) (by decide) (by decide) _,HI.out.mark hk true,⟨rfl,rfl,rfl,rfl,List.length_set⟩,⟨by rw[List.length_set];exact hk,?_⟩,(H7.out.row 1 (Ak s q) _ rfl).below⟩;rw[List.getElem_set_self];exact aq.out
def uP (N n:Nat)(C:Nat→ByteArray)(s:Tx.St)(fs:List Fr)(pg:Nat)(w:World)(e:Ending)(w':World):Prop:=
 ∃ (s':Tx.St) (q:SP) (fs':List Fr),e= .returned (.tuple #[Ah s' q,.string (C pg),()])∧Am w' s' q fs'∧PI N n s' fs' C∧Hk s s' fs fs'∧Bw w w'
theorem Tq {N n:Nat}(s:Tx.St)(p:SP)(fs:List Fr)(C:Nat→ByteArray)(hI:PI N n s fs C)(pg:Nat)(a8:pg<n)(w:World)(h:Am w s p fs):
 Cq 13 #[Ah s p,.int .i64 (pg:Int)] w (uP N n C s fs pg w):=by
 have I:=Hq (fun W (hb:Bw w W)=>Vo s p fs C hI pg a8 W (h.below hb));clear h hI;go_enter Tryz.func13,Tryz.ntmps13;go_upto_region 1 with fail;have A:=Lx w (Ak s p) 36 #[(),(),(),"s",(),false,(),(),(),(),"","s",(),"s",()] 36;obtain⟨W0,J⟩:=E0 A;rw[← J]at A ⊢;clear J
 go_upto_region 2 with(first
  |with_reducible refine lL A.out.Ao Ar ?_
  |(go_at_call 44;refine(I.out _ A.out.below).mono ?_;rintro e G ⟨j,q,c,k,rfl,B,D,L,⟨M,O,P⟩,o⟩)
  |with_reducible refine sN (Ak j q) ?_)
 have Q:=o.trans ((Ac G (.cells (Ak j q) 36)).mono o.size);have H5:=Hq (A.out.step Q);have R:=Hq (heap_alloc_new G (.cells (Ak j q) 36));have r:=Hq (B.below (Ac G (.cells (Ak j q) 36)));have aa:w.heap.size+1<G.heap.size:=Nat.lt_of_lt_of_le (A.out.lt (i:=1) (by simp)) o.size;obtain⟨b,off,E,ad,ae,l⟩:=Bz Eb r.out.fr M;have F:=r.out.ft _ E;have T:=(D.bytes M O P).2;have U:=l 1 (.string (C pg)) (by rw[← T];rfl);have d:=Hq B.fn;have V:=Hq (And.intro D L);have aj:(0:Int)≤(k:Int):=by omega
 have ak:(k:Int)<(c.length:Int):=by omega
 obtain⟨g,hg⟩:=ex G.heap.size;obtain⟨w5,z⟩:=ex (G.alloc (.cells (Ak j q) 36));rw[← hg,← z]at R;rw[← z]at H5 r U F;rw[← z,← hg];rw[← hg]at aa;have f:=Hq E;have X:b≠w.heap.size+1:=fun e=>by
  obtain⟨_,cs,fr,H⟩:=F;have h2:=H5.out.Aq;rw[show(⟨b,off,none⟩:Addr).block=b from rfl,e,h2]at H
  injection H with H
  injection H with _ H
  exact absurd H (by decide)
 have af:=Hq X;clear z hg o Q A I B D L O P l ad ae E T F X
 try simp only[Act.put]
 go_upto_region 4 with fail
 go_cut [5,6] (fun x y wc=>x= .string (C pg)∧y= .int .i64 0∧wc.heap[w.heap.size+1]? =some (.cells (Ak j q) 36 (0,0))∧Am wc j q c∧Bw w wc)
 case first=>
  have hSn:w5.drew.heap[g]? =some (.cells (Ak j q) 36 (0,0))∧w5.drew.cell? ⟨b,off+k*5+1,none⟩=some (.string (C pg)):=⟨R.out,U⟩;have Y:=H5.out.drew;have Z:=r.out.below (Below.refl _ w5).drew;refine G7 (S:=(fun u=>u.heap[g]? =some (.cells (Ak j q) 36 (0,0))∧u.cell? ⟨b,off+k*5+1,none⟩=some (.string (C pg)))) (fun m=>?_);generalize w5.drew=w9 at hSn Y Z ⊢;refine fA 0 Ar ?_;refine Bb 1 ?_ (hy:=by
   intro u a;have hcl0:=show u.cell? ⟨g,11,none⟩=some (.slice (some ⟨b,off,none⟩) c.length q.fc)from(by rw[Aa a.1,← f.out,← d.out];rfl);have hcl1:=a.2;clear a;go_simp;(try with_reducible rfl))
  refine Bb 2 ?_ (hy:=by
   intro u a;have hcl0:=show u.cell? ⟨g,11,none⟩=some (.slice (some ⟨b,off,none⟩) c.length q.fc)from(by rw[Aa a.1,← f.out,← d.out];rfl);have hcl1:=a.2;clear a;go_simp;(try with_reducible rfl))
  refine Bb 3 ?_ (hy:=by
   intro u a;have hcl0:=show u.cell? ⟨g,11,none⟩=some (.slice (some ⟨b,off,none⟩) c.length q.fc)from(by rw[Aa a.1,← f.out,← d.out];rfl);have hcl1:=a.2;clear a;go_simp;(try with_reducible rfl))
  refine Bb 4 ?_ (hy:=by
   intro u a;have hcl0:=show u.cell? ⟨g,11,none⟩=some (.slice (some ⟨b,off,none⟩) c.length q.fc)from(by rw[Aa a.1,← f.out,← d.out];rfl);have hcl1:=a.2;clear a;go_simp;(try with_reducible rfl))
  refine Bb 5 ?_ (hy:=by
   intro u a;have hcl0:=show u.cell? ⟨g,11,none⟩=some (.slice (some ⟨b,off,none⟩) c.length q.fc)from(by rw[Aa a.1,← f.out,← d.out];rfl);have hcl1:=a.2;clear a;go_simp;(try with_reducible rfl))
  refine Bb 6 ?_ (hy:=by
   intro u a;have hcl0:=show u.cell? ⟨g,11,none⟩=some (.slice (some ⟨b,off,none⟩) c.length q.fc)from(by rw[Aa a.1,← f.out,← d.out];rfl);have hcl1:=a.2;clear a;go_simp;(try with_reducible rfl))
  refine Bb 7 ?_ (hy:=by
   intro u a;have hcl0:=show u.cell? ⟨g,11,none⟩=some (.slice (some ⟨b,off,none⟩) c.length q.fc)from(by rw[Aa a.1,← f.out,← d.out];rfl);have hcl1:=a.2;clear a;go_simp;(try with_reducible rfl))
  refine Dg 8 fun K hK=>?_;refine Cc (by rfl) ?_;refine sW (Ak j q) Y.Aq ?_;have a1:=Y.row 1 (Ak j q) _ rfl;have a6:=Z.other (t:=36) Y.Aq (by decide) (by decide) (by decide) (Ak j q);have a7:=And.intro ((Ae _ _ (Ak j q) _ (show g≠w.heap.size+1 by omega)).trans hSn.1) (Pk (cs:=(Ak j q)) hSn.2 Y.Aq af.out);clear hSn;have hSn:=a7;clear a7;refine Cw hK (fun m=>?_);clear hK K;refine Bb 9 ?_ (hy:=by
   intro u a;have hcl0:=show u.cell? ⟨g,11,none⟩=some (.slice (some ⟨b,off,none⟩) c.length q.fc)from(by rw[Aa a.1,← f.out,← d.out];rfl);have hcl1:=a.2;clear a;go_simp;(try with_reducible rfl))
  refine Bb 10 ?_ (hy:=by
   intro u a;have hcl0:=show u.cell? ⟨g,11,none⟩=some (.slice (some ⟨b,off,none⟩) c.length q.fc)from(by rw[Aa a.1,← f.out,← d.out];rfl);have hcl1:=a.2;clear a;go_simp;(try with_reducible rfl))
  refine wpAnyH_done Kr ?_ _;clear m;go_wp2_with fail;go_meet
  case rel=>exact⟨rfl,rfl,a1.Aq,a6,a1.below⟩
 case rest=>
  obtain⟨rfl,rfl,ag,ah,ai⟩:=hcut;go_wp2_with fail;refine bodyPost_ret (v:=.tuple #[.agg (Ak j q),.string (C pg),()]) (Nt rfl _ _ rfl (Cf ag Ar Kr Kr) rfl rfl) rfl ?_;exact⟨j,q,c,rfl,ah,V.out.1,V.out.2,ai⟩
theorem Qu (s:Tx.St)(p:SP)(b:Tx.Z7 s)(r:Rc.Rec)(o:r.txns=[])(q:r.dirty=[])(w:World):
 Cr 79 #[Ah s p,.agg (D3 r (.slice none 0 0) (.slice none 0 0))] w (.tuple #[Ah {s with log:=(Lg.As s.log r).1} p,.int .i64 (Lg.As s.log r).2.1,.int .i64 (Lg.As s.log r).2.2]):=by
 have t:=Hq (fun W=>show Cq 127 #[Nq s.log,.agg (D3 r (.slice none 0 0) (.slice none 0 0))] W (Ss (Lg.As s.log r) W)from by
  have u:=Su s.log b.e0 (by have:=b.e1;omega) (by have:=b.n0;omega) (by have:=b.n1;omega) (by have:=b.t0;have:=b.e1;omega) r none none 0 0 W (O9 r W o q);simp only[o,q,List.length_nil]at u;exact u)
 generalize Lg.As s.log r=x at t ⊢;go_enter Tryz.func79,Tryz.ntmps79;go_upto_region 1 with fail;have c:=Ol w (Ak s p) 36 (D3 r (.slice none 0 0) (.slice none 0 0)) 49 #[(),(),(),"s",(),false,(),(),(),(),"","s",(),"s",()] 36;obtain⟨y,d⟩:=E0 c;rw[← d]at c ⊢;clear d
 go_upto_region 2 with(first
  |with_reducible refine lP #[s.log.from_,s.log.n,s.log.end_,s.log.safe,s.log.tail] c.out.Ao Jj ?_
  |with_reducible refine lL c.out.Aq C5 ?_
  |(go_at_call 127;(with_reducible refine(t.out _).mono ?_);rintro e f ⟨rfl,h⟩;have H1:=Hq (c.out.step h);clear h)
  |with_reducible refine sN #[x.1.from_,x.1.n,x.1.end_,x.1.safe,x.1.tail] ?_)
 have l:=Hq (H1.out.step (Ac f (.cells #[x.1.from_,x.1.n,x.1.end_,x.1.safe,x.1.tail] 30)));have v:=Hq (heap_alloc_new f (.cells #[x.1.from_,x.1.n,x.1.end_,x.1.safe,x.1.tail] 30));have m:w.heap.size+2<f.heap.size:=H1.out.lt (i:=2) (by simp);obtain⟨g,k⟩:=ex f.heap.size;obtain⟨z,a⟩:=ex (f.alloc (.cells #[x.1.from_,x.1.n,x.1.end_,x.1.safe,x.1.tail] 30));rw[← k,← a]at v;rw[← a]at l;rw[← a,← k];rw[← k]at m;clear a k c H1
 try simp only[Act.put]
 go_upto_region 3 with(first
  |with_reducible refine lL v.out Jj ?_
  |with_reducible refine lU #[x.1.from_,x.1.n,x.1.end_,x.1.safe,x.1.tail] (Ak {s with log:=x.1} p) l.out.Ao ?_)
 have j:=Hq (l.out.row 0 (Ak {s with log:=x.1} p) _ rfl);have A:=j.out.Ao
 go_wp2_with(first
  |with_reducible refine lL j.out.Ao Ar ?_
  |with_reducible refine lS (Ak {s with log:=x.1} p) j.out.Cd ?_)
 refine rT3 (x.2.1) (x.2.2) j.out.Cd Ar ?_;exact⟨rfl,(j.out.row 2 (Ak {s with log:=x.1} p) _ rfl).below⟩
end Go.Proofs.YtmfkhdhnbkambaaGreatDoor
