import Derived.Test.YtmldoihahndcgaaGreatDoorHq00
import Derived.Test.YtmldoihahndcgaaGreatDoorHq20
import Derived.Test.YtmldoihahndcgaaGreatDoorHq18
set_option maxRecDepth 100000
set_option maxHeartbeats 16000000
set_option linter.unusedSimpArgs false
namespace Go.Proofs.YtmldoihahndcgaaGreatDoor
open Go.RowKit Sc
noncomputable def Rk (fs:List Fr) (pg:Int):Int:=match Jl fs pg with
 |some k=>(k:Int)
 |none=> -1
theorem Kq {N n B:Nat}(s:Tx.St)(p:SP)(fs:List Fr)(d:Wf N n B s fs)(pg:Int)(w:World)(h:An w s p fs):
 Cr 51 #[Af s p,pg] w (.int .i64 (Rk fs pg)):=by
 have l:=d.nf;refine(We s p fs h.fn (by omega) pg w h.fr).mono ?_;rintro e w' ⟨b,m⟩;refine⟨?_,m⟩;rcases b with⟨rfl,b⟩|⟨k,f,rfl,g,i⟩
 ·have e:Jl fs pg=none:=Ik fun x o a=>by
   obtain⟨j,c,rfl⟩:=List.getElem_of_mem o;exact b j c a.1 a.2
  unfold Rk;rw[e]
 ·have e:Jl fs pg=some k:=Hc f ⟨g,i⟩ fun j c q a=>d.ds j k c f (by omega) a.1 g (a.2.trans i.symm)
  unfold Rk;rw[e]
theorem aB {N n B:Nat}(s:Tx.St)(p:SP)(fs:List Fr)(V:Wf N n B s fs)(hB:B≤1000000)(_:N≤3000)(pg:Int)(w:World)(h:An w s p fs):
 Cq 115 #[Af s p,pg] w (Bk (Ff s fs pg) w):=by
 have ah:=V.nf;have ai:fs.length≤100:=by omega
 have o:=Hq (fun W=>L4 s p pg W);have r:=Hq (fun W (z:Bw w W)=>Kq s p fs V pg W (h.below z));have aj:=Hq h.fn;have HP:=Hq h;obtain⟨X,Z⟩:=ex (Ff s fs pg);rw[← Z];have C:=Hq (fun W (z:Bw w W) (e:Int)=>show X=⟨s,fs,e⟩→Bk X w (.returned (.tuple #[Af s p,e])) W from fun he=>by rw[he];exact⟨p,rfl,h.below z,z⟩);have a1:=Hq (fun(Y:Px) (he:X=Y) w' (q:SP) (hp:An w' Y.s q Y.fs) (z:Bw w w')=>show Bk X w (.returned (.tuple #[Af Y.s q,Y.e])) w' from by rw[he];exact⟨q,rfl,hp,z⟩);have D:=Hq (fun(hn:¬ (0≤pg∧pg<s.zpages))=>show X=⟨s,fs,1⟩from by rw[Z];unfold Ff;rw[if_pos (show ¬ Gh s pg from hn)]);have R:=Hq (fun(P:Gh s pg) (u:Jl fs pg=none)=>show X=⟨s,fs,21⟩from by rw[Z];unfold Ff;rw[if_neg (fun hn=>hn P),u]);have S:=Hq (fun(P:Gh s pg) (k:Nat) (A:k<fs.length) (u:Jl fs pg=some k)=>show(fs[k].pins≤0→X=⟨s,fs,21⟩)∧(¬ fs[k].pins≤0→X=⟨s,fs.set k {fs[k]with pins:=fs[k].pins-1},0⟩)from by
  have e:X=if fs[k].pins≤0 then⟨s,fs,21⟩else⟨s,fs.set k {fs[k]with pins:=fs[k].pins-1},0⟩:=by rw[Z];unfold Ff;rw[if_neg (fun hn=>hn P),u];simp only;rw[Br A]
  exact⟨fun h9=>by rw[e,if_pos h9],fun h9=>by rw[e,if_neg h9]⟩)
 have E:=Hq (fun k A f W (z:Bw w W)=>Fq s p fs ai k A f W (h.below z));have T:=fun k (A:k<fs.length)=>(V.fr k A).pn;clear Z h ah;generalize Bk X w=Q at C a1 ⊢
 by_cases d:0≤pg∧pg<s.zpages
 case neg=>
  rw[decide_eq_false d]at o;have j:=Hq (D.out d);clear d D V;go_enter Tryz.func115,Tryz.ntmps115;go_upto_region 1 with fail;have l:=Il w (Ai s p) 36 Zq9 36;obtain⟨W0,c⟩:=Dr l;rw[← c]at l ⊢;clear c
  go_upto_region 2 with(first|with_reducible refine lL l.out.Ag Ak ?_|(go_at_call 168;refine(o.out _).mono ?_;rintro e w1 ⟨rfl,v⟩;have H1:=Hq (l.out.step v)))
  go_wp2_with(first|with_reducible refine lL H1.out.Ag Ak ?_|with_reducible refine lS (Ai s p) H1.out.Ah ?_)
  refine rT2 (.int .i64 1) H1.out.Ah Ak ?_;exact C.out _ (H1.out.row 1 (Ai s p) _ rfl).below 1 j.out
 rw[decide_eq_true d]at o;have P:Gh s pg:=d
 cases u:Jl fs pg with
 |none=>
  have j:=Hq (R.out P u);have x:Rk fs pg= -1:=by unfold Rk;rw[u]
  rw[x]at r;have az:(-1:Int)<0:=by decide
  clear u x d P D R S E V T;go_enter Tryz.func115,Tryz.ntmps115;go_upto_region 1 with fail;have l:=Il w (Ai s p) 36 Zq9 36;obtain⟨W0,c⟩:=Dr l;rw[← c]at l ⊢;clear c
  go_upto_region 3 with(first|with_reducible refine lL l.out.Ag Ak ?_|(go_at_call 168;refine(o.out _).mono ?_;rintro e w1 ⟨rfl,v⟩;have H1:=Hq (l.out.step v)))
  go_upto_region 4 with(first|with_reducible refine lL H1.out.Ag Ak ?_|(go_at_call 51;refine(r.out _ H1.out.below).mono ?_;rintro e G ⟨rfl,U⟩;have m:=Hq (H1.out.step U)))
  go_wp2_with(first|with_reducible refine lL m.out.Ag Ak ?_|with_reducible refine lS (Ai s p) m.out.Ah ?_)
  refine rT2 (.int .i64 21) m.out.Ah Ak ?_;exact C.out _ (m.out.row 1 (Ai s p) _ rfl).below 21 j.out
 |some k=>
  obtain⟨A,_,_⟩:=Ns u;have x:Rk fs pg=(k:Int):=by unfold Rk;rw[u]
  rw[x]at r;obtain⟨a6,a7⟩:=S.out P k A u;have H:=Hq a6;have I:=Hq a7;have b0:(0:Int)≤(k:Int):=by omega
  have b1:¬ (k:Int)<0:=by omega
  have b2:(k:Int)<(fs.length:Int):=by omega
  have ak:=T k A;have b3:(B:Int)≤1000000:=by omega
  clear u x d P D R S a6 a7 T V;go_enter Tryz.func115,Tryz.ntmps115;go_upto_region 1 with fail;have l:=Il w (Ai s p) 36 Zq9 36;obtain⟨W0,c⟩:=Dr l;rw[← c]at l ⊢;clear c
  go_upto_region 3 with(first|with_reducible refine lL l.out.Ag Ak ?_|(go_at_call 168;refine(o.out _).mono ?_;rintro e w1 ⟨rfl,v⟩;have H1:=Hq (l.out.step v)))
  go_upto_region 4 with(first|with_reducible refine lL H1.out.Ag Ak ?_|(go_at_call 51;refine(r.out _ H1.out.below).mono ?_;rintro e G ⟨rfl,U⟩;have m:=Hq (H1.out.step U)))
  have hc:=show G.cell? ⟨w.heap.size,11,none⟩=some (.slice p.F fs.length p.fc)from(by rw[Aa m.out.Ag,← aj.out];rfl);obtain⟨b,off,a8,al,an,a⟩:=Bi Cc (HP.out.fr.below m.out.below) A;obtain⟨f,aa⟩:=ex (fs[k]);rw[← aa]at a H I ak;rw[a8]at hc;have ad:=Hq (show G.rangeAt b (off+k*5) (F4 f)from a);have ao:=show G.cell? ⟨b,off+k*5+2,none⟩=some (.int .i64 f.pins)from a 2 _ rfl;clear a al an a8 aa l H1 o r
  by_cases J:f.pins≤0
  ·have ae:f.pins<1:=by omega
   have j:=Hq (H.out (by first|exact J|omega));clear J H I E
   go_wp2_with(first|with_reducible refine lL m.out.Ag Ak ?_|with_reducible refine lS (Ai s p) m.out.Ah ?_)
   refine rT2 (.int .i64 21) m.out.Ah Ak ?_;exact C.out _ (m.out.row 1 (Ai s p) _ rfl).below 21 j.out
  ·have ae:¬ f.pins<1:=by omega
   have aq:IntKind.i64.wrap (f.pins-1)=f.pins-1:=IntWalk.i64_in _ (by omega);have j:=Hq (I.out (by first|exact J|omega));clear J H I;go_upto_region 6 with fail;clear ao
   go_upto_region 7 with(first
    |(refine Bt Kr fun K hK=>wp_load_mid 116 (.tmp 33) rfl b (off+k*5) rfl (F4 f) _ ad.out Cw Kr Kr (hK _ _ ?_))
    |with_reducible refine sN (Cg f) ?_)
   have ar:(w.heap.size+1)<G.heap.size:=m.out.lt (i:=1) (by simp);have af:=Ad G (.cells (Cg f) 116);have y:=Hq (heap_alloc_new G (.cells (Cg f) 116));have H3:=Hq (m.out.step af);obtain⟨g,L⟩:=ex G.heap.size;obtain⟨w3,O⟩:=ex (G.alloc (.cells (Cg f) 116));rw[← L,← O]at y;rw[← O]at H3;rw[← O,← L];rw[← L]at ar;clear O L af m hc ad ae
   try simp only[Act.put]
   have au:=show w3.cell? ⟨g,2,none⟩=some (.int .i64 f.pins)from(by rw[Aa y.out];rfl);have av:=Ao y.out 2;go_upto_region 8 with fail;have ag:=Hq (show(w3.setCell ⟨g,2,none⟩ (.int .i64 (f.pins-1))).heap[g]? =some (.cells (Cg {f with pins:=f.pins-1}) 116 (0,0))from by have:=Bs 2 y.out (.int .i64 (f.pins-1));simpa using this);have H4:=Hq (H3.out.under (M:=g) (by simp;omega) ((Below.refl _ w3).setCell (p:=⟨g,2,none⟩) (Nat.le_refl _) (.int .i64 (f.pins-1))));generalize w3.setCell ⟨g,2,none⟩ (.int .i64 (f.pins-1))=w4 at ag H4 ⊢;clear au av y H3 aq;have aw:=Hq (fun W z=>E.out k A {f with pins:=f.pins-1} W z);clear E
   try simp only[Act.put]
   go_wp2_with(first
    |with_reducible refine lL H4.out.Ag Ak ?_
    |with_reducible refine lL ag.out Cw ?_
    |(go_at_call 169;refine(aw.out _ H4.out.below).mono ?_;rintro e w5 ⟨q,rfl,ax,ay⟩;have H5:=Hq (H4.out.step ay))
    |with_reducible refine lS (Ai s q) H5.out.Ah ?_)
   refine rT2 () H5.out.Ah Ak ?_;exact a1.out _ j.out _ q (ax.other (t:=36) H5.out.Ah (by decide) (by decide) (by decide) _) (H5.out.row 1 (Ai s q) _ rfl).below
theorem Qt {N n B:Nat}(s:Tx.St)(p:SP)(fs:List Fr)(D:Wf N n B s fs)(_hB:B≤1000000)(hN:N≤3000)(pg:Int)(w:World)(h:An w s p fs):
 Cq 117 #[Af s p,pg] w (Bk (Df s fs pg) w):=by
 have a6:=D.nf;have af:fs.length≤100:=by omega
 have i:=Hq (fun W=>L4 s p pg W);have j:=Hq (fun W (A:Bw w W)=>Kq s p fs D pg W (h.below A));have a7:=Hq h.fn;have HP:=Hq h;obtain⟨X,P⟩:=ex (Df s fs pg);rw[← P];have v:=Hq (fun W (A:Bw w W) (e:Int)=>show X=⟨s,fs,e⟩→Bk X w (.returned (.tuple #[Af s p,e])) W from fun he=>by rw[he];exact⟨p,rfl,h.below A,A⟩);have R:=Hq (fun(Y:Px) (he:X=Y) w' (q:SP) (hp:An w' Y.s q Y.fs) (A:Bw w w')=>show Bk X w (.returned (.tuple #[Af Y.s q,Y.e])) w' from by rw[he];exact⟨q,rfl,hp,A⟩);have x:=Hq (fun(S:¬ (0≤pg∧pg<s.zpages))=>show X=⟨s,fs,1⟩from by rw[P];unfold Df;rw[if_pos (show ¬ Gh s pg from S)]);have E:=Hq (fun(C:Gh s pg) (l:Jl fs pg=none)=>show X=⟨s,fs,0⟩from by rw[P];unfold Df;rw[if_neg (fun S=>S C),l]);have G:=Hq (fun(C:Gh s pg) (k:Nat) (O:k<fs.length) (l:Jl fs pg=some k)=>show X=Cy s fs k from by rw[P];unfold Df;rw[if_neg (fun S=>S C),l];exact dQ D O);clear P h a6;generalize Bk X w=Q at v R ⊢
 by_cases d:0≤pg∧pg<s.zpages
 case neg=>
  rw[decide_eq_false d]at i;have m:=Hq (x.out d);clear d x D;go_enter Tryz.func117,Tryz.ntmps117;go_upto_region 1 with fail;have f:=Il w (Ai s p) 36 Zq9 36;obtain⟨W0,a⟩:=Dr f;rw[← a]at f ⊢;clear a
  go_upto_region 2 with(first|with_reducible refine lL f.out.Ag Ak ?_|(go_at_call 168;refine(i.out _).mono ?_;rintro e w1 ⟨rfl,o⟩;have H1:=Hq (f.out.step o)))
  go_wp2_with(first|with_reducible refine lL H1.out.Ag Ak ?_|with_reducible refine lS (Ai s p) H1.out.Ah ?_)
  refine rT2 (.int .i64 1) H1.out.Ah Ak ?_;exact v.out _ (H1.out.row 1 (Ai s p) _ rfl).below 1 m.out
 rw[decide_eq_true d]at i;have C:Gh s pg:=d
 cases l:Jl fs pg with
 |none=>
  have m:=Hq (E.out C l);have r:Rk fs pg= -1:=by unfold Rk;rw[l]
  rw[r]at j;have ag:(-1:Int)<0:=by decide
  clear l r d C x E G D;go_enter Tryz.func117,Tryz.ntmps117;go_upto_region 1 with fail;have f:=Il w (Ai s p) 36 Zq9 36;obtain⟨W0,a⟩:=Dr f;rw[← a]at f ⊢;clear a
  go_upto_region 3 with(first|with_reducible refine lL f.out.Ag Ak ?_|(go_at_call 168;refine(i.out _).mono ?_;rintro e w1 ⟨rfl,o⟩;have H1:=Hq (f.out.step o)))
  go_upto_region 4 with(first|with_reducible refine lL H1.out.Ag Ak ?_|(go_at_call 51;refine(j.out _ H1.out.below).mono ?_;rintro e w2 ⟨rfl,H⟩;have g:=Hq (H1.out.step H)))
  go_wp2_with(first|with_reducible refine lL g.out.Ag Ak ?_|with_reducible refine lS (Ai s p) g.out.Ah ?_)
  refine rT2 () g.out.Ah Ak ?_;exact v.out _ (g.out.row 1 (Ai s p) _ rfl).below 0 m.out
 |some k=>
  obtain⟨O,_,_⟩:=Ns l;have r:Rk fs pg=(k:Int):=by unfold Rk;rw[l]
  rw[r]at j;have y:=Hq (G.out C k O l);have ah:(0:Int)≤(k:Int):=by omega
  have ai:¬ (k:Int)<0:=by omega
  have aj:(k:Int)<(fs.length:Int):=by omega
  have I:=Hq (fun(c:¬ fs[k].rc=0) W (A:Bw w W)=>Qr s p fs D k O hN c W (HP.out.below A));clear l r d C x E G D;go_enter Tryz.func117,Tryz.ntmps117;go_upto_region 1 with fail;have f:=Il w (Ai s p) 36 Zq9 36;obtain⟨W0,a⟩:=Dr f;rw[← a]at f ⊢;clear a
  go_upto_region 3 with(first|with_reducible refine lL f.out.Ag Ak ?_|(go_at_call 168;refine(i.out _).mono ?_;rintro e w1 ⟨rfl,o⟩;have H1:=Hq (f.out.step o)))
  go_upto_region 4 with(first|with_reducible refine lL H1.out.Ag Ak ?_|(go_at_call 51;refine(j.out _ H1.out.below).mono ?_;rintro e w2 ⟨rfl,H⟩;have g:=Hq (H1.out.step H)))
  have hc:=show w2.cell? ⟨w.heap.size,11,none⟩=some (.slice p.F fs.length p.fc)from(by rw[Aa g.out.Ag,← a7.out];rfl);obtain⟨b,off,T,a8,aa,u⟩:=Bi Cc (HP.out.fr.below g.out.below) O;rw[T]at hc;have ad:=show w2.cell? ⟨b,off+k*5+4,none⟩=some (.int .i64 fs[k].rc)from u 4 _ rfl;clear u a8 aa T f H1 i j
  by_cases c:fs[k].rc=0
  ·have ae:(fs[k].rc==0)=true:=by rw[c];rfl
   have m:=Hq (y.out.trans (Tp O c));clear c y I
   go_wp2_with(first|with_reducible refine lL g.out.Ag Ak ?_|with_reducible refine lS (Ai s p) g.out.Ah ?_)
   refine rT2 () g.out.Ah Ak ?_;exact v.out _ (g.out.row 1 (Ai s p) _ rfl).below 0 m.out
  ·have ae:(fs[k].rc==0)=false:=beq_eq_false_iff_ne.2 c
   have J:=Hq (I.out c);clear c I;generalize Cy s fs k=Y at y J
   go_upto_region 7 with(first
    |with_reducible refine lL g.out.Ag Ak ?_
    |(go_at_call 190;refine(J.out _ g.out.below).mono ?_;rintro e w4 ⟨K,rfl,U,V⟩)
    |with_reducible refine sN (Ai Y.s K) ?_)
   have L:=Ad w4 (.cells (Ai Y.s K) 36);have Z:=Hq (heap_alloc_new w4 (.cells (Ai Y.s K) 36));have H5:=Hq (g.out.step (Ae V L));have a1:=Hq (U.below L);obtain⟨g5,M⟩:=ex w4.heap.size;obtain⟨w5,z⟩:=ex (w4.alloc (.cells (Ai Y.s K) 36));rw[← M,← z]at Z;rw[← z]at H5 a1;rw[← z,← M];clear z M L V U g J hc ad
   try simp only[Act.put]
   go_wp2_with(first|with_reducible refine lL Z.out Ak ?_|with_reducible refine lS (Ai Y.s K) H5.out.Ah ?_)
   refine rT2 (Y.e) H5.out.Ah Ak ?_;exact R.out Y y.out _ K (a1.out.other (t:=36) H5.out.Ah (by decide) (by decide) (by decide) _) (H5.out.row 1 (Ai Y.s K) _ rfl).below
theorem K6 (s:Tx.St)(p:SP)(fs:List Fr)(D:fs.length≤100)(k:Nat)(F:k<fs.length)(f:Fr)(r:Rc.Rec)(o:Option Addr)(u rc:Nat)(v:Option Addr)(x rd:Nat)(w:World)(h:An w s p fs):
 Cq 193 #[Af s p,.int .i64 (k:Int),.agg (Cg f),.agg #[r.lsn,r.prev,r.txn,r.kind,r.page,r.next,r.num,r.op.kind,r.op.slot,r.op.Bd,r.op.new,r.how,r.root,r.e.key,r.e.page,r.e.slot,.slice o u rc,.slice v x rd]] w fun e w'=>∃ q,e= .returned (Af s q)∧An w' s q (fs.set k (P1 f f.bytes r.lsn))∧Bw w w':=by
 have c:=Hq (fun W (G:Bw w W)=>Fq s p fs D k F (P1 f f.bytes r.lsn) W (h.below G));clear h;go_enter Tryz.func193,Tryz.ntmps193;go_upto_region 1 with fail;have a:=uW w (Ai s p) 36 (Cg f) 116 #[r.lsn,r.prev,r.txn,r.kind,r.page,r.next,r.num,r.op.kind,r.op.slot,r.op.Bd,r.op.new,r.how,r.root,r.e.key,r.e.page,r.e.slot,.slice o u rc,.slice v x rd] 88 Zq9 36;obtain⟨g,y⟩:=Dr a;rw[← y]at a ⊢;clear y;have z:=show g.cell? ⟨(w.heap.size+1),4,none⟩=some (.int .i64 f.rc)from by rw[Aa a.out.Ah];rfl
 have A:=show g.cell? ⟨(w.heap.size+2),0,none⟩=some (.int .i64 r.lsn)from by rw[Aa a.out.Ax];rfl
 have B:=Ao a.out.Ah 4
 by_cases n:f.rc=0
 ·have E:(f.rc==0)=true:=by rw[n];rfl
  have C:=Hq (show(P1 f f.bytes r.lsn)=⟨f.page,f.bytes,f.pins,true,r.lsn⟩from by unfold P1;rw[if_pos n]);clear n;rw[C.out]at c;go_upto_region 3 with fail;have H1:=Hq (show Dm w.heap.size w [((Ai s p),36),(Cg ⟨f.page,f.bytes,f.pins,f.mark,r.lsn⟩,116),(#[r.lsn,r.prev,r.txn,r.kind,r.page,r.next,r.num,r.op.kind,r.op.slot,r.op.Bd,r.op.new,r.how,r.root,r.e.key,r.e.page,r.e.slot,.slice o u rc,.slice v x rd],88),(Zq9,36)] (g.setCell ⟨(w.heap.size+1),4,none⟩ (.int .i64 r.lsn))from a.out.set 1 4 (.int .i64 r.lsn) _ rfl);generalize g.setCell ⟨(w.heap.size+1),4,none⟩ (.int .i64 r.lsn)=W1 at H1 ⊢;clear z A B a
  try simp only[Act.put]
  have i:=show W1.cell? ⟨(w.heap.size+1),3,none⟩=some (.bool f.mark)from(by rw[Aa H1.out.Ah];rfl);have j:=Ao H1.out.Ah 3;go_upto_region 4 with fail;have b:=Hq (show Dm w.heap.size w [((Ai s p),36),(Cg ⟨f.page,f.bytes,f.pins,true,r.lsn⟩,116),(#[r.lsn,r.prev,r.txn,r.kind,r.page,r.next,r.num,r.op.kind,r.op.slot,r.op.Bd,r.op.new,r.how,r.root,r.e.key,r.e.page,r.e.slot,.slice o u rc,.slice v x rd],88),(Zq9,36)] (W1.setCell ⟨(w.heap.size+1),3,none⟩ (.bool true))from H1.out.set 1 3 (.bool true) _ rfl);generalize W1.setCell ⟨(w.heap.size+1),3,none⟩ (.bool true)=W2 at b ⊢;clear i j H1
  try simp only[Act.put]
  go_wp2_with(first
   |with_reducible refine lL b.out.Ag Ak ?_
   |with_reducible refine lL b.out.Ah Cw ?_
   |(go_at_call 169;refine(c.out _ b.out.below).mono ?_;rintro e H ⟨q,rfl,l,m⟩;have d:=Hq (b.out.step m))
   |with_reducible refine lS (Ai s q) d.out.fU ?_)
  refine rT1 d.out.fU Ak ?_;exact⟨q,rfl,by rw[C.out];exact l.other (t:=36) d.out.fU (by decide) (by decide) (by decide) _,(d.out.row 3 (Ai s q) _ rfl).below⟩
 ·have E:(f.rc==0)=false:=beq_eq_false_iff_ne.2 n
  have C:=Hq (show(P1 f f.bytes r.lsn)=⟨f.page,f.bytes,f.pins,true,f.rc⟩from by unfold P1;rw[if_neg n]);clear n;rw[C.out]at c;clear A B;go_upto_region 3 with fail;clear z;have i:=show g.cell? ⟨(w.heap.size+1),3,none⟩=some (.bool f.mark)from(by rw[Aa a.out.Ah];rfl);have j:=Ao a.out.Ah 3;go_upto_region 4 with fail;have b:=Hq (show Dm w.heap.size w [((Ai s p),36),(Cg ⟨f.page,f.bytes,f.pins,true,f.rc⟩,116),(#[r.lsn,r.prev,r.txn,r.kind,r.page,r.next,r.num,r.op.kind,r.op.slot,r.op.Bd,r.op.new,r.how,r.root,r.e.key,r.e.page,r.e.slot,.slice o u rc,.slice v x rd],88),(Zq9,36)] (g.setCell ⟨(w.heap.size+1),3,none⟩ (.bool true))from a.out.set 1 3 (.bool true) _ rfl);generalize g.setCell ⟨(w.heap.size+1),3,none⟩ (.bool true)=W2 at b ⊢;clear i j a
  try simp only[Act.put]
  go_wp2_with(first
   |with_reducible refine lL b.out.Ag Ak ?_
   |with_reducible refine lL b.out.Ah Cw ?_
   |(go_at_call 169;refine(c.out _ b.out.below).mono ?_;rintro e H ⟨q,rfl,l,m⟩;have d:=Hq (b.out.step m))
   |with_reducible refine lS (Ai s q) d.out.fU ?_)
  refine rT1 d.out.fU Ak ?_;exact⟨q,rfl,by rw[C.out];exact l.other (t:=36) d.out.fU (by decide) (by decide) (by decide) _,(d.out.row 3 (Ai s q) _ rfl).below⟩
theorem jX {fs:List Fr}(h:Hb fs=none){j:Nat}(a:j<fs.length):fs[j].bytes≠⟨#[]⟩:=fun b=>by
 unfold Hb at h;have c:=List.findIdx?_eq_none_iff.1 h fs[j] (List.getElem_mem a);have d:¬ ¬ Full fs[j]:=by simpa using c
 exact d fun e=>e b
theorem oM {w:World}{A:Option Addr}{c:Nat}{fs:List Fr}{g:Nat}{pg:Int}(j:Reads w A c fs.length (fs.flatMap F4))(k:0<fs.length)(l:fs[0].bytes≠⟨#[]⟩)
 (m:w.heap[g]? =some (.cells (Cg ⟨pg,⟨#[]⟩,0,false,0⟩) 116 (0,0))):∀ ad,A=some ad→ad.block≠g:=by
 intro ad n a;obtain⟨b,off,e,_,_,h⟩:=Bi Cc j k;rw[n]at e
 injection e with e
 subst e;have a:b=g:=a;subst a;have i:=h 1 _ rfl;have f:=h 4 _ rfl;rw[Aa m]at i f
 by_cases o:off=0
 ·subst o
  have d:some (Value.string ⟨#[]⟩)=some (Value.string fs[0].bytes):=i
  injection d with d
  injection d with d
  exact l d.symm
 ·have p:(Cg ⟨pg,⟨#[]⟩,0,false,0⟩)[off+0*5+4]? =none:=Array.getElem?_eq_none (by show 5≤off+0*5+4;omega)
  rw[p]at f;exact absurd f (by simp)
theorem aC {N n B:Nat}(s:Tx.St)(p:SP)(fs:List Fr)(hW:Wf N n B s fs)(hN:N≤3000)(r:Rc.Rec)(rA:Option Addr)(rn rc:Nat)(rB:Option Addr)(rm rd:Nat)(b4:r.op.new.size≤140737488355328)(w:World)(h:An w s p fs):
 Cq 191 #[Af s p,.agg (Rq9 r rA rn rc rB rm rd)] w (Bk (Fh s fs r) w):=by
 have cq:=hW.nf;have c6:fs.length≤100:=by omega
 have a7:=Hq (fun W=>Qq r.op.new b4 W);have az:=Hq (fun W (hb:Bw w W)=>Kq s p fs hW r.page W (h.below hb));have T:=Hq (fun W=>N4 r.op.new b4 W);have O:=Hq (fun W=>show Cr 101 #[r.op.new,.int .i64 ((Ab r.op.new).lsn:Nat)] W (.string (J6 r.op.new)) from Gu r.op.new ((Ab r.op.new).lsn:Nat) b4 W);have c7:=Hq h.fn;have HP:=Hq h;obtain⟨X,hX⟩:=ex (Fh s fs r);rw[← hX];have b5:=Hq (fun W (hb:Bw w W) (e:Int)=>show X=⟨s,fs,e⟩→Bk X w (.returned (.tuple #[Af s p,e])) W from fun he=>by rw[he];exact⟨p,rfl,h.below hb,hb⟩);have b0:=Hq (fun(Y:Px) (he:X=Y) w' (q:SP) (hp:An w' Y.s q Y.fs) (hb:Bw w w')=>show Bk X w (.returned (.tuple #[Af Y.s q,Y.e])) w' from by rw[he];exact⟨q,rfl,hp,hb⟩);have b1:=Hq (fun(hn:Bj r.op.new=false)=>show X=⟨s,fs,1⟩from by rw[hX];unfold Fh;rw[if_pos hn]);have ak:=Hq (fun(hn:Bj r.op.new=true) (k:Nat) (hk:k<fs.length) (ha:Jl fs r.page=some k)=>show X=⟨s,fs.set k (P1 fs[k] (J6 r.op.new) r.lsn),0⟩from by rw[hX];unfold Fh;rw[if_neg (by rw[hn];decide),ha];simp only;rw[Br hk]);have al:=Hq (fun(hn:Bj r.op.new=true) (ha:Jl fs r.page=none)=>show X=if(A9 s fs).1.e=0 then(⟨(A9 s fs).1.s,(A9 s fs).1.fs.set (A9 s fs).2 (P1 (⟨r.page,⟨#[]⟩,0,false,0⟩:Fr) (J6 r.op.new) r.lsn),0⟩:Px)else De s fs (A9 s fs).1 from by rw[hX];unfold Fh;rw[if_neg (by rw[hn];decide),ha]);have a8:=Hq (fun W (hb:Bw w W)=>Qs s p fs hW hN W (h.below hb));have aa:=Hq (fun(hf:Hb fs=none) (hj:0<fs.length) (c8:0<(A9 s fs).1.fs.length)=>show(A9 s fs).1.fs[0].bytes≠⟨#[]⟩from fun he=>jX hf hj ((Sy hW 0 hj c8).2.symm.trans he));have b6:=hW.room;clear hX h hW;generalize Bk X w=Q at b5 b0 ⊢;generalize J6 r.op.new=pb at O ak al;generalize (Ab r.op.new).lsn=ln at T O
 cases P:Bj r.op.new with
 |false=>
  rw[P]at a7;have l:=Hq (b1.out P);clear b1 ak al a8 aa az T O P;go_enter Tryz.func191,Tryz.ntmps191;go_upto_region 1 with fail;have H0:=Jo w (Ai s p) 36 (Rq9 r rA rn rc rB rm rd) 88 Zq9 36;obtain⟨W0,an⟩:=Dr H0;rw[← an]at H0 ⊢;clear an;have b7:=show W0.cell? ⟨(w.heap.size+1),10,none⟩=some (.string r.op.new)from by rw[Aa H0.out.Ah];rfl
  go_upto_region 2 with(go_at_call 239;refine(a7.out _).mono ?_;rintro e L ⟨rfl,ao⟩;have H1:=Hq (H0.out.step ao))
  clear b7 ao H0 a7
  go_wp2_with(first|with_reducible refine lL H1.out.Ag Ak ?_|with_reducible refine lS (Ai s p) H1.out.Ax ?_)
  refine rT2 (.int .i64 1) H1.out.Ax Ak ?_;exact b5.out _ (H1.out.row 2 (Ai s p) _ rfl).below 1 l.out
 |true=>
  rw[P]at a7;go_enter Tryz.func191,Tryz.ntmps191;go_upto_region 1 with fail;have H0:=Jo w (Ai s p) 36 (Rq9 r rA rn rc rB rm rd) 88 Zq9 36;obtain⟨W0,an⟩:=Dr H0;rw[← an]at H0 ⊢;clear an;have b7:=show W0.cell? ⟨(w.heap.size+1),10,none⟩=some (.string r.op.new)from by rw[Aa H0.out.Ah];rfl
  go_upto_region 2 with(go_at_call 239;refine(a7.out _).mono ?_;rintro e L ⟨rfl,ao⟩;have H1:=Hq (H0.out.step ao))
  clear b7 ao H0 a7;go_upto_region 3 with fail
  go_cut [6,7] (fun x y wc=>∃ g6,x= .pointer (some ⟨g6,0,none⟩)∧y= .int .i64 (Rk fs r.page)∧wc.heap[g6]? =some (.cells (Ai s p) 36 (0,0))∧L.heap.size≤g6∧Bw L wc)
  case first=>
   have Z0:Bw L L.drew:=(Below.refl _ L).drew;have Hy:=Hq (fun(u:World) (aq:Bw L u)=>(show u.cell? ⟨(w.heap.size+1),4,none⟩=some (.int .i64 r.page)from(by rw[Aa (Ac H1.out.Ah aq)];rfl)));refine E4 (S:=(fun u=>Bw L u)) (fun a=>?_);refine Kt 0 (some 18) (v:=.agg (Ai s p)) rfl (yieldsIf_load_mid (by rfl) 36 (.tmp 2) rfl w.heap.size 0 (by rfl) (Ai s p).toList _ (fun u hu=>(by intro j y hj;rw[Nat.zero_add,Aa (Ac H1.out.Ag hu)];simpa using hj)) Ak Kr Kr) ?_
   try simp only[Act.put,pS]
   refine Kt 1 (some 19) (v:=.agg (Ai s p)) rfl (yieldsIf_load_mid (by rfl) 36 (.tmp 2) rfl w.heap.size 0 (by rfl) (Ai s p).toList _ (fun u hu=>(by intro j y hj;rw[Nat.zero_add,Aa (Ac H1.out.Ag hu)];simpa using hj)) Ak Kr Kr) ?_
   try simp only[Act.put,pS]
   refine Au 2 ?_;refine Au 3 ?_;refine wpAnyH_ready (rs:=[4,5]) Kr (by simp) ?_;refine(AllReadyH.cons (o:={dst:=some 22,op:=_,type:=_,pos:=_,after:=_,guard:=_}) rfl (fun K c=>?_) (AllReadyH.cons (o:={dst:=some 6,op:=_,type:=_,pos:=_,after:=_,guard:=_}) rfl (fun K c=>?_) AllReadyH.nil))
   ·
    go_simp
    refine(az.out _ (Ae H1.out.below Z0)).mono ?_;rintro e A ⟨rfl,m⟩;have E:=Ae Z0 m;try clear hSn
    have hSn:=E;refine Bl c (fun a=>?_);clear c K;refine Bx 5 fun K c=>?_
    go_simp
    have HG:=heap_alloc_new A (.cells Zq9 36);have Z3:=Ae E (Ad A (.cells Zq9 36));clear hSn;have hSn:=Z3;refine Bl c (fun a=>?_);clear c K;refine Bx 6 fun K c=>?_;refine Az (by rfl) ?_;refine sW (Ai s p) HG ?_;have Z4:=Fj (g:=A.heap.size) (by have:=E.size;omega) Z3 (Ai s p);have b8:=setRow_heap _ _ _ (Ai s p) _ _ HG;have b9:L.heap.size≤A.heap.size:=(by have:=E.size;omega);clear hSn;have hSn:=Z4;refine Bl c (fun a=>?_);clear c K;refine Au 7 ?_;refine wpAnyH_done Kr ?_ _;clear a hSn;go_wp2_with fail;go_meet
    case rel=>exact⟨_,rfl,rfl,b8,b9,Z4⟩
   ·
    go_simp
    have Z1:=Ae Z0 (Ad L.drew (.cells Zq9 36));have hSn:=Z1;have cr:=heap_alloc_new L.drew (.cells Zq9 36);refine Bl c (fun a=>?_);clear c K;refine Bx 4 fun K c=>?_
    go_simp
    refine(az.out _ (Ae H1.out.below Z1)).mono ?_;rintro e A ⟨rfl,m⟩;have E:=Ae Z1 m;try clear hSn
    have hSn:=E;have HG:=Cb m;refine Bl c (fun a=>?_);clear c K;refine Bx 6 fun K c=>?_;refine Az (by rfl) ?_;refine sW (Ai s p) HG ?_;have Z4:=Fj (g:=L.drew.heap.size) (by show L.heap.size≤L.heap.size;omega) E (Ai s p);have b8:=setRow_heap _ _ _ (Ai s p) _ _ HG;have b9:L.heap.size≤L.drew.heap.size:=(by show L.heap.size≤L.heap.size;omega);clear hSn;have hSn:=Z4;refine Bl c (fun a=>?_);clear c K;refine Au 7 ?_;refine wpAnyH_done Kr ?_ _;clear a hSn;go_wp2_with fail;go_meet
    case rel=>exact⟨_,rfl,rfl,b8,b9,Z4⟩
  case rest=>
   obtain⟨g6,rfl,rfl,bn,b3,bo⟩:=hcut;obtain⟨w3,rfl⟩:=ex wc;have ba:=Hq bn;have H3:=Hq (H1.out.step bo);have ck:(w.heap.size+2)<g6:=Nat.lt_of_lt_of_le (H1.out.lt (i:=2) (by simp)) b3;clear bn b3 bo H1 az;have ca:=show w3.cell? ⟨(w.heap.size+1),4,none⟩=some (.int .i64 r.page)from by rw[Aa H3.out.Ah];rfl
   go_upto_region 5 with(with_reducible refine sN (Cg (⟨r.page,⟨#[]⟩,0,false,0⟩:Fr)) ?_)
   have G:=Ad w3 (.cells (Cg (⟨r.page,⟨#[]⟩,0,false,0⟩:Fr)) 116);have U:=Hq (heap_alloc_new w3 (.cells (Cg (⟨r.page,⟨#[]⟩,0,false,0⟩:Fr)) 116));have H4:=Hq (H3.out.step G);have ae:=Hq (Ac ba.out G);obtain⟨g8,z⟩:=ex w3.heap.size;obtain⟨w4,H⟩:=ex (w3.alloc (.cells (Cg (⟨r.page,⟨#[]⟩,0,false,0⟩:Fr)) 116));rw[← z,← H]at U;rw[← H]at H4 ae;rw[← H,← z];have a6:g6≠g8:=(by rw[z];exact Nat.ne_of_lt (C0 ba.out));have cm:(w.heap.size+2)<g8:=(by rw[z];exact H3.out.lt (i:=2) (by simp));clear H z G H3 ba ca
   try simp only[Act.put]
   have bb:∀ (W:World),Bw w4 W→True:=fun _ _=>trivial;clear bb
   cases ha:Jl fs r.page with
   |some k=>
    obtain⟨hk,_,_⟩:=Ns ha;have ar:Rk fs r.page=(k:Int):=(by unfold Rk;rw[ha]);rw[ar];have l:=Hq (ak.out P k hk ha);have ct:(0:Int)≤(k:Int):=(by omega);have cu:¬ (k:Int)<0:=(by omega);have cv:(k:Int)<(fs.length:Int):=(by omega);obtain⟨b,off,bp,cb,cc,V⟩:=Bi Cc (HP.out.fr.below H4.out.below) hk;have hc:=show w4.cell? ⟨w.heap.size,11,none⟩=some (.slice (some ⟨b,off,none⟩) fs.length p.fc)from(by rw[Aa H4.out.Ag,← bp,← c7.out];rfl);obtain⟨f,bq⟩:=ex (fs[k]);rw[← bq]at V l;have br:=Hq (show w4.rangeAt b (off+k*5) (F4 f)from V);have bc:=Hq (fun W (hb:Bw w W)=>K6 s p fs c6 k hk ⟨f.page,pb,f.pins,f.mark,f.rc⟩ r rA rn rc rB rm rd W (HP.out.below hb));clear V cb cc bp bq ar ha P b1 ak al a8 aa b6
    go_upto_region 11 with(first
     |(refine Bt Kr fun K c=>wp_load_mid 116 (.tmp 47) rfl b (off+k*5) rfl (F4 f) _ br.out Cw Kr Kr (c _ _ ?_))
     |with_reducible refine lS (Cg f) U.out ?_)
    have H5:=Hq (H4.out.under (M:=g8) (by simp;omega) (Fj (g:=g8) (Nat.le_refl g8) (show Below g8 w4 w4 from⟨rfl,rfl,rfl,Nat.le_refl _,fun _ _=>rfl⟩) (Cg f)));have af:=Hq (setRow_heap _ _ _ (Cg f) _ _ U.out);have ag:=Hq ((Aj w4 g8 (Cg f) g6 a6).trans ae.out);generalize w4.setRow g8 (Cg f)=A at H5 af ag ⊢;clear H4 U ae hc br
    try simp only[Act.put]
    go_upto_region 11 with fail;have hSn:A.drew.heap[w.heap.size+1]? =some (.cells (Rq9 r rA rn rc rB rm rd) 88 (0,0)):=H5.out.Ah;have Z0:Bw A A.drew:=(Below.refl _ A).drew;have Hy:=Hq (fun(u:World) (aq:u.heap[w.heap.size+1]? =some (.cells (Rq9 r rA rn rc rB rm rd) 88 (0,0)))=>(show u.cell? ⟨w.heap.size+1,10,none⟩=some (.string r.op.new)from(by rw[Aa aq];rfl)));refine E4 (S:=(fun u=>u.heap[w.heap.size+1]? =some (.cells (Rq9 r rA rn rc rB rm rd) 88 (0,0)))) (fun a=>?_);generalize A.drew=w6 at hSn Z0 ⊢;refine Au 0 ?_;refine Au 1 ?_;refine Au 2 ?_;refine Au 3 ?_;refine Au 4 ?_;refine Au 5 ?_;refine Bx 6 fun K c=>?_
    go_simp
    (refine(T.out _).mono ?_);rintro e w7 ⟨rfl,C⟩;have Z1:=Ae Z0 C;have d:=Ac hSn C;clear hSn;have hSn:=d;clear d
    refine Bl c (fun a=>?_);clear c K;refine Bx 7 fun K c=>?_
    go_simp
    (refine(O.out _).mono ?_);rintro e Z ⟨rfl,au⟩;have E:=Ae Z1 au;have d:=Ac hSn au;clear hSn;have hSn:=d;clear d
    refine Bl c (fun a=>?_);clear c K;refine Au 8 ?_;refine Bx 9 fun K c=>?_;have D:=Ac af.out E;have bd:=show Z.cell? ⟨g8,1,none⟩=some (.string f.bytes)from(by rw[Aa D];rfl);have bf:=Ao D 1;have Z5:=show(Z.setCell ⟨g8,1,none⟩ (.string pb)).heap[g8]? =some (.cells (Cg ⟨f.page,pb,f.pins,f.mark,f.rc⟩) 116 (0,0))from(by have:=Bs 1 D (.string pb);simpa using this);have Z6:=show(Z.setCell ⟨g8,1,none⟩ (.string pb)).heap[g6]? =some (.cells (Ai s p) 36 (0,0))from(Below.heap_setCell _ _ _ _ (by show g6≠g8;exact a6)).trans (Ac ag.out E);have Z7:=(H5.out.step E).under (M:=g8) (by simp;omega) ((Below.refl _ Z).setCell (p:=⟨g8,1,none⟩) (Nat.le_refl _) (.string pb));have Z8:=show Bw w (Z.setCell ⟨g8,1,none⟩ (.string pb))from(H5.out.step E).below.setCell (p:=⟨g8,1,none⟩) (by show w.heap.size≤g8;omega) _;have d:=show(Z.setCell ⟨g8,1,none⟩ (.string pb)).heap[w.heap.size+1]? =some (.cells (Rq9 r rA rn rc rB rm rd) 88 (0,0))from(Below.heap_setCell _ _ _ _ (by show w.heap.size+1≠g8;omega)).trans hSn
    go_simp
    clear hSn bd bf;have hSn:=d;clear d;generalize (Z.setCell ⟨g8,1,none⟩ (.string pb))=w9 at Z5 Z6 Z7 Z8 hSn ⊢;refine Bl c (fun a=>?_);clear c K;refine wpAnyH_done Kr ?_ _;clear a;have H9:=Hq Z7;have bg:=Hq Z5;have bh:=Hq Z6;have bs:=Hq Z8;clear Z0 Z1 E Z5 Z6 Z7 Z8 hSn D H5 ag af T O
    try simp only[Act.put]
    go_wp2_with(first
     |with_reducible refine lL bh.out Ak ?_
     |with_reducible refine lL bg.out Cw ?_
     |with_reducible refine lL H9.out.Ah Ds ?_
     |(go_at_call 193;refine(bc.out _ bs.out).mono ?_;rintro e cd ⟨q5,rfl,ah,av⟩;have I:=Hq (H9.out.step av))
     |with_reducible refine lS (Ai s q5) I.out.Ax ?_)
    refine rT2 () I.out.Ax Ak ?_;exact b0.out _ l.out _ q5 (ah.other (t:=36) I.out.Ax (by decide) (by decide) (by decide) _) (I.out.row 2 (Ai s q5) _ rfl).below
   |none=>
    have ar:Rk fs r.page= -1:=(by unfold Rk;rw[ha]);rw[ar];have cw:(-1:Int)<0:=(by decide);have l:=Hq (al.out P ha);have R:=Hq (show De s fs (A9 s fs).1=if(A9 s fs).1.e=0∨(A9 s fs).1.e=20 then(A9 s fs).1 else⟨s,fs,(A9 s fs).1.e⟩from rfl);clear ar ha P b1 ak al;generalize De s fs (A9 s fs).1=bk at l R;generalize A9 s fs=rr at a8 l b6 R aa;obtain⟨⟨xs,bj,xe⟩,xk⟩:=rr;simp only at a8 l b6 R aa;have cf:bj.length≤100:=(by omega);have cg:xk<bj.length:=by omega
    go_upto_region 7 with(first
     |with_reducible refine lL H4.out.Ag Ak ?_
     |(go_at_call 171;refine(a8.out _ H4.out.below).mono ?_;rintro e A ⟨q,rfl,ah,m,bt⟩)
     |with_reducible refine sN (Ai xs q) ?_)
    have G:=Ad A (.cells (Ai xs q) 36);have aw:=Hq (heap_alloc_new A (.cells (Ai xs q) 36));have H6:=Hq (H4.out.step (Ae m G));have b2:=Hq (Ac U.out (Ae m G));have ax:=Hq (Ac ae.out (Ae m G));have ai:=Hq (fun hx=>(ah hx).below G);obtain⟨g9,z⟩:=ex A.heap.size;obtain⟨w6,H⟩:=ex (A.alloc (.cells (Ai xs q) 36));rw[← z,← H]at aw;rw[← H]at H6 b2 ax ai;rw[← H,← z];have cn:g8<g9:=(by rw[z];exact Nat.lt_of_lt_of_le (C0 U.out) m.size);have cp:g6<g9:=(by rw[z];exact Nat.lt_of_lt_of_le (C0 ae.out) m.size);clear H z G m ah H4 U ae a8
    try simp only[Act.put]
    by_cases J:xe=0
    ·have ch:(xe != 0)=false:=by rw[J];rfl
     have aj:=Hq (l.out.trans (if_pos J));have ay:=Hq (ai.out (.inl J));have cj:=Hq (show ∀ ad,q.F=some ad→ad.block≠g8 from by
      rcases bt with hq|hf
      ·intro ad bu
       rw[hq]at bu;obtain⟨b,off,e,_,cx,_⟩:=Bi Cc HP.out.fr (j:=0) (by omega);rw[bu]at e
       injection e with e
       subst e
       show b≠g8
       omega
      ·exact oM ay.out.fr (by omega) (aa.out hf (by omega) (by omega)) b2.out)
     clear J l ai R aa bt
     go_upto_region 11 with(first|with_reducible refine lL aw.out Ak ?_|with_reducible refine lS (Ai xs q) ax.out ?_)
     have H7:=Hq (H6.out.under (M:=g6) (by simp;omega) (Fj (g:=g6) (Nat.le_refl g6) (show Below g6 w6 w6 from⟨rfl,rfl,rfl,Nat.le_refl _,fun _ _=>rfl⟩) (Ai xs q)));have bw:=Hq (setRow_heap _ _ _ (Ai xs q) _ _ ax.out);have bx:=Hq ((Aj w6 g6 (Ai xs q) g8 (fun e=>a6 e.symm)).trans b2.out);have bz:=Hq (ay.out.other (t:=36) ax.out (by decide) (by decide) (by decide) (Ai xs q));generalize w6.setRow g6 (Ai xs q)=w7 at H7 bw bx bz ⊢;clear H6 aw ax b2 ay
     try simp only[Act.put]
     obtain⟨A,rfl⟩:=ex w7;have H5:=Hq H7.out;have af:=Hq bx.out;have ag:=Hq bw.out;go_upto_region 11 with fail;have hSn:A.drew.heap[w.heap.size+1]? =some (.cells (Rq9 r rA rn rc rB rm rd) 88 (0,0)):=H5.out.Ah;have Z0:Bw A A.drew:=(Below.refl _ A).drew;have Hy:=Hq (fun(u:World) (aq:u.heap[w.heap.size+1]? =some (.cells (Rq9 r rA rn rc rB rm rd) 88 (0,0)))=>(show u.cell? ⟨w.heap.size+1,10,none⟩=some (.string r.op.new)from(by rw[Aa aq];rfl)));refine E4 (S:=(fun u=>u.heap[w.heap.size+1]? =some (.cells (Rq9 r rA rn rc rB rm rd) 88 (0,0)))) (fun a=>?_);generalize A.drew=w6 at hSn Z0 ⊢;refine Au 0 ?_;refine Au 1 ?_;refine Au 2 ?_;refine Au 3 ?_;refine Au 4 ?_;refine Au 5 ?_;refine Bx 6 fun K c=>?_
     go_simp
     (refine(T.out _).mono ?_);rintro e w7 ⟨rfl,C⟩;have Z1:=Ae Z0 C;have d:=Ac hSn C;clear hSn;have hSn:=d;clear d
     refine Bl c (fun a=>?_);clear c K;refine Bx 7 fun K c=>?_
     go_simp
     (refine(O.out _).mono ?_);rintro e Z ⟨rfl,au⟩;have E:=Ae Z1 au;have d:=Ac hSn au;clear hSn;have hSn:=d;clear d
     refine Bl c (fun a=>?_);clear c K;refine Au 8 ?_;refine Bx 9 fun K c=>?_;have D:=Ac af.out E;have bd:=show Z.cell? ⟨g8,1,none⟩=some (.string (⟨r.page,⟨#[]⟩,0,false,0⟩:Fr).bytes)from(by rw[Aa D];rfl);have bf:=Ao D 1;have Z5:=show(Z.setCell ⟨g8,1,none⟩ (.string pb)).heap[g8]? =some (.cells (Cg ⟨r.page,pb,0,false,0⟩) 116 (0,0))from(by have:=Bs 1 D (.string pb);simpa using this);have Z6:=show(Z.setCell ⟨g8,1,none⟩ (.string pb)).heap[g6]? =some (.cells (Ai xs q) 36 (0,0))from(Below.heap_setCell _ _ _ _ (by show g6≠g8;exact a6)).trans (Ac ag.out E);have Z7:=(H5.out.step E).under (M:=g8) (by simp;omega) ((Below.refl _ Z).setCell (p:=⟨g8,1,none⟩) (Nat.le_refl _) (.string pb));have Z9:=(bz.out.below E).own D cj.out 1 (.string pb);have Z8:=show Bw w (Z.setCell ⟨g8,1,none⟩ (.string pb))from(H5.out.step E).below.setCell (p:=⟨g8,1,none⟩) (by show w.heap.size≤g8;omega) _;have d:=show(Z.setCell ⟨g8,1,none⟩ (.string pb)).heap[w.heap.size+1]? =some (.cells (Rq9 r rA rn rc rB rm rd) 88 (0,0))from(Below.heap_setCell _ _ _ _ (by show w.heap.size+1≠g8;omega)).trans hSn
     go_simp
     clear hSn bd bf;have hSn:=d;clear d;generalize (Z.setCell ⟨g8,1,none⟩ (.string pb))=w9 at Z5 Z6 Z7 Z8 Z9 hSn ⊢;refine Bl c (fun a=>?_);clear c K;refine wpAnyH_done Kr ?_ _;clear a;have bc:=Hq (fun W (hb:Bw w9 W)=>K6 xs q bj cf xk cg ⟨r.page,pb,0,false,0⟩ r rA rn rc rB rm rd W (Z9.below hb));clear Z9;have H9:=Hq Z7;have bg:=Hq Z5;have bh:=Hq Z6;have bs:=Hq Z8;clear Z0 Z1 E Z5 Z6 Z7 Z8 hSn D H5 ag af T O
     try simp only[Act.put]
     go_wp2_with(first
      |with_reducible refine lL bh.out Ak ?_
      |with_reducible refine lL bg.out Cw ?_
      |with_reducible refine lL H9.out.Ah Ds ?_
      |(go_at_call 193;refine(bc.out _ (Below.refl _ _)).mono ?_;rintro e cd ⟨q5,rfl,ah,av⟩;have I:=Hq (H9.out.step av))
      |with_reducible refine lS (Ai xs q5) I.out.Ax ?_)
     refine rT2 () I.out.Ax Ak ?_;exact b0.out _ aj.out _ q5 (ah.other (t:=36) I.out.Ax (by decide) (by decide) (by decide) _) (I.out.row 2 (Ai xs q5) _ rfl).below
    ·have ch:(xe != 0)=true:=by rw[bne_iff_ne];exact J
     have aj:=Hq (l.out.trans (if_neg J));clear l T O
     by_cases a1:xe=20
     ·have bl:=Hq (fun W=>show Cr 172 #[Af s p,Af xs q,xe] W (Af xs q) from by
       have h0:=Hs s p xs q xe W;rw[if_pos a1]at h0;exact h0)
      have ay:=Hq (ai.out (.inr a1));have bm:=Hq (aj.out.trans (R.out.trans (if_pos (.inr a1))));clear J a1 ai R aj
      go_wp2_with(first
       |with_reducible refine lL H6.out.Ag Ak ?_
       |with_reducible refine lL aw.out Ak ?_
       |(go_at_call 172;refine(bl.out _).mono ?_;rintro e w7 ⟨rfl,C⟩;have H7:=Hq (H6.out.step C))
       |with_reducible refine lS (Ai xs q) H7.out.Ax ?_)
      refine rT2 xe H7.out.Ax Ak ?_;exact b0.out _ bm.out _ q ((ay.out.below C).other (t:=36) H7.out.Ax (by decide) (by decide) (by decide) _) (H7.out.row 2 (Ai xs q) _ rfl).below
     ·have bl:=Hq (fun W=>show Cr 172 #[Af s p,Af xs q,xe] W (Af s p) from by
       have h0:=Hs s p xs q xe W;rw[if_neg a1]at h0;exact h0)
      have bm:=Hq (aj.out.trans (R.out.trans (if_neg (fun h=>h.elim J a1))));clear J a1 ai R aj
      go_wp2_with(first
       |with_reducible refine lL H6.out.Ag Ak ?_
       |with_reducible refine lL aw.out Ak ?_
       |(go_at_call 172;refine(bl.out _).mono ?_;rintro e w7 ⟨rfl,C⟩;have H7:=Hq (H6.out.step C))
       |with_reducible refine lS (Ai s p) H7.out.Ax ?_)
      refine rT2 xe H7.out.Ax Ak ?_;exact b5.out _ (H7.out.row 2 (Ai s p) _ rfl).below xe bm.out
theorem dR {N n B:Nat}(s:Tx.St)(p:SP)(fs:List Fr)(hW:Wf N n B s fs)(hN:N≤3000)(r:Rc.Rec)(rA:Option Addr)(rn rc:Nat)(rB:Option Addr)(rm rd:Nat)(cy:r.op.new.size≤140737488355328)(D:ByteArray→ByteArray×Int)(hD:∀ b,(D b).2=0→Bj (D b).1=true)(w:World)
 (bu:∀ (b:ByteArray) W,b.size≤512→Bw w W→Cr 186 #[b,.agg #[r.op.kind,r.op.slot,r.op.Bd,r.op.new]] W (Gm (D b))) (h:An w s p fs):
 Cq 119 #[Af s p,.agg (Rq9 r rA rn rc rB rm rd)] w (Bk (Gr s fs r D) w):=by
 obtain⟨X,hX⟩:=ex (Gr s fs r D);rw[← hX];have b9:=hW.zp;have m:=Hq (fun W=>L4 s p r.page W);rw[b9]at m;have ba:=Hq (fun W (hb:Bw w W)=>aC s p fs hW hN r rA rn rc rB rm rd cy W (h.below hb));have T:=Hq (fun W (hb:Bw w W)=>show Cq 96 #[Af s p,r.page] W (Fi ((Aq s fs r.page).1,if(Aq s fs r.page).1.e=0 then(Cp (Aq s fs r.page).1.fs (Aq s fs r.page).2).bytes else⟨#[]⟩) W)from Mv s p fs hW hN r.page W (h.below hb));have bc:=Hq (fun W (hb:Bw w W) (e:Int)=>show X=⟨s,fs,e⟩→Bk X w (.returned (.tuple #[Af s p,e])) W from fun he=>by rw[he];exact⟨p,rfl,h.below hb,hb⟩);have an:=Hq (fun(Y:Px) (he:X=Y) w' (q:SP) (hp:An w' Y.s q Y.fs) (hb:Bw w w')=>show Bk X w (.returned (.tuple #[Af Y.s q,Y.e])) w' from by rw[he];exact⟨q,rfl,hp,hb⟩);have C:=Hq (show Gj s r↔(r.kind=2∨r.kind=3∨r.kind=8)∧(0≤r.page∧r.page<(n:Int))∧1≤r.lsn∧r.lsn<1099511627776 from by unfold Gj Gh;rw[b9]);have bf:=Hq (fun(A:¬ Gj s r)=>show X=⟨s,fs,1⟩from by rw[hX];unfold Gr;rw[if_pos A]);have ao:=Hq (fun(hy:Gj s r) (h8:r.kind=8)=>show X=Fh s fs r from by rw[hX];unfold Gr;rw[if_neg (fun A=>A hy),if_pos h8]);have U:=Hq (fun(hy:Gj s r) (h8:¬ r.kind=8)=>show X=if ¬ (Aq s fs r.page).1.e=0 then(Aq s fs r.page).1 else
  if r.lsn≤(((Ab (Cp (Aq s fs r.page).1.fs (Aq s fs r.page).2).bytes).lsn:Nat):Int)then(Aq s fs r.page).1 else
  if ¬ (D (Cp (Aq s fs r.page).1.fs (Aq s fs r.page).2).bytes).2=0 then⟨s,fs,(D (Cp (Aq s fs r.page).1.fs (Aq s fs r.page).2).bytes).2⟩else
  ⟨(Aq s fs r.page).1.s,(Aq s fs r.page).1.fs.set (Aq s fs r.page).2 (P1 (Cp (Aq s fs r.page).1.fs (Aq s fs r.page).2) (Cj (D (Cp (Aq s fs r.page).1.fs (Aq s fs r.page).2).bytes).1 r.lsn) r.lsn),0⟩from by rw[hX];unfold Gr;rw[if_neg (fun A=>A hy),if_neg h8])
 have au:=hW.held r.page;have cz:=hW.nf;have bw:=Hq bu;have HD:=Hq hD;clear hX hW h b9 bu hD;generalize Bk X w=Q at bc an ⊢;generalize Fh s fs r=im at ba ao;generalize Gj s r=ok at C bf ao U;generalize Aq s fs r.page=rr at T U au;obtain⟨⟨xs,G,xe⟩,xk⟩:=rr;simp only at T U au;have a1:xk<G.length:=by omega
 have da:G.length≤100:=by omega
 rw[Br a1]at U T;have av:=Hq au;obtain⟨f,aw⟩:=ex (G[xk]);rw[← aw]at U T;have a6:=Hq aw;have aq:f.bytes.size≤512:=by rw[aw];exact(av.out.1.fr xk a1).sz
 obtain⟨gb,bg⟩:=ex (if xe=0 then f.bytes else(⟨#[]⟩:ByteArray));rw[← bg]at T;have bx:=Hq bg;clear aw au cz bg;go_enter Tryz.func119,Tryz.ntmps119;go_upto_region 1 with fail;have E:=Jo w (Ai s p) 36 (Rq9 r rA rn rc rB rm rd) 88 Zq9 36;obtain⟨W0,bz⟩:=Dr E;rw[← bz]at E ⊢;clear bz;have ae:=show W0.cell? ⟨(w.heap.size+1),3,none⟩=some (.int .i64 r.kind)from by rw[Aa E.out.Ah];rfl
 have bh:=show W0.cell? ⟨(w.heap.size+1),4,none⟩=some (.int .i64 r.page)from by rw[Aa E.out.Ah];rfl
 have c6:=show W0.cell? ⟨(w.heap.size+1),0,none⟩=some (.int .i64 r.lsn)from by rw[Aa E.out.Ah];rfl
 go_cut [40] (fun x wc=>∃ bb:Bool,x= .bool bb∧(bb=true↔¬ ok)∧Bw W0 wc)
 case first=>
  by_cases a7:r.kind=2∨r.kind=3∨r.kind=8
  ·have bj:=Hq a7
   rcases a7 with hk|hk|hk
   ·rw[hk]at ae
    clear hk
    by_cases k:0≤r.page∧r.page<(n:Int)
    ·rw[decide_eq_true k]at m
     by_cases c7:r.lsn<1
     ·have a:true=true↔¬ ok:=⟨fun _ A=>by have:=C.out.1 A;omega,fun _=>rfl⟩
      have l:=Hq a;clear a k
      go_wp2_with(first|with_reducible refine lL E.out.Ag Ak ?_|(go_at_call 168;refine(m.out _).mono ?_;rintro e J ⟨rfl,c⟩;have O:=show J.cell? ⟨(w.heap.size+1),0,none⟩=some (.int .i64 r.lsn)from(by rw[Aa (Ac E.out.Ah c)];rfl)))
      go_meet
      case rel=>exact⟨true,by first|rfl|(rw[decide_eq_false (show ¬ r.lsn<1 by omega),decide_eq_false (show ¬ (1099511627776:Int)≤r.lsn by omega)];rfl),by simpa using l.out,c⟩
     ·by_cases c8:(1099511627776:Int)≤r.lsn
      ·have a:true=true↔¬ ok:=⟨fun _ A=>by have:=C.out.1 A;omega,fun _=>rfl⟩
       have l:=Hq a;clear a k
       go_wp2_with(first|with_reducible refine lL E.out.Ag Ak ?_|(go_at_call 168;refine(m.out _).mono ?_;rintro e J ⟨rfl,c⟩;have O:=show J.cell? ⟨(w.heap.size+1),0,none⟩=some (.int .i64 r.lsn)from(by rw[Aa (Ac E.out.Ah c)];rfl)))
       go_meet
       case rel=>exact⟨true,by first|rfl|(rw[decide_eq_false (show ¬ r.lsn<1 by omega),decide_eq_false (show ¬ (1099511627776:Int)≤r.lsn by omega)];rfl),by simpa using l.out,c⟩
      ·have a:false=true↔¬ ok:=⟨fun h=>absurd h (by decide),fun A=>absurd (C.out.2 ⟨bj.out,k,by omega,by omega⟩) A⟩
       have l:=Hq a;clear a k
       go_wp2_with(first|with_reducible refine lL E.out.Ag Ak ?_|(go_at_call 168;refine(m.out _).mono ?_;rintro e J ⟨rfl,c⟩;have O:=show J.cell? ⟨(w.heap.size+1),0,none⟩=some (.int .i64 r.lsn)from(by rw[Aa (Ac E.out.Ah c)];rfl)))
       go_meet
       case rel=>exact⟨false,by first|rfl|(rw[decide_eq_false (show ¬ r.lsn<1 by omega),decide_eq_false (show ¬ (1099511627776:Int)≤r.lsn by omega)];rfl),by simpa using l.out,c⟩
    ·rw[decide_eq_false k]at m
     have a:true=true↔¬ ok:=⟨fun _ A=>absurd (C.out.1 A).2.1 k,fun _=>rfl⟩;have l:=Hq a;clear a k
     go_wp2_with(first|with_reducible refine lL E.out.Ag Ak ?_|(go_at_call 168;refine(m.out _).mono ?_;rintro e J ⟨rfl,c⟩;have O:=show J.cell? ⟨(w.heap.size+1),0,none⟩=some (.int .i64 r.lsn)from(by rw[Aa (Ac E.out.Ah c)];rfl)))
     go_meet
     case rel=>exact⟨true,by first|rfl|(rw[decide_eq_false (show ¬ r.lsn<1 by omega),decide_eq_false (show ¬ (1099511627776:Int)≤r.lsn by omega)];rfl),by simpa using l.out,c⟩
   ·rw[hk]at ae
    clear hk
    by_cases k:0≤r.page∧r.page<(n:Int)
    ·rw[decide_eq_true k]at m
     by_cases c7:r.lsn<1
     ·have a:true=true↔¬ ok:=⟨fun _ A=>by have:=C.out.1 A;omega,fun _=>rfl⟩
      have l:=Hq a;clear a k
      go_wp2_with(first|with_reducible refine lL E.out.Ag Ak ?_|(go_at_call 168;refine(m.out _).mono ?_;rintro e J ⟨rfl,c⟩;have O:=show J.cell? ⟨(w.heap.size+1),0,none⟩=some (.int .i64 r.lsn)from(by rw[Aa (Ac E.out.Ah c)];rfl)))
      go_meet
      case rel=>exact⟨true,by first|rfl|(rw[decide_eq_false (show ¬ r.lsn<1 by omega),decide_eq_false (show ¬ (1099511627776:Int)≤r.lsn by omega)];rfl),by simpa using l.out,c⟩
     ·by_cases c8:(1099511627776:Int)≤r.lsn
      ·have a:true=true↔¬ ok:=⟨fun _ A=>by have:=C.out.1 A;omega,fun _=>rfl⟩
       have l:=Hq a;clear a k
       go_wp2_with(first|with_reducible refine lL E.out.Ag Ak ?_|(go_at_call 168;refine(m.out _).mono ?_;rintro e J ⟨rfl,c⟩;have O:=show J.cell? ⟨(w.heap.size+1),0,none⟩=some (.int .i64 r.lsn)from(by rw[Aa (Ac E.out.Ah c)];rfl)))
       go_meet
       case rel=>exact⟨true,by first|rfl|(rw[decide_eq_false (show ¬ r.lsn<1 by omega),decide_eq_false (show ¬ (1099511627776:Int)≤r.lsn by omega)];rfl),by simpa using l.out,c⟩
      ·have a:false=true↔¬ ok:=⟨fun h=>absurd h (by decide),fun A=>absurd (C.out.2 ⟨bj.out,k,by omega,by omega⟩) A⟩
       have l:=Hq a;clear a k
       go_wp2_with(first|with_reducible refine lL E.out.Ag Ak ?_|(go_at_call 168;refine(m.out _).mono ?_;rintro e J ⟨rfl,c⟩;have O:=show J.cell? ⟨(w.heap.size+1),0,none⟩=some (.int .i64 r.lsn)from(by rw[Aa (Ac E.out.Ah c)];rfl)))
       go_meet
       case rel=>exact⟨false,by first|rfl|(rw[decide_eq_false (show ¬ r.lsn<1 by omega),decide_eq_false (show ¬ (1099511627776:Int)≤r.lsn by omega)];rfl),by simpa using l.out,c⟩
    ·rw[decide_eq_false k]at m
     have a:true=true↔¬ ok:=⟨fun _ A=>absurd (C.out.1 A).2.1 k,fun _=>rfl⟩;have l:=Hq a;clear a k
     go_wp2_with(first|with_reducible refine lL E.out.Ag Ak ?_|(go_at_call 168;refine(m.out _).mono ?_;rintro e J ⟨rfl,c⟩;have O:=show J.cell? ⟨(w.heap.size+1),0,none⟩=some (.int .i64 r.lsn)from(by rw[Aa (Ac E.out.Ah c)];rfl)))
     go_meet
     case rel=>exact⟨true,by first|rfl|(rw[decide_eq_false (show ¬ r.lsn<1 by omega),decide_eq_false (show ¬ (1099511627776:Int)≤r.lsn by omega)];rfl),by simpa using l.out,c⟩
   ·rw[hk]at ae
    clear hk
    by_cases k:0≤r.page∧r.page<(n:Int)
    ·rw[decide_eq_true k]at m
     by_cases c7:r.lsn<1
     ·have a:true=true↔¬ ok:=⟨fun _ A=>by have:=C.out.1 A;omega,fun _=>rfl⟩
      have l:=Hq a;clear a k
      go_wp2_with(first|with_reducible refine lL E.out.Ag Ak ?_|(go_at_call 168;refine(m.out _).mono ?_;rintro e J ⟨rfl,c⟩;have O:=show J.cell? ⟨(w.heap.size+1),0,none⟩=some (.int .i64 r.lsn)from(by rw[Aa (Ac E.out.Ah c)];rfl)))
      go_meet
      case rel=>exact⟨true,by first|rfl|(rw[decide_eq_false (show ¬ r.lsn<1 by omega),decide_eq_false (show ¬ (1099511627776:Int)≤r.lsn by omega)];rfl),by simpa using l.out,c⟩
     ·by_cases c8:(1099511627776:Int)≤r.lsn
      ·have a:true=true↔¬ ok:=⟨fun _ A=>by have:=C.out.1 A;omega,fun _=>rfl⟩
       have l:=Hq a;clear a k
       go_wp2_with(first|with_reducible refine lL E.out.Ag Ak ?_|(go_at_call 168;refine(m.out _).mono ?_;rintro e J ⟨rfl,c⟩;have O:=show J.cell? ⟨(w.heap.size+1),0,none⟩=some (.int .i64 r.lsn)from(by rw[Aa (Ac E.out.Ah c)];rfl)))
       go_meet
       case rel=>exact⟨true,by first|rfl|(rw[decide_eq_false (show ¬ r.lsn<1 by omega),decide_eq_false (show ¬ (1099511627776:Int)≤r.lsn by omega)];rfl),by simpa using l.out,c⟩
      ·have a:false=true↔¬ ok:=⟨fun h=>absurd h (by decide),fun A=>absurd (C.out.2 ⟨bj.out,k,by omega,by omega⟩) A⟩
       have l:=Hq a;clear a k
       go_wp2_with(first|with_reducible refine lL E.out.Ag Ak ?_|(go_at_call 168;refine(m.out _).mono ?_;rintro e J ⟨rfl,c⟩;have O:=show J.cell? ⟨(w.heap.size+1),0,none⟩=some (.int .i64 r.lsn)from(by rw[Aa (Ac E.out.Ah c)];rfl)))
       go_meet
       case rel=>exact⟨false,by first|rfl|(rw[decide_eq_false (show ¬ r.lsn<1 by omega),decide_eq_false (show ¬ (1099511627776:Int)≤r.lsn by omega)];rfl),by simpa using l.out,c⟩
    ·rw[decide_eq_false k]at m
     have a:true=true↔¬ ok:=⟨fun _ A=>absurd (C.out.1 A).2.1 k,fun _=>rfl⟩;have l:=Hq a;clear a k
     go_wp2_with(first|with_reducible refine lL E.out.Ag Ak ?_|(go_at_call 168;refine(m.out _).mono ?_;rintro e J ⟨rfl,c⟩;have O:=show J.cell? ⟨(w.heap.size+1),0,none⟩=some (.int .i64 r.lsn)from(by rw[Aa (Ac E.out.Ah c)];rfl)))
     go_meet
     case rel=>exact⟨true,by first|rfl|(rw[decide_eq_false (show ¬ r.lsn<1 by omega),decide_eq_false (show ¬ (1099511627776:Int)≤r.lsn by omega)];rfl),by simpa using l.out,c⟩
  ·have a:true=true↔¬ ok:=⟨fun _ A=>absurd (C.out.1 A).1 a7,fun _=>rfl⟩
   have l:=Hq a;have dn:(r.kind != 2)=true:=(by rw[bne_iff_ne];exact fun e=>a7 (by omega));have dp:(r.kind != 3)=true:=(by rw[bne_iff_ne];exact fun e=>a7 (by omega));have dq:(r.kind != 8)=true:=(by rw[bne_iff_ne];exact fun e=>a7 (by omega));clear a a7;go_wp2_with fail;go_meet
   case rel=>exact⟨true,by first|rfl|(rw[decide_eq_false (show ¬ r.lsn<1 by omega),decide_eq_false (show ¬ (1099511627776:Int)≤r.lsn by omega)];rfl),by simpa using l.out,Below.refl _ _⟩
 case rest=>
  obtain⟨bb,rfl,af,ca⟩:=hcut;obtain⟨J,rfl⟩:=ex wc;have H1:=Hq (E.out.step ca);clear ae bh c6 ca m E C
  cases bb with
  |true=>
   have H:=Hq (bf.out (af.1 rfl));clear af
   go_wp2_with(first|with_reducible refine lL H1.out.Ag Ak ?_|with_reducible refine lS (Ai s p) H1.out.Ax ?_)
   refine rT2 (.int .i64 1) H1.out.Ax Ak ?_;exact bc.out _ (H1.out.row 2 (Ai s p) _ rfl).below 1 H.out
  |false=>
   have bl:=Hq (show ok from Classical.byContradiction fun A=>absurd (af.2 A) (by decide));have ae:=show J.cell? ⟨(w.heap.size+1),3,none⟩=some (.int .i64 r.kind)from(by rw[Aa H1.out.Ah];rfl);clear af bf
   by_cases h8:r.kind=8
   ·have V:(r.kind==8)=true:=by rw[h8];rfl
    have H:=Hq (ao.out bl.out h8);clear h8 U ao T
    go_wp2_with(first
     |with_reducible refine lL H1.out.Ag Ak ?_
     |with_reducible refine lL H1.out.Ah Ds ?_
     |(go_at_call 191;refine(ba.out _ H1.out.below).mono ?_;rintro e w2 ⟨q,rfl,db,dc⟩;have H2:=Hq (H1.out.step dc))
     |with_reducible refine lS (Ai im.s q) H2.out.Ax ?_)
    refine rT2 (im.e) H2.out.Ax Ak ?_;exact an.out im H.out _ q (db.other (t:=36) H2.out.Ax (by decide) (by decide) (by decide) _) (H2.out.row 2 (Ai im.s q) _ rfl).below
   ·have V:(r.kind==8)=false:=beq_eq_false_iff_ne.2 h8
    have ax:=Hq (U.out bl.out h8);have bh:=show J.cell? ⟨(w.heap.size+1),4,none⟩=some (.int .i64 r.page)from(by rw[Aa H1.out.Ah];rfl);clear h8 U ao ba bl
    go_upto_region 6 with(first
     |with_reducible refine lL H1.out.Ag Ak ?_
     |(go_at_call 96;refine(T.out _ H1.out.below).mono ?_;rintro e w4 ⟨q,rfl,cb,ay⟩)
     |with_reducible refine sN (Ai xs q) ?_)
    have I:=ay.trans ((Ad w4 (.cells (Ai xs q) 36)).mono ay.size);have H5:=Hq (H1.out.step I);have az:=Hq (heap_alloc_new w4 (.cells (Ai xs q) 36));have b0:=Hq (cb.below (Ad w4 (.cells (Ai xs q) 36)));have dd:(w.heap.size+2)<w4.heap.size:=Nat.lt_of_lt_of_le (H1.out.lt (i:=2) (by simp)) ay.size;obtain⟨g,hg⟩:=ex w4.heap.size;obtain⟨w5,b1⟩:=ex (w4.alloc (.cells (Ai xs q) 36));rw[← hg,← b1]at az;rw[← b1]at H5 b0;rw[← b1,← hg];rw[← hg]at dd;clear b1 hg ay I cb H1 T bh ae V
    try simp only[Act.put]
    by_cases ag:xe=0
    case neg=>
     have de:(xe != 0)=true:=(by rw[bne_iff_ne];exact ag);have H:=Hq (show X=⟨xs,G,xe⟩from by rw[ax.out,if_pos ag]);clear ag ax
     go_wp2_with(first|with_reducible refine lL az.out Ak ?_|with_reducible refine lS (Ai xs q) H5.out.Ax ?_)
     refine rT2 xe H5.out.Ax Ak ?_;exact an.out _ H.out _ q (b0.out.other (t:=36) H5.out.Ax (by decide) (by decide) (by decide) _) (H5.out.row 2 (Ai xs q) _ rfl).below
    have de:(xe != 0)=false:=(by rw[ag];rfl);obtain⟨fb,b2⟩:=ex f.bytes;obtain rfl:gb=fb:=(by rw[bx.out,if_pos ag,b2]);subst ag;have Z:=Hq (ax.out.trans (if_neg (fun A=>A rfl)));clear ax bx;have df:=Hq b2;rw[← b2]at Z aq;clear b2;go_upto_region 8 with fail;have bm:=Hq (fun W=>N4 gb (by omega) W);have b3:=Hq (fun W hb=>bw.out gb W aq hb);have b4:=Hq (HD.out gb);generalize (Ab gb).lsn=ln at bm Z;generalize D gb=bd at b3 b4 Z;obtain⟨b,be⟩:=bd;simp only at b3 b4 Z;clear bw HD
    go_cut [66] (fun x wc=>x= .bool (decide (r.lsn≤((ln:Nat):Int)))∧Bw w5 wc)
    case first=>
     have hSn:w5.drew.heap[w.heap.size+1]? =some (.cells (Rq9 r rA rn rc rB rm rd) 88 (0,0)):=H5.out.Ah;have Z0:Bw w5 w5.drew:=(Below.refl _ w5).drew;have Hy:=Hq (fun(u:World) (ah:u.heap[w.heap.size+1]? =some (.cells (Rq9 r rA rn rc rB rm rd) 88 (0,0)))=>(show u.cell? ⟨w.heap.size+1,0,none⟩=some (.int .i64 r.lsn)from(by rw[Aa ah];rfl)));refine E4 (S:=(fun u=>u.heap[w.heap.size+1]? =some (.cells (Rq9 r rA rn rc rB rm rd) 88 (0,0)))) (fun d=>?_);generalize w5.drew=w9 at hSn Z0 ⊢;refine Au 0 ?_;refine Au 2 ?_;refine Au 3 ?_;refine Bx 1 fun K F=>?_
     go_simp
     (refine(bm.out _).mono ?_);rintro e w6 ⟨rfl,L⟩;have Z1:=Ae Z0 L;have P:=Ac hSn L;clear hSn;have hSn:=P;clear P
     refine Bl F (fun d=>?_);clear F K;refine Au 4 ?_;refine wpAnyH_done Kr ?_ _;clear d;go_wp2_with fail;go_meet
     case rel=>exact⟨rfl,Z1⟩
    case rest=>
     obtain⟨rfl,L⟩:=hcut;obtain⟨w6,rfl⟩:=ex wc;have H6:=Hq (H5.out.step L);have bn:=Hq (Ac az.out L);have bo:=Hq (b0.out.below L);clear L H5 az b0 bm
     by_cases ai:r.lsn≤((ln:Nat):Int)
     ·rw[decide_eq_true ai]
      have H:=Hq (Z.out.trans (if_pos ai));clear ai Z
      go_wp2_with(first|with_reducible refine lL bn.out Ak ?_|with_reducible refine lS (Ai xs q) H6.out.Ax ?_)
      refine rT2 () H6.out.Ax Ak ?_;exact an.out _ H.out _ q (bo.out.other (t:=36) H6.out.Ax (by decide) (by decide) (by decide) _) (H6.out.row 2 (Ai xs q) _ rfl).below
     ·rw[decide_eq_false ai]
      have b5:=Hq (Z.out.trans (if_neg ai));clear ai Z;have cc:=Hq (b3.out w6 H6.out.below);clear b3
      go_upto_region 11 with(first
       |with_reducible refine lP #[r.op.kind,r.op.slot,r.op.Bd,r.op.new] H6.out.Ah gF ?_
       |(go_at_call 186;(refine cc.out.mono ?_);rintro e w7 ⟨rfl,b6⟩))
      have H7:=Hq (H6.out.step b6);have ar:=Hq (Ac bn.out b6);have aj:=Hq (bo.out.below b6);clear b6 H6 bn bo cc
      by_cases a8:be=0
      case neg=>
       have af:(be != 0)=true:=(by rw[bne_iff_ne];exact a8);have H:=Hq (show X=⟨s,fs,be⟩from by rw[b5.out,if_pos a8]);clear a8 b5
       go_wp2_with(first|with_reducible refine lL H7.out.Ag Ak ?_|with_reducible refine lS (Ai s p) H7.out.Ax ?_)
       refine rT2 be H7.out.Ax Ak ?_;exact bc.out _ (H7.out.row 2 (Ai s p) _ rfl).below be H.out
      have af:(be != 0)=false:=(by rw[a8];rfl);have cd:=Hq (b4.out a8);have H:=Hq (b5.out.trans (if_neg (fun A=>A a8)));clear b5 b4 a8;obtain⟨v,rfl⟩:=ex w7;have bp:=Hq (fun W=>Gu b r.lsn (by have:=Fa cd.out;omega) W);generalize Cj b r.lsn=z at bp H;have cf:=Hq (fun W (hp:An W xs q G)=>show Cq 193 #[Af xs q,.int .i64 (xk:Int),.agg (Cg ⟨f.page,z,f.pins,f.mark,f.rc⟩),.agg (Rq9 r rA rn rc rB rm rd)] W fun e w'=>∃ q',e= .returned (Af xs q')∧An w' xs q' (G.set xk (P1 f z r.lsn))∧Bw W w' from K6 xs q G da xk a1 ⟨f.page,z,f.pins,f.mark,f.rc⟩ r rA rn rc rB rm rd W hp);generalize G.set xk (P1 f z r.lsn)=F2 at cf H;have bq:=Hq av.out.1;have ak:=av.out.2.2.2 trivial;rw[Br a1,← a6.out]at ak;have cg:Rk G r.page=(xk:Int):=by
       unfold Rk;rw[Hc a1 ⟨by rw[← a6.out];exact ak.2.1,by rw[← a6.out];exact ak.2.2⟩ fun j hj dt hc=>bq.out.ds j xk hj a1 (by omega) hc.1 (by rw[← a6.out];exact ak.2.1) (hc.2.trans (by rw[← a6.out];exact ak.2.2.symm))]
      have br:=Hq (fun W (hp:An W xs q G)=>show Cr 51 #[Af xs q,r.page] W (.int .i64 (xk:Int)) from by rw[← cg];exact Kq xs q G bq.out r.page W hp);have c6:(0:Int)≤(xk:Int):=(by omega);have du:(xk:Int)<(G.length:Int):=(by omega);obtain⟨bk,off,ch,dh,cj,aa⟩:=Bi Cc aj.out.fr a1;rw[← a6.out]at aa;have bs:=Hq (fun u (R:Bw v u)=>show u.rangeAt bk (off+xk*5) (F4 f)from fun i y hy=>by rw[R.cell (p:=⟨bk,off+xk*5+i,none⟩) cj];exact aa i y hy);have ck:=Hq (fun u (R:Bw v u)=>show u.cell? ⟨g,11,none⟩=some (.slice (some ⟨bk,off,none⟩) G.length q.fc)from by rw[Aa (Ac ar.out R),← ch,← aj.out.fn];rfl);have cm:=Hq (fun u (R:Bw v u)=>show u.cell? ⟨(w.heap.size+1),4,none⟩=some (.int .i64 r.page)from by rw[Aa (Ac H7.out.Ah R)];rfl);clear aa dh cj ch av ak cg a6 df bq aq cd;go_upto_region 13 with fail
      go_cut [10] (fun x wc=>∃ g9,x= .pointer (some ⟨g9,0,none⟩)∧wc.heap[g9]? =some (.cells (Cg f) 116 (0,0))∧v.heap.size≤g9∧Bw v wc)
      case first=>
       have Z0:Bw v v.drew:=(Below.refl _ v).drew;have Hy:=Hq (fun(u:World) (ah:Bw v u)=>(And.intro (ck.out u ah) (cm.out u ah)));refine E4 (S:=(fun u=>Bw v u)) (fun d=>?_);refine Au 0 ?_;refine Au 1 ?_;refine Au 2 ?_;refine Kt 3 (some 82) (v:=.agg (Ai xs q)) rfl (yieldsIf_load_mid (by rfl) 36 (.tmp 6) rfl g 0 (by rfl) (Ai xs q).toList _ (fun u R=>(by intro j y hj;rw[Nat.zero_add,Aa (Ac ar.out R)];simpa using hj)) Ak Kr Kr) ?_
       try simp only[Act.put,pS]
       refine Au 4 ?_;refine Au 5 ?_;refine wpAnyH_ready (rs:=[6,9]) Kr (by simp) ?_;refine(AllReadyH.cons (o:={dst:=some 85,op:=_,type:=_,pos:=_,after:=_,guard:=_}) rfl (fun K F=>?_) (AllReadyH.cons (o:={dst:=some 10,op:=_,type:=_,pos:=_,after:=_,guard:=_}) rfl (fun K F=>?_) AllReadyH.nil))
       ·
        go_simp
        refine(br.out _ (aj.out.below Z0)).mono ?_;rintro e w5 ⟨rfl,I⟩;have Z2:=Ae Z0 I;try clear hSn
        have hSn:=Z2;refine Bl F (fun d=>?_);clear F K;refine Au 7 ?_;refine Kt 8 (some 87) (v:=.agg (Cg f)) rfl (yieldsIf_load_mid (by rfl) 116 (.tmp 86) rfl bk (off+xk*5) (by rfl) (F4 f) _ (fun u R=>bs.out u R) Cw Kr Kr) ?_
        try simp only[Act.put,pS]
        refine Bx 9 fun K F=>?_
        go_simp
        have HG:=heap_alloc_new w5 (.cells #[(),"",(),false,()] 116);have Z3:=Ae Z2 (Ad w5 (.cells #[(),"",(),false,()] 116));clear hSn;have hSn:=Z3;refine Bl F (fun d=>?_);clear F K;refine Bx 10 fun K F=>?_;refine Az (by rfl) ?_;refine sW (Cg f) HG ?_;have Z4:=Fj (g:=w5.heap.size) (by have:=Z2.size;omega) Z3 (Cg f);have al:=setRow_heap _ _ _ (Cg f) _ _ HG;have ad:v.heap.size≤w5.heap.size:=(by have:=Z2.size;omega);clear hSn;have hSn:=Z4;refine Bl F (fun d=>?_);clear F K;refine wpAnyH_done Kr ?_ _;clear d hSn;go_wp2_with fail;go_meet
        case rel=>exact⟨_,rfl,al,ad,Z4⟩
       ·
        go_simp
        have Z1:=Ae Z0 (Ad v.drew (.cells #[(),"",(),false,()] 116));have hSn:=Z1;refine Bl F (fun d=>?_);clear F K;refine Bx 6 fun K F=>?_
        go_simp
        refine(br.out _ (aj.out.below Z1)).mono ?_;rintro e w5 ⟨rfl,I⟩;have Z2:=Ae Z1 I;try clear hSn
        have hSn:=Z2;have HG:=Cb I;refine Bl F (fun d=>?_);clear F K;refine Au 7 ?_;refine Kt 8 (some 87) (v:=.agg (Cg f)) rfl (yieldsIf_load_mid (by rfl) 116 (.tmp 86) rfl bk (off+xk*5) (by rfl) (F4 f) _ (fun u R=>bs.out u R) Cw Kr Kr) ?_
        try simp only[Act.put,pS]
        refine Bx 10 fun K F=>?_;refine Az (by rfl) ?_;refine sW (Cg f) HG ?_;have Z4:=Fj (g:=v.drew.heap.size) (by show v.heap.size≤v.heap.size;omega) Z2 (Cg f);have al:=setRow_heap _ _ _ (Cg f) _ _ HG;have ad:v.heap.size≤v.drew.heap.size:=(by show v.heap.size≤v.heap.size;omega);clear hSn;have hSn:=Z4;refine Bl F (fun d=>?_);clear F K;refine wpAnyH_done Kr ?_ _;clear d hSn;go_wp2_with fail;go_meet
        case rel=>exact⟨_,rfl,al,ad,Z4⟩
      case rest=>
       obtain⟨g9,rfl,cn,ad,b7⟩:=hcut;obtain⟨v2,rfl⟩:=ex wc;have cp:=Hq cn;have H9:=Hq (H7.out.step b7);have cq:=Hq (Ac ar.out b7);have cr:=Hq b7;have dr:g<g9:=Nat.lt_of_lt_of_le (C0 ar.out) ad;clear cn b7 ar H7 bs ck cm;have ct:=show v2.cell? ⟨(w.heap.size+1),0,none⟩=some (.int .i64 r.lsn)from by rw[Aa H9.out.Ah];rfl
       go_upto_region 15 with(go_at_call 101;refine(bp.out _).mono ?_;rintro e w8 ⟨rfl,V⟩;have b8:=Ac cp.out V;have di:=show w8.cell? ⟨g9,1,none⟩=some (.string f.bytes)from(by rw[Aa b8];rfl);have dj:=Ao b8 1)
       have al:=Hq (show(w8.setCell ⟨g9,1,none⟩ (.string z)).heap[g9]? =some (.cells (Cg ⟨f.page,z,f.pins,f.mark,f.rc⟩) 116 (0,0))from by have:=Bs 1 b8 (.string z);simpa using this);have H4:=Hq ((H9.out.step V).under (M:=g9) (by simp;omega) ((show Below g9 w8 w8 from⟨rfl,rfl,rfl,Nat.le_refl _,fun _ _=>rfl⟩).setCell (p:=⟨g9,1,none⟩) (Nat.le_refl _) (.string z)));have cu:=Hq (show(w8.setCell ⟨g9,1,none⟩ (.string z)).heap[g]? =_ from(Below.heap_setCell _ _ _ _ (by show g≠g9;omega)).trans (Ac cq.out V));have cv:=Hq (aj.out.below ((Ae cr.out V).setCell (p:=⟨g9,1,none⟩) ad (.string z)));generalize w8.setCell ⟨g9,1,none⟩ (.string z)=v3 at al H4 cu cv ⊢;clear ct di dj b8 V cp H9 cq cr aj ad bp
       try simp only[Act.put]
       have hSn:v3.drew.heap[g]? =some (.cells (Ai xs q) 36 (0,0))∧v3.drew.heap[g9]? =some (.cells (Cg ⟨f.page,z,f.pins,f.mark,f.rc⟩) 116 (0,0))∧v3.drew.heap[w.heap.size+1]? =some (.cells (Rq9 r rA rn rc rB rm rd) 88 (0,0)):=⟨cu.out,al.out,H4.out.Ah⟩;have H8:=H4.out.drew;have bt:=cv.out.below (Below.refl _ v3).drew;have Hy:=Hq (fun(u:World) (ah:u.heap[g]? =some (.cells (Ai xs q) 36 (0,0))∧u.heap[g9]? =some (.cells (Cg ⟨f.page,z,f.pins,f.mark,f.rc⟩) 116 (0,0))∧u.heap[w.heap.size+1]? =some (.cells (Rq9 r rA rn rc rB rm rd) 88 (0,0)))=>(show u.cell? ⟨w.heap.size+1,4,none⟩=some (.int .i64 r.page)from(by rw[Aa ah.2.2];rfl)));refine E4 (S:=(fun u=>u.heap[g]? =some (.cells (Ai xs q) 36 (0,0))∧u.heap[g9]? =some (.cells (Cg ⟨f.page,z,f.pins,f.mark,f.rc⟩) 116 (0,0))∧u.heap[w.heap.size+1]? =some (.cells (Rq9 r rA rn rc rB rm rd) 88 (0,0)))) (fun d=>?_);generalize v3.drew=v9 at hSn H8 bt ⊢;refine Kt 0 (some 93) (v:=.agg (Ai xs q)) rfl (yieldsIf_load_mid (by rfl) 36 (.tmp 6) rfl g 0 (by rfl) (Ai xs q).toList _ (fun u R=>(by intro j y hj;rw[Nat.zero_add,Aa R.1];simpa using hj)) Ak Kr Kr) ?_
       try simp only[Act.put,pS]
       refine Kt 1 (some 94) (v:=.agg (Ai xs q)) rfl (yieldsIf_load_mid (by rfl) 36 (.tmp 6) rfl g 0 (by rfl) (Ai xs q).toList _ (fun u R=>(by intro j y hj;rw[Nat.zero_add,Aa R.1];simpa using hj)) Ak Kr Kr) ?_
       try simp only[Act.put,pS]
       refine Au 2 ?_;refine Au 3 ?_;refine Kt 5 (some 98) (v:=.agg (Cg ⟨f.page,z,f.pins,f.mark,f.rc⟩)) rfl (yieldsIf_load_mid (by rfl) 116 (.tmp 10) rfl g9 0 (by rfl) (Cg ⟨f.page,z,f.pins,f.mark,f.rc⟩).toList _ (fun u R=>(by intro j y hj;rw[Nat.zero_add,Aa R.2.1];simpa using hj)) Cw Kr Kr) ?_
       try simp only[Act.put,pS]
       refine Kt 6 (some 99) (v:=.agg (Rq9 r rA rn rc rB rm rd)) rfl (yieldsIf_load_mid (by rfl) 88 (.tmp 3) rfl (w.heap.size+1) 0 (by rfl) #[.int .i64 r.lsn,.int .i64 r.prev,.int .i64 r.txn,.int .i64 r.kind,.int .i64 r.page,.int .i64 r.next,.int .i64 r.num,.int .i64 r.op.kind,.int .i64 r.op.slot,.string r.op.Bd,.string r.op.new,.int .i64 r.how,.int .i64 r.root,.string r.e.key,.int .i64 r.e.page,.int .i64 r.e.slot,.slice rA rn rc,.slice rB rm rd].toList _ (fun u R=>(by intro j y hj;rw[Nat.zero_add,Aa R.2.2];simpa using hj)) Ds Kr Kr) ?_
       try simp only[Act.put,pS]
       refine Bx 4 fun K F=>?_
       go_simp
       (refine(br.out _ bt).mono ?_);rintro e w5 ⟨rfl,I⟩;have H7:=H8.step I;have dk:=bt.below I;have P:=And.intro (Ac hSn.1 I) (And.intro (Ac hSn.2.1 I) (Ac hSn.2.2 I));clear hSn;have hSn:=P;clear P
       refine Bl F (fun d=>?_);clear F K;refine Bx 7 fun K F=>?_
       go_simp
       (refine(cf.out _ dk).mono ?_);rintro e w6 ⟨q6,rfl,dm,L⟩;have H6:=H7.step L;have P:=And.intro (Ac hSn.1 L) (And.intro (Ac hSn.2.1 L) (Ac hSn.2.2 L));clear hSn;have hSn:=P;clear P
       refine Bl F (fun d=>?_);clear F K;refine Bx 8 fun K F=>?_;refine Az (by rfl) ?_;refine sW (Ai xs q6) H6.Ax ?_;have cw:=H6.row 2 (Ai xs q6) _ rfl;have cx:=dm.other (t:=36) H6.Ax (by decide) (by decide) (by decide) (Ai xs q6);have P:=And.intro ((Aj _ _ (Ai xs q6) _ (show g≠w.heap.size+2 by omega)).trans hSn.1) (And.intro ((Aj _ _ (Ai xs q6) _ (show g9≠w.heap.size+2 by omega)).trans hSn.2.1) ((Aj _ _ (Ai xs q6) _ (show w.heap.size+1≠w.heap.size+2 by omega)).trans hSn.2.2));clear hSn;have hSn:=P;clear P;refine Bl F (fun d=>?_);clear F K;refine Au 9 ?_;refine wpAnyH_done Kr ?_ _;clear d;go_wp2_with fail;refine bodyPost_ret (v:=.tuple #[.agg (Ai xs q6),()]) (Mz rfl _ _ rfl (Ct cw.Ax Ak Kr Kr) rfl) rfl ?_;exact an.out _ H.out _ q6 cx cw.below
theorem jY {N n B:Nat}(s:Tx.St)(p:SP)(fs:List Fr)(hW:Wf N n B s fs)(hB:B≤1000000)(hN:N≤3000)(pg:Int)(w:World)(h:An w s p fs):
 Cq 114 #[Af s p,pg] w (Bk (My s fs pg) w):=by
 have z:=Hq (fun W (hb:Bw w W)=>show Cq 96 #[Af s p,pg] W (Fi ((Aq s fs pg).1,if(Aq s fs pg).1.e=0 then(Cp (Aq s fs pg).1.fs (Aq s fs pg).2).bytes else⟨#[]⟩) W)from Mv s p fs hW hN pg W (h.below hb));have O:=hW.held pg;obtain⟨X,hX⟩:=ex (My s fs pg);rw[← hX];have a6:=Hq (fun(Y:Px) (he:X=Y) w' (q:SP) (hp:An w' Y.s q Y.fs) (hb:Bw w w')=>show Bk X w (.returned (.tuple #[Af Y.s q,Y.e])) w' from by rw[he];exact⟨q,rfl,hp,hb⟩);unfold My at hX;have HX:=Hq hX;have b2:=hW.nf;clear h hX hW;generalize Bk X w=Q at a6 ⊢;generalize Aq s fs pg=rr at z HX O;obtain⟨⟨xs,d,xe⟩,H⟩:=rr;simp only at z HX O;have A:H<d.length:=by omega
 rw[Br A]at HX z;have a7:=Hq O;clear O;obtain⟨f,a8⟩:=ex (d[H]);rw[← a8]at HX z;have l:=Hq a8;obtain⟨gb,aj⟩:=ex (if xe=0 then f.bytes else(⟨#[]⟩:ByteArray));rw[← aj]at z;clear a8 aj;go_enter Tryz.func114,Tryz.ntmps114;go_upto_region 1 with fail;have H0:=Il w (Ai s p) 36 Zq9 36;obtain⟨W0,ak⟩:=Dr H0;rw[← ak]at H0 ⊢;clear ak
 go_upto_region 2 with(first
  |with_reducible refine lL H0.out.Ag Ak ?_
  |(go_at_call 96;refine(z.out _ H0.out.below).mono ?_;rintro e w3 ⟨q,rfl,al,aa⟩)
  |with_reducible refine sN (Ai xs q) ?_)
 have b3:(w.heap.size+1)<w3.heap.size:=Nat.lt_of_lt_of_le (H0.out.lt (i:=1) (by simp)) aa.size;have ad:=Ad w3 (.cells (Ai xs q) 36);have C:=Hq (heap_alloc_new w3 (.cells (Ai xs q) 36));have L:=Hq (H0.out.step (Ae aa ad));have m:=Hq (al.below ad);obtain⟨g6,P⟩:=ex w3.heap.size;obtain⟨v,R⟩:=ex (w3.alloc (.cells (Ai xs q) 36));rw[← P,← R]at C;rw[← R]at L m;rw[← R,← P];rw[← P]at b3;clear R P ad aa al H0 z
 try simp only[Act.put]
 by_cases D:xe=0
 case neg=>
  have b4:(xe != 0)=true:=by rw[bne_iff_ne];exact D
  have ae:=Hq (show X=⟨xs,d,xe⟩from by rw[HX.out,if_neg D]);clear D HX
  go_wp2_with(first|with_reducible refine lL C.out Ak ?_|with_reducible refine lS (Ai xs q) L.out.Ah ?_)
  refine rT2 xe L.out.Ah Ak ?_;exact a6.out _ ae.out _ q (m.out.other (t:=36) L.out.Ah (by decide) (by decide) (by decide) _) (L.out.row 1 (Ai xs q) _ rfl).below
 have b4:(xe != 0)=false:=by rw[D];rfl
 have ae:=Hq (show X=⟨xs,d.set H {f with pins:=f.pins+1},0⟩from by rw[HX.out,if_pos D]);have T:=Hq a7.out.1;have I:=a7.out.2.2.2 D;rw[Br A,← l.out]at I;have an:Rk d pg=(H:Int):=by
  unfold Rk;rw[Hc A ⟨by rw[← l.out];exact I.2.1,by rw[← l.out];exact I.2.2⟩ fun j U bf hc=>T.out.ds j H U A (by omega) hc.1 (by rw[← l.out];exact I.2.1) (hc.2.trans (by rw[← l.out];exact I.2.2.symm))]
 have af:=Hq (fun W (hp:An W xs q d)=>show Cr 51 #[Af xs q,pg] W (.int .i64 (H:Int)) from by rw[← an];exact Kq xs q d T.out pg W hp);have ao:=(T.out.fr H A).pn;rw[← l.out]at ao;have a1:d.length≤100:=by have:=T.out.nf;omega
 have b5:=Hq (fun W (hp:An W xs q d)=>Fq xs q d a1 H A {f with pins:=f.pins+1} W hp);have bg:(0:Int)≤(H:Int):=by omega
 have bh:(H:Int)<(d.length:Int):=by omega
 have b6:IntKind.i64.wrap (f.pins+1)=f.pins+1:=IntWalk.i64_in _ (by omega);obtain⟨b,off,aq,b7,ar,E⟩:=Bi Cc m.out.fr A;rw[← l.out]at E;have ag:=Hq (fun u (F:Bw v u)=>show u.rangeAt b (off+H*5) (F4 f)from fun i y hy=>by rw[F.cell (p:=⟨b,off+H*5+i,none⟩) ar];exact E i y hy);have au:=Hq (fun u (F:Bw v u)=>show u.cell? ⟨g6,11,none⟩=some (.slice (some ⟨b,off,none⟩) d.length q.fc)from by rw[Aa (Ac C.out F),← aq,← m.out.fn];rfl);clear E b7 ar aq D HX a7 I an ao b2 a1 l;go_upto_region 4 with fail
 go_cut [9] (fun x wc=>∃ g9,x= .pointer (some ⟨g9,0,none⟩)∧wc.heap[g9]? =some (.cells (Cg f) 116 (0,0))∧v.heap.size≤g9∧Bw v wc)
 case first=>
  have Z0:Bw v v.drew:=(Below.refl _ v).drew;have Hy:=Hq (fun(u:World) (b8:Bw v u)=>(au.out u b8));refine E4 (S:=(fun u=>Bw v u)) (fun a=>?_);refine Au 0 ?_;refine Au 1 ?_;refine Au 2 ?_;refine Kt 3 (some 24) (v:=.agg (Ai xs q)) rfl (yieldsIf_load_mid (by rfl) 36 (.tmp 6) rfl g6 0 (by rfl) (Ai xs q).toList _ (fun u F=>(by intro j y U;rw[Nat.zero_add,Aa (Ac C.out F)];simpa using U)) Ak Kr Kr) ?_
  try simp only[Act.put,pS]
  refine Au 4 ?_;refine wpAnyH_ready (rs:=[5,8]) Kr (by simp) ?_;refine(AllReadyH.cons (o:={dst:=some 26,op:=_,type:=_,pos:=_,after:=_,guard:=_}) rfl (fun K c=>?_) (AllReadyH.cons (o:={dst:=some 9,op:=_,type:=_,pos:=_,after:=_,guard:=_}) rfl (fun K c=>?_) AllReadyH.nil))
  ·
   go_simp
   refine(af.out _ (m.out.below Z0)).mono ?_;rintro e w5 ⟨rfl,k⟩;have Z2:=Ae Z0 k;try clear hSn
   have hSn:=Z2;refine Bl c (fun a=>?_);clear c K;refine Au 6 ?_;refine Kt 7 (some 28) (v:=.agg (Cg f)) rfl (yieldsIf_load_mid (by rfl) 116 (.tmp 27) rfl b (off+H*5) (by rfl) (F4 f) _ (fun u F=>ag.out u F) Cw Kr Kr) ?_
   try simp only[Act.put,pS]
   refine Bx 8 fun K c=>?_
   go_simp
   have HG:=heap_alloc_new w5 (.cells #[(),"",(),false,()] 116);have Z3:=Ae Z2 (Ad w5 (.cells #[(),"",(),false,()] 116));clear hSn;have hSn:=Z3;refine Bl c (fun a=>?_);clear c K;refine Bx 9 fun K c=>?_;refine Az (by rfl) ?_;refine sW (Cg f) HG ?_;have Z4:=Fj (g:=w5.heap.size) (by have:=Z2.size;omega) Z3 (Cg f);have J:=setRow_heap _ _ _ (Cg f) _ _ HG;have G:v.heap.size≤w5.heap.size:=(by have:=Z2.size;omega);clear hSn;have hSn:=Z4;refine Bl c (fun a=>?_);clear c K;refine wpAnyH_done Kr ?_ _;clear a hSn;go_wp2_with fail;go_meet
   case rel=>exact⟨_,rfl,J,G,Z4⟩
  ·
   go_simp
   have Z1:=Ae Z0 (Ad v.drew (.cells #[(),"",(),false,()] 116));have hSn:=Z1;refine Bl c (fun a=>?_);clear c K;refine Bx 5 fun K c=>?_
   go_simp
   refine(af.out _ (m.out.below Z1)).mono ?_;rintro e w5 ⟨rfl,k⟩;have Z2:=Ae Z1 k;try clear hSn
   have hSn:=Z2;have HG:=Cb k;refine Bl c (fun a=>?_);clear c K;refine Au 6 ?_;refine Kt 7 (some 28) (v:=.agg (Cg f)) rfl (yieldsIf_load_mid (by rfl) 116 (.tmp 27) rfl b (off+H*5) (by rfl) (F4 f) _ (fun u F=>ag.out u F) Cw Kr Kr) ?_
   try simp only[Act.put,pS]
   refine Bx 9 fun K c=>?_;refine Az (by rfl) ?_;refine sW (Cg f) HG ?_;have Z4:=Fj (g:=v.drew.heap.size) (by show v.heap.size≤v.heap.size;omega) Z2 (Cg f);have J:=setRow_heap _ _ _ (Cg f) _ _ HG;have G:v.heap.size≤v.drew.heap.size:=(by show v.heap.size≤v.heap.size;omega);clear hSn;have hSn:=Z4;refine Bl c (fun a=>?_);clear c K;refine wpAnyH_done Kr ?_ _;clear a hSn;go_wp2_with fail;go_meet
   case rel=>exact⟨_,rfl,J,G,Z4⟩
 case rest=>
  obtain⟨g9,rfl,av,G,V⟩:=hcut;obtain⟨v2,rfl⟩:=ex wc;have Z:=Hq av;have H9:=Hq (L.out.step V);have aw:=Hq (Ac C.out V);have ax:=Hq V;have bd:g6<g9:=Nat.lt_of_lt_of_le (C0 C.out) G;clear av V C L ag au;have b9:=show v2.cell? ⟨g9,2,none⟩=some (.int .i64 f.pins)from(by rw[Aa Z.out];rfl);have ba:=Ao Z.out 2;go_upto_region 6 with fail;have J:=Hq (show(v2.setCell ⟨g9,2,none⟩ (.int .i64 (f.pins+1))).heap[g9]? =some (.cells (Cg {f with pins:=f.pins+1}) 116 (0,0))from by have:=Bs 2 Z.out (.int .i64 (f.pins+1));simpa using this);have H4:=Hq (H9.out.under (M:=g9) (by simp;omega) ((Below.refl _ v2).setCell (p:=⟨g9,2,none⟩) (Nat.le_refl _) (.int .i64 (f.pins+1))));have ay:=Hq (show(v2.setCell ⟨g9,2,none⟩ (.int .i64 (f.pins+1))).heap[g6]? =_ from(Below.heap_setCell _ _ _ _ (by show g6≠g9;omega)).trans aw.out);have az:=Hq (m.out.below (ax.out.setCell (p:=⟨g9,2,none⟩) G (.int .i64 (f.pins+1))));generalize v2.setCell ⟨g9,2,none⟩ (.int .i64 (f.pins+1))=v3 at J H4 ay az ⊢;clear b9 ba Z H9 aw ax m G b6
  try simp only[Act.put]
  have hSn:v3.drew.heap[g6]? =some (.cells (Ai xs q) 36 (0,0))∧v3.drew.heap[g9]? =some (.cells (Cg {f with pins:=f.pins+1}) 116 (0,0)):=⟨ay.out,J.out⟩;have H8:=H4.out.drew;have ah:=az.out.below (Below.refl _ v3).drew;refine E4 (S:=(fun u=>u.heap[g6]? =some (.cells (Ai xs q) 36 (0,0))∧u.heap[g9]? =some (.cells (Cg {f with pins:=f.pins+1}) 116 (0,0)))) (fun a=>?_);generalize v3.drew=v9 at hSn H8 ah ⊢;refine Kt 0 (some 33) (v:=.agg (Ai xs q)) rfl (yieldsIf_load_mid (by rfl) 36 (.tmp 6) rfl g6 0 (by rfl) (Ai xs q).toList _ (fun u F=>(by intro j y U;rw[Nat.zero_add,Aa F.1];simpa using U)) Ak Kr Kr) ?_
  try simp only[Act.put,pS]
  refine Kt 1 (some 34) (v:=.agg (Ai xs q)) rfl (yieldsIf_load_mid (by rfl) 36 (.tmp 6) rfl g6 0 (by rfl) (Ai xs q).toList _ (fun u F=>(by intro j y U;rw[Nat.zero_add,Aa F.1];simpa using U)) Ak Kr Kr) ?_
  try simp only[Act.put,pS]
  refine Au 2 ?_;refine Kt 4 (some 37) (v:=.agg (Cg {f with pins:=f.pins+1})) rfl (yieldsIf_load_mid (by rfl) 116 (.tmp 9) rfl g9 0 (by rfl) (Cg {f with pins:=f.pins+1}).toList _ (fun u F=>(by intro j y U;rw[Nat.zero_add,Aa F.2];simpa using U)) Cw Kr Kr) ?_
  try simp only[Act.put,pS]
  refine Bx 3 fun K c=>?_
  go_simp
  (refine(af.out _ ah).mono ?_);rintro e w5 ⟨rfl,k⟩;have H7:=H8.step k;have bb:=ah.below k;have r:=And.intro (Ac hSn.1 k) (Ac hSn.2 k);clear hSn;have hSn:=r;clear r
  refine Bl c (fun a=>?_);clear c K;refine Bx 5 fun K c=>?_
  go_simp
  (refine(b5.out _ bb).mono ?_);rintro e w6 ⟨q6,rfl,bc,ai⟩;have L:=H7.step ai;have r:=And.intro (Ac hSn.1 ai) (Ac hSn.2 ai);clear hSn;have hSn:=r;clear r
  refine Bl c (fun a=>?_);clear c K;refine Bx 6 fun K c=>?_;refine Az (by rfl) ?_;refine sW (Ai xs q6) L.Ah ?_;have b0:=L.row 1 (Ai xs q6) _ rfl;have b1:=bc.other (t:=36) L.Ah (by decide) (by decide) (by decide) (Ai xs q6);have r:=And.intro ((Aj _ _ (Ai xs q6) _ (show g6≠w.heap.size+1 by omega)).trans hSn.1) ((Aj _ _ (Ai xs q6) _ (show g9≠w.heap.size+1 by omega)).trans hSn.2);clear hSn;have hSn:=r;clear r;refine Bl c (fun a=>?_);clear c K;refine Au 7 ?_;refine wpAnyH_done Kr ?_ _;clear a;go_wp2_with fail;refine bodyPost_ret (v:=.tuple #[.agg (Ai xs q6),()]) (Mz rfl _ _ rfl (Ct b0.Ah Ak Kr Kr) rfl) rfl ?_;exact a6.out _ ae.out _ q6 b1 b0.below
end Go.Proofs.YtmldoihahndcgaaGreatDoor
