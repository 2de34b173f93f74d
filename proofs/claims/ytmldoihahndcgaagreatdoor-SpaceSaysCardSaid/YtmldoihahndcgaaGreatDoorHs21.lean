import Derived.Test.YtmldoihahndcgaaGreatDoorHs00
import Derived.Test.YtmldoihahndcgaaGreatDoorHs20
import Derived.Test.YtmldoihahndcgaaGreatDoorHs11
import Derived.Test.YtmldoihahndcgaaGreatDoorHs07
import Derived.Test.YtmldoihahndcgaaGreatDoorHs01
import Derived.Laws.BitsAllLaws
set_option maxRecDepth 100000
set_option maxHeartbeats 16000000
set_option linter.unusedSimpArgs false
namespace Go.Proofs.YtmldoihahndcgaaGreatDoor
open Go.RowKit Sc
structure I9 (B g:Nat) (w:World) (v:Value) (l:List UInt8):Prop where
 own:Kd B w v l
 at_:∃ c,v= .slice (some ⟨g,0,none⟩) l.length c
 ty:∃ cur fr,w.heap[g]? =some (.cells cur 5 fr)
theorem I9.below {B g:Nat}{w w':World}{v:Value}{l:List UInt8}(h:I9 B g w v l)(a:Bw w w'):I9 B g w' v l:=by
 obtain⟨cur,b,c⟩:=h.ty;exact⟨h.own.below a,h.at_,cur,b,Ae c a⟩
theorem I9.tO {B a g:Nat}{w:World}{v:Value}{l:List UInt8}(h:I9 B g w v l)(b:a≤B):I9 a g w v l:=⟨h.own.mono b,h.at_,h.ty⟩
theorem I9.same {B g:Nat}{w w':World}{v:Value}{l:List UInt8}(h:I9 B g w v l)(c:w'.heap[g]? =w.heap[g]?):I9 B g w' v l:=by
 obtain⟨cur,m,e⟩:=h.ty;obtain⟨c0,n⟩:=h.at_;obtain⟨b,cap,f,o,t,p,q,i,r⟩:=h.own;have a:=f.symm.trans n
 injection a with a u x
 injection a with a
 injection a with a _ _
 subst a;have k:∀ j,w'.cell? ⟨b,j,none⟩=w.cell? ⟨b,j,none⟩:=fun j=>by unfold World.cell?;rw[c]
 have s:∀ j,w'.frozen? ⟨b,j,none⟩=w.frozen? ⟨b,j,none⟩:=fun j=>by unfold World.frozen?;rw[c]
 exact⟨⟨b,cap,f,o,By (c.trans e),p,q,fun j d=>⟨by rw[k];exact(i j d).1,by rw[s];exact(i j d).2⟩,fun j d=>by rw[k];exact r j d⟩,h.at_,cur,m,c.trans e⟩
theorem kD (w:World)(s:ByteArray)(a:s.size≤1000000):I9 w.heap.size w.heap.size (Lib.bytesWorld w 5 s) (.slice (some ⟨w.heap.size,0,none⟩) s.size (grownCap w s.size 0 5)) s.data.toList:=
 ⟨jP w s a,⟨_,by rw[Fl]⟩,_,_,Lib.bytesWorld_at_new w 5 s⟩
theorem qR (y:UInt8)(r:Nat):(bits BinOp.and IntKind.u8 ((y.toNat:Int)/2^r) 1==1)=y.toNat.testBit r:=by
 have a:y.toNat<256:=y.toNat_lt;have b:y.toNat/2^r<256:=Nat.lt_of_le_of_lt (Nat.div_le_self _ _) a;have e:((y.toNat:Int)/2^r)=((y.toNat/2^r:Nat):Int):=by rw[Int.natCast_ediv,Int.natCast_pow];rfl
 rw[e,show(1:Int)=((1:Nat):Int)from rfl,u8_and_nat _ 1 b (by decide),Nat.and_one_is_mod,Nat.testBit_eq_decide_div_mod_eq];have h2:y.toNat/2^r%2=0∨y.toNat/2^r%2=1:=by omega
 rcases h2 with h2|h2<;>rw[h2]<;>rfl
theorem Iu (v:Value)(b:ByteArray)(B:Nat)(p:Nat)(k:p/8<b.size)(o:p≤1000)(w:World)(h:Kd B w v b.data.toList):
 Cr 66 #[v,.int .i64 (p:Int)] w (.bool (bit b p)):=by
 have a:p/8<b.data.toList.length:=by rw[Fl];exact k
 have c:bit b p=(b.data.toList[p/8]).toNat.testBit (p%8):=by unfold bit;rw[List.getElem?_eq_getElem a,Option.getD_some]
 rw[c];clear c;generalize b.data.toList=l at h a ⊢;obtain⟨g,cap,rfl,_,_,_,_,_,m⟩:=h;have n:=m (p/8) a;have s:Int.tdiv (p:Int) 8=((p/8:Nat):Int):=by rw[Int.tdiv_eq_ediv_of_nonneg (by omega)];omega
 have t:Int.tmod (p:Int) 8=((p%8:Nat):Int):=by rw[Int.tmod_eq_emod_of_nonneg (by omega)];omega
 have d:IntKind.i64.wrap ((p/8:Nat):Int)=((p/8:Nat):Int):=IntWalk.i64_in _ (by omega);have e:IntKind.i64.wrap ((p%8:Nat):Int)=((p%8:Nat):Int):=IntWalk.i64_in _ (by omega);have u:p%8<8:=Nat.mod_lt _ (by decide);have f:(0:Int)≤((p/8:Nat):Int):=by omega
 have i:((p/8:Nat):Int)<(l.length:Int):=by omega
 generalize x:l[p/8]=y at n ⊢;clear x m k;generalize p/8=q at n s d f i a;generalize p%8=r at t e u ⊢;have A:(0:Int)≤(r:Int):=by omega
 have j:=qR y r;generalize y.toNat.testBit r=z at j ⊢;go_enter Tryz.func66,Tryz.ntmps66;go_wp2_with fail;go_ret;exact⟨rfl,Below.refl _ _⟩
def oE (N n k:Nat)(ids:List Int)(c:Int)(C:Nat→ByteArray)(b:ByteArray)(w:World)(e:Ending)(w':World):Prop:=
 ∃ (s':Tx.St) (q:SP) (fs':List Fr) (v:Value) (g:Nat),e= .returned (.tuple #[Ag s' q,v,()])∧Ao w' s' q fs'∧SS N n k ids c s' fs' C∧I9 w.heap.size g w' v b.data.toList∧w.heap.size≤g∧Bw w w'
theorem Iv {N n k:Nat}{ids:List Int}{c:Int}(s:Tx.St)(p:SP)(fs:List Fr)(C:Nat→ByteArray)(A:SS N n k ids c s fs C)(b:ByteArray)(u:Nat→Nat){V:Nat→Nat×List ByteArray}(E:SI n C b u V)(w:World)(h:Ao w s p fs):
 Cq 64 #[Ag s p] w (oE N n k ids c C b w):=by
 have F:=Hq (fun W (hb:Bw w W)=>Lw s p fs C A.pi 0 (by have:=A.pi.n1;omega) W (h.below hb));have hn:=A.pi.n1;have j:=A.pi.nm 0 (by omega);have l:=Hq (fun W=>Lh (C 0) 0 (by rw[j.size];omega) W);have o:=Hq (fun W=>Xp (C 0) (by rw[j.size];omega) W);have r:=Hq (fun W=>gG (C 0) (by rw[j.size];omega) W);have G:Pg.Bc (Af (C 0)).recs 0=b:=by rw[E.r0];rfl
 rw[G]at l;rw[E.k0]at o;rw[E.r0]at r;have m:=E.sz;have H:=Hq (fun(s1:Tx.St) (p1:SP) (hz:s1.zpages=(n:Int)) W=>show Cr 130 #[Ag s1 p1] W (.int .i64 (b.size:Int)) from by rw[m];exact U1 s1 p1 n hz (by omega) W);have a1:b.size≤1000:=by rw[m];omega
 have a6:¬ b.size=0:=by rw[m];omega
 have ag:∀ W:World,(convert 9 104 (.string b)).run Tryz.prog W= .ok (.slice (some ⟨W.heap.size,0,none⟩) b.size (grownCap W b.size 0 5)) (Lib.bytesWorld W 5 b):=fun W=>Lib.run_convert_string_bytes W 9 104 5 b kR Jb oQ;have a7:=Hq (fun W:World=>kD W b (by omega));have HQ:=Hq (fun(s':Tx.St) (q:SP) (a8:List Fr) (v:Value) (g:Nat) w' h1 h2 h3 h4 h5=>show oE N n k ids c C b w (.returned (.tuple #[Ag s' q,v,()])) w' from⟨s',q,a8,v,g,rfl,h1,h2,h3,h4,h5⟩);generalize oE N n k ids c C b w=Q at HQ ⊢;have aa:=Hq A;generalize decide (b.size=0)=bz at l;clear h A hn j G m a1 a6 E;go_enter Tryz.func64,Tryz.ntmps64;go_upto_region 1 with fail;have B:=Hp w (Aj s p) 36 #[(),(),(),'s',(),false,(),(),(),(),"",'s',(),'s',()] 36;obtain⟨W0,I⟩:=Ee B;rw[← I]at B ⊢;clear I
 go_upto_region 4 with(first
  |with_reducible refine lL B.out.Ai Ar ?_
  |(go_at_call 19;refine(F.out _ B.out.below).mono ?_;rintro e w1 ⟨s1,f,ad,rfl,J,K,x,L⟩;have H1:=Hq (B.out.step L))
  |with_reducible refine lS (Aj s1 f) H1.out.Ai ?_)
 have Z:=Hq (show D6 w.heap.size w [((Aj s1 f),36),(#[(),(),(),'s',(),false,(),(),(),(),"",'s',(),'s',()],36)] (w1.setRow w.heap.size (Aj s1 f))from H1.out.row 0 (Aj s1 f) _ rfl);have y:=Hq (J.other (t:=36) H1.out.Ai (by decide) (by decide) (by decide) (Aj s1 f));have M:=Hq (aa.out.hk x K);generalize w1.setRow w.heap.size (Aj s1 f)=w2 at Z y ⊢;clear B H1 J K x L F
 try simp only[Act.put]
 have O:=Hq (H.out s1 f M.out.pi.zp);have x:((1:Int) != 1)=false:=rfl
 go_upto_region 7 with(first
  |with_reducible refine lL H4.out.Ai Ar ?_
  |(go_at_call 86;refine(l.out _).mono ?_;rintro e w3 ⟨rfl,P⟩)
  |(go_at_call 54;refine(o.out _).mono ?_;rintro e w4 ⟨rfl,R⟩)
  |(go_at_call 85;refine(r.out _).mono ?_;rintro e w5 ⟨rfl,S⟩;have a:=Ad P (Ad R S);have H4:=Hq (Z.out.step a))
  |(go_at_call 130;refine(O.out _).mono ?_;rintro e D ⟨rfl,T⟩))
 have d:=Ad a T;have U:=Hq (Z.out.step d);have ae:=Hq (y.out.below d);clear P R S T a d Z H4 y l o r H O;have z:=Po D 5 b;have X:=Hq (U.out.step z);have Y:=Hq (ae.out.below z);have HU:=a7.out D;generalize ah:Lib.bytesWorld D 5 b=w7 at z X Y HU
 go_wp2_with(first
  |with_reducible refine lL U.out.Ai Ar ?_
  |with_reducible refine lS (Aj s1 f) X.out.Am ?_)
 have af:=HU;refine rT3 (.slice (some ⟨D.heap.size,0,none⟩) b.size (grownCap D b.size 0 5)) () X.out.Am Ar ?_;exact HQ.out s1 f ad _ D.heap.size _ (Y.out.other (t:=36) X.out.Am (by decide) (by decide) (by decide) _) M.out (I9.same (af.tO (by have:=U.out.below.size;omega)) (Ah _ _ _ _ (by have:=U.out.lt (i:=1) (by simp);omega))) U.out.below.size (X.out.row 1 (Aj s1 f) _ rfl).below
structure Wy (B g:Nat) (w:World) (l:List (Array Value×TypeId)) (u:World):Prop where
 get:∀ i p,l[i]? =some p→u.heap[B+i]? =some (.cells p.1 p.2 (0,0))
 kept:Ek B g w u
 low:B≤w.heap.size
theorem Wy.of {B g:Nat}{w u:World}{l:List (Array Value×TypeId)}(h:D6 B w l u)(a:B=w.heap.size):Wy B g w l u:=⟨h.get,Ek.El (by omega) h.below,by omega⟩
theorem Wy.Ai {B g:Nat}{w u:World}{l:List (Array Value×TypeId)}{c0:Array Value}{a:TypeId}(h:Wy B g w ((c0,a)::l) u):u.heap[B]? =some (.cells c0 a (0,0)):=h.get 0 _ rfl
theorem Wy.Am {B g:Nat}{w u:World}{l:List (Array Value×TypeId)}{p:Array Value×TypeId}{c1:Array Value}{a:TypeId}(h:Wy B g w (p::(c1,a)::l) u):u.heap[B+1]? =some (.cells c1 a (0,0)):=h.get 1 _ rfl
theorem Wy.step {B g:Nat}{w u v:World}{l:List (Array Value×TypeId)}(h:Wy B g w l u)(a:Bw u v):Wy B g w l v:=
 ⟨fun i p b=>Ae (h.get i p b) a,h.kept.trans (Ek.El (by have:=h.low;have:=h.kept.size;omega) a),h.low⟩
theorem Wy.row {B g:Nat}{w u:World}{l:List (Array Value×TypeId)}(h:Wy B g w l u)(i:Nat)(cs:Array Value)(p:Array Value×TypeId)(hi:l[i]? =some p):Wy B g w (l.set i (cs,p.2)) (u.setRow (B+i) cs):=by
 have b:=(List.getElem?_eq_some_iff.1 hi).1;refine⟨fun k q a=>?_,h.kept.trans ⟨rfl,rfl,rfl,by show _≤(u.heap.modify _ _).size;simp,fun k hk _=>Ah _ _ _ _ (by omega)⟩,h.low⟩
 by_cases hk:i=k
 ·subst hk
  rw[List.getElem?_set_self b]at a
  injection a with a
  subst a;exact setRow_heap _ _ _ _ _ _ (h.get i p hi)
 ·rw[List.getElem?_set_ne hk]at a
  rw[Ah _ _ _ _ (by omega)];exact h.get k q a
theorem Wy.byte {B g:Nat}{w u:World}{l:List (Array Value×TypeId)}(h:Wy B g w l u)(b:g<B)(i:Nat)(x:Value):Wy B g w l (u.setCell ⟨g,i,none⟩ x):=
 ⟨fun k p a=>(Below.heap_setCell _ _ _ _ (by show B+k≠g;omega)).trans (h.get k p a),h.kept.trans ⟨rfl,rfl,rfl,by rw[World.size_setCell];exact Nat.le_refl _,fun k _ hk=>Below.heap_setCell _ _ _ _ hk⟩,h.low⟩
theorem I9.Yt {B g:Nat}{w:World}{v:Value}{b:ByteArray}{p:Nat}(h:I9 B g w v b.data.toList)(i:p/8<b.size):
 w.cell? ⟨g,p/8,none⟩=some (.int .u8 ((b.data.toList[p/8]?.getD 0).toNat:Int))∧w.frozen? ⟨g,p/8,none⟩=false∧I9 B g (w.setCell ⟨g,p/8,none⟩ (.int .u8 (((b.data.toList[p/8]?.getD 0).toNat ^^^ 2^(p%8):Nat):Int))) v (Bx b p).data.toList:=by
 have d:p/8<b.data.toList.length:=by rw[Fl];exact i
 obtain⟨u,c,j,x,l⟩:=h.own.set;obtain⟨c0,e⟩:=h.at_;obtain⟨cur,m,n⟩:=h.ty;have a:=j.symm.trans e
 injection a with a y z
 injection a with a
 injection a with a _ _
 subst a;obtain⟨o,q,r⟩:=l _ d;have s:=Uo (b.data.toList[p/8]?.getD 0) (k:=p%8) (by omega);have t:(UInt8.ofNat ((b.data.toList[p/8]?.getD 0).toNat ^^^ 2^(p%8))).toNat=(b.data.toList[p/8]?.getD 0).toNat ^^^ 2^(p%8):=by rw[UInt8.toNat_ofNat'];exact Nat.mod_eq_of_lt s
 refine⟨?_,q,?_⟩
 ·rw[List.getElem?_eq_getElem d,Option.getD_some];exact o
 ·have f:=(r (UInt8.ofNat ((b.data.toList[p/8]?.getD 0).toNat ^^^ 2^(p%8)))).1
  rw[t]at f;exact⟨f,⟨c0,by rw[e];congr 1;unfold Bx;rw[pQ,List.length_set]⟩,_,m,Cb _ n _⟩
def oF (N n k:Nat)(ids:List Int)(c:Int)(b:ByteArray)(u:Nat→Nat)(V:Nat→Nat×List ByteArray)(g:Nat)(w:World)(e:Ending)(w':World):Prop:=
 ∃ (s':Tx.St) (q:SP) (fs':List Fr) (C':Nat→ByteArray),e= .returned (.tuple #[Ag s' q,()])∧Ao w' s' q fs'∧SS N n k ids c s' fs' C'∧SI n C' b u V∧Ek w.heap.size g w w'
theorem U2 {N n k:Nat}{ids:List Int}{c:Int}(s:Tx.St)(p:SP)(fs:List Fr)(C:Nat→ByteArray)(hS:SS N n k ids c s fs C)(hc:c+5048≤(N:Int)*128)(t:Int)(ht:t∈ids)(a6:Rc.num t)(b:ByteArray)(u:Nat→Nat){V:Nat→Nat×List ByteArray}(hu:SI n C b u V)(pg:Nat)(ai:pg<n)(bb:1≤pg)(F:Nat)(bc:F≤4)(aj:0<F↔¬ 0<u pg)(v:Value)(B g:Nat)(w:World)(hv:I9 B g w v b.data.toList)(h:Ao w s p fs):
 Cq 67 #[Ag s p,t,.int .i64 (pg:Int),.int .i64 (F:Int),v] w (oF N n k ids (c+5048) (Bx b pg) (fun q=>if q=pg then F else u q) (fun q=>if q=pg then(0,[])else V q) g w):=by
 have hn:=hS.pi.n1;have D:=hu.sz;have a7:pg/8<b.size:=by rw[D];omega
 have bd:pg/8<(Bx b pg).size:=by rw[E5];exact a7
 have hd:=oC (hS.pi.nm 0 (by omega)) hu.r0 (r:=Bx b pg) (by rw[D];omega) (by rw[E5,D];omega) (by rw[E5,D];omega);have O:=Hq (fun W (R:Ao W s p fs)=>show Cq 142 #[Ag s p,t,(),.agg #[.int .i64 3,(),b,.string (Bx b pg)]] W _ from Qa s p fs C hS (by omega) t ht 0 (by omega) ⟨3,0,b,Bx b pg⟩ _ (Qw (by rw[D];omega) (by rw[E5,D];omega) t a6 (pg:=0) (by omega) 3 ⟨by decide,by decide⟩) (fun V=>by
  have ak:=fH (C 0) ⟨3,0,b,Bx b pg⟩ (.inl rfl) (by rw[(hS.pi.nm 0 (by omega)).size];omega) (by simp only;rw[E5,D];omega) V;rw[hd.1]at ak;exact ak) hd.2.1 W R)
 have T:=Hq (fun(f:Tx.St) (d:List Fr) (l:Int) (hp:PI N n f d (fun x=>if x=0 then Bg (C8 {Af (C 0)with recs:=[Bx b pg]}) l else C x)) (hk:sF s f fs d t l)=>And.intro (hS.ch hk hp) (show Pk C (fun x=>if x=0 then Bg (C8 {Af (C 0)with recs:=[Bx b pg]}) l else C x) 0 1 0 [Bx b pg]from by have h5:=Qv (C:=C) (pg:=0) hd.2.1 hk.lr;rw[hd.2.2]at h5;exact⟨h5.k.trans hu.k0,h5.l.trans hu.l0,h5.r,h5.o⟩));generalize C8 {Af (C 0)with recs:=[Bx b pg]}=pb at O T;have U:=Im F bc;have bf:=Hq (fun W=>Vs (F:Int) W);have bg:=Hq (fun(f:Tx.St) (p':SP) (d:List Fr) (E:Nat→ByteArray) (bh:SS N n k ids (c+2524) f d E) W (R:Ao W f p' d)=>show Cq 131 #[Ag f p',t,.int .i64 (pg:Int),.string (E6 (F:Int))] W (Oj N n k ids (c+5048) E pg F 0 [] W)from by
  have h9:=Zz f p' d E bh (by omega) t ht a6 pg ai (E6 (F:Nat)) U.1 (by rw[U.2]) W R;rw[U.2]at h9;simp only at h9;rw[show c+2524+2524=c+5048 from by omega]at h9;exact h9)
 have HQ:=Hq (fun(f:Tx.St) (q:SP) (d:List Fr) (C1 E:Nat→ByteArray) w' H (h2:SS N n k ids (c+5048) f d E) (t1:Pk C C1 0 1 0 [Bx b pg]) (t2:Pk C1 E pg F 0 []) h4=>show oF N n k ids (c+5048) (Bx b pg) (fun q=>if q=pg then F else u q) (fun q=>if q=pg then(0,[])else V q) g w (.returned (.tuple #[Ag f q,()])) w' from⟨f,q,d,E,rfl,H,h2,hu.flip ai bb aj ⟨by rw[t2.o 0 (by omega)];exact t1.k,by rw[t2.o 0 (by omega)];exact t1.r,by rw[t2.o 0 (by omega)];exact t1.l⟩ ⟨t2.k,t2.r,t2.l⟩ (fun x hx _ bj=>by rw[t2.o x bj,t1.o x (by omega)]),h4⟩);generalize oF N n k ids (c+5048) (Bx b pg) (fun q=>if q=pg then F else u q) (fun q=>if q=pg then(0,[])else V q) g w=Q at HQ ⊢;have HV:=Hq hv;have X:=Hq (fun W (R:I9 B g W v b.data.toList)=>R.Yt (p:=pg) a7);have HP:=Hq h;have bk:g<w.heap.size:=by obtain⟨cur,fr,H⟩:=hv.ty;exact By H
 obtain⟨cc,an⟩:=hv.at_;have hlen:b.data.toList.length=b.size:=Fl b;rw[hlen]at an;have a8:(Bx b pg).data.toList.length=b.size:=by rw[Fl,E5]
 have ao:=Hq (fun W (R:I9 B g W v b.data.toList)=>show(convert 104 9 v).run Tryz.prog W= .ok (.string b) W from by have H:=R.own.back (P:=Tryz.prog) Jb oQ kR;rw[eQ]at H;exact H);have I:=Hq (fun W (R:I9 B g W v (Bx b pg).data.toList)=>show(convert 104 9 v).run Tryz.prog W= .ok (.string (Bx b pg)) W from by have H:=R.own.back (P:=Tryz.prog) Jb oQ kR;rw[eQ]at H;exact H);have hq:Int.tdiv (pg:Int) 8=((pg/8:Nat):Int):=by rw[Int.tdiv_eq_ediv_of_nonneg (by omega)];omega
 have hr:Int.tmod (pg:Int) 8=((pg%8:Nat):Int):=by rw[Int.tmod_eq_emod_of_nonneg (by omega)];omega
 have bl:IntKind.i64.wrap ((pg/8:Nat):Int)=((pg/8:Nat):Int):=IntWalk.i64_in _ (by omega);have bm:IntKind.i64.wrap ((pg%8:Nat):Int)=((pg%8:Nat):Int):=IntWalk.i64_in _ (by omega);have h8:pg%8<8:=Nat.mod_lt _ (by decide);have bn:(0:Int)≤((pg/8:Nat):Int):=by omega
 have bo:((pg/8:Nat):Int)<(b.size:Int):=by omega
 generalize bp:Bx b pg=b2 at O T HQ X I a8;clear bp h hv hS hu hd U hn D bd hc ht a6 aj hlen;subst an;generalize pg/8=q8 at hq bl bn bo a7 X;generalize pg%8=m at hr bm h8 X;have bz:(0:Int)≤(m:Int):=by omega
 go_enter Tryz.func67,Tryz.ntmps67;go_upto_region 1 with fail;have H0:=Hp w (Aj s p) 36 #[(),(),(),'s',(),false,(),(),(),(),"",'s',(),'s',()] 36;obtain⟨W0,aq⟩:=Ee H0;rw[← aq]at H0 ⊢;clear aq;have ar:=Hq (Wy.of (g:=g) H0.out rfl);have Y:=Hq (HV.out.below H0.out.below);have au:=Hq (HP.out.below H0.out.below);have aa:=ao.out W0 Y.out;clear HV HP H0 ao;generalize hy:b.data.toList[q8]?.getD 0=y at X;have av:y.toNat<256:=y.toNat_lt;have ad:bits BinOp.xor IntKind.u8 (y.toNat:Int) ((2^m:Nat):Int)=((y.toNat ^^^ 2^m:Nat):Int):=u8_xor_nat _ _ av (by
  have:2^m≤2^7:=Nat.pow_le_pow_right (by omega) (by omega);omega)
 rw[show((2^m:Nat):Int)=(2:Int)^m from by rw[Int.natCast_pow];rfl]at ad;have aw:IntKind.u8.wrap (1*2^m)=((2^m:Nat):Int):=by
  have:m=0∨m=1∨m=2∨m=3∨m=4∨m=5∨m=6∨m=7:=by omega
  rcases this with rfl|rfl|rfl|rfl|rfl|rfl|rfl|rfl<;>decide
 have ax:IntKind.u8.wrap (2^m)=((2^m:Nat):Int):=by rw[← aw,Int.one_mul]
 generalize hz:(y.toNat ^^^ 2^m:Nat)=z at X ad;clear hy av hz;go_upto_region 2 with fail;clear aa
 go_cut [25] (fun x wc=>Wy w.heap.size g w [((Aj s p),36),(#[(),(),(),'s',(),false,(),(),(),(),"",'s',(),'s',()],36)] wc∧I9 B g wc (.slice (some ⟨g,0,none⟩) b.size cc) b2.data.toList∧Ao wc s p fs)
 case first=>
  have hSn:W0.drew.cell? ⟨g,q8,none⟩=some (.int .u8 (y.toNat:Int)):=(X.out W0 Y.out).1;have hF:=ar.out.step (Below.refl _ W0).drew;have hV:=Y.out.below (Below.refl _ W0).drew;have hP:=au.out.below (Below.refl _ W0).drew;refine Ep (S:=(fun u=>u.cell? ⟨g,q8,none⟩=some (.int .u8 (y.toNat:Int)))) 10 Kr ?_ (fun j=>?_)
  ·exact hSn
  generalize W0.drew=w8 at hSn hF hV hP ⊢;refine An (i:=0) (oi:={dst:=some 16,op:=_,type:=_,pos:=_,after:=_,guard:=_}) (v:=?_) (p:=[10]) rfl Kr Kr Kr Kr Kr Kr (fun _ _ _ h=>h) (Or.inl ⟨by rfl,?_⟩) (by assumption) ?_
  rotate_left
  ·intro u a;have A:=a
   clear a;go_simp;(try with_reducible rfl)
  try simp only[Act.put,pS]
  refine An (i:=1) (oi:={dst:=some 17,op:=_,type:=_,pos:=_,after:=_,guard:=_}) (v:=?_) (p:=[10]) rfl Kr Kr Kr Kr Kr Kr (fun _ _ _ h=>h) (Or.inl ⟨by rfl,?_⟩) (by assumption) ?_
  rotate_left
  ·intro u a;have A:=a
   clear a;go_simp;(try with_reducible rfl)
  try simp only[Act.put,pS]
  refine An (i:=2) (oi:={dst:=some 18,op:=_,type:=_,pos:=_,after:=_,guard:=_}) (v:=?_) (p:=[10]) rfl Kr Kr Kr Kr Kr Kr (fun _ _ _ h=>h) (Or.inl ⟨by rfl,?_⟩) (by assumption) ?_
  rotate_left
  ·intro u a;have A:=a
   clear a;go_simp;(try with_reducible rfl)
  try simp only[Act.put,pS]
  refine An (i:=3) (oi:={dst:=some 19,op:=_,type:=_,pos:=_,after:=_,guard:=_}) (v:=?_) (p:=[10]) rfl Kr Kr Kr Kr Kr Kr (fun _ _ _ h=>h) (Or.inl ⟨by rfl,?_⟩) (by assumption) ?_
  rotate_left
  ·intro u a;have A:=a
   clear a;go_simp;(try with_reducible rfl)
  try simp only[Act.put,pS]
  refine An (i:=4) (oi:={dst:=some 20,op:=_,type:=_,pos:=_,after:=_,guard:=_}) (v:=?_) (p:=[10]) rfl Kr Kr Kr Kr Kr Kr (fun _ _ _ h=>h) (Or.inl ⟨by rfl,?_⟩) (by assumption) ?_
  rotate_left
  ·intro u a;have A:=a
   clear a;go_simp;(try with_reducible rfl)
  try simp only[Act.put,pS]
  refine An (i:=5) (oi:={dst:=some 21,op:=_,type:=_,pos:=_,after:=_,guard:=_}) (v:=?_) (p:=[10]) rfl Kr Kr Kr Kr Kr Kr (fun _ _ _ h=>h) (Or.inl ⟨by rfl,?_⟩) (by assumption) ?_
  rotate_left
  ·intro u a;have A:=a
   clear a;go_simp;(try with_reducible rfl)
  try simp only[Act.put,pS]
  refine An (i:=6) (oi:={dst:=some 22,op:=_,type:=_,pos:=_,after:=_,guard:=_}) (v:=?_) (p:=[10]) rfl Kr Kr Kr Kr Kr Kr (fun _ _ _ h=>h) (Or.inl ⟨by rfl,?_⟩) (by assumption) ?_
  rotate_left
  ·intro u a;have A:=a
   clear a;go_simp;(try with_reducible rfl)
  try simp only[Act.put,pS]
  refine An (i:=7) (oi:={dst:=some 23,op:=_,type:=_,pos:=_,after:=_,guard:=_}) (v:=?_) (p:=[10]) rfl Kr Kr Kr Kr Kr Kr (fun _ _ _ h=>h) (Or.inl ⟨by rfl,?_⟩) (by assumption) ?_
  rotate_left
  ·intro u a;have A:=a
   clear a;go_simp;(try with_reducible rfl)
  try simp only[Act.put,pS]
  refine An (i:=8) (oi:={dst:=some 24,op:=_,type:=_,pos:=_,after:=_,guard:=_}) (v:=?_) (p:=[10]) rfl Kr Kr Kr Kr Kr Kr (fun _ _ _ h=>h) (Or.inl ⟨by rfl,?_⟩) (by assumption) ?_
  rotate_left
  ·intro u a;have A:=a
   clear a;go_simp;(try with_reducible rfl)
  try simp only[Act.put,pS]
  refine An (i:=9) (oi:={dst:=some 25,op:=_,type:=_,pos:=_,after:=_,guard:=_}) (v:=?_) (p:=[10]) rfl Kr Kr Kr Kr Kr Kr (fun _ _ _ h=>h) (Or.inl ⟨by rfl,?_⟩) (by assumption) ?_
  rotate_left
  ·intro u a;have A:=a
   clear a;go_simp;(try with_reducible rfl)
  try simp only[Act.put,pS]
  refine Bj (rs:=[10]) Kr (by simp) ?_;refine Ax.last (o:={dst:=none,op:=_,type:=_,pos:=_,after:=_,guard:=_}) rfl Kr (fun K J=>?_) ?_
  rotate_left
  ·exact Ax.nil
  have c6:=(X.out _ hV).2.1
  go_simp
  refine J.out _ _ ?_;clear J K
  try simp only[Act.put]
  refine Eo Kr ?_ _;go_wp2_with fail;go_meet
  case rel=>exact⟨hF.byte bk q8 _,(X.out _ hV).2.2,by obtain⟨cur,fr,H⟩:=hV.ty;exact hP.set (t:=5) H (by decide) (by decide) (by decide) q8 _⟩
 case rest=>
  obtain⟨ay,az,Z⟩:=hcut;obtain⟨w3,rfl⟩:=ex wc;have ae:=Hq ay;have b0:=Hq Z;have aa:=I.out w3 az;clear ay Z az ar Y au X I ad aw ax
  go_upto_region 6 with(first
   |with_reducible refine lL ae.out.Ai Ar ?_
   |(go_at_call 142;refine(O.out _ b0.out).mono ?_;rintro e w4 ⟨s1,q1,b1,l1,rfl,b3,b4,b5,b6⟩;have a1:=Hq (ae.out.step b6))
   |with_reducible refine lS (Aj s1 q1) a1.out.Ai ?_)
  have af:=Hq (show Wy w.heap.size g w [((Aj s1 q1),36),(#[(),(),(),'s',(),false,(),(),(),(),"",'s',(),'s',()],36)] (w4.setRow w.heap.size (Aj s1 q1))from a1.out.row 0 (Aj s1 q1) _ rfl);have b7:=Hq (b3.other (t:=36) a1.out.Ai (by decide) (by decide) (by decide) (Aj s1 q1));have ag:=Hq (T.out s1 b1 l1 b4 b5);generalize (fun x=>if x=0 then Bg pb l1 else C x)=C1 at ag;generalize w4.setRow w.heap.size (Aj s1 q1)=w5 at af b7 ⊢;clear ae b0 a1 b3 b4 b5 b6 O T aa
  try simp only[Act.put]
  go_cut [11] (fun x wc=>x= .int .i64 0∧∃ (f:Tx.St) (q:SP) (d:List Fr) (E:Nat→ByteArray),wc.heap[(w.heap.size+1)]? =some (.cells (Aj f q) 36 (0,0))∧Ao wc f q d∧SS N n k ids (c+5048) f d E∧Pk C1 E pg F 0 []∧Ek w.heap.size g w wc)
  case first=>
   have ah:=Hq (fun(u:World) (hu:Bw w5 u)=>show u.heap[w.heap.size]? =some (.cells (Aj s1 q1) 36 (0,0))from Ae af.out.Ai hu);have G:Bw w5 w5.drew:=(Below.refl _ w5).drew;have hSn:=ah.out _ G;refine Gd (S:=(fun u=>u.heap[w.heap.size]? =some (.cells (Aj s1 q1) 36 (0,0)))) (fun j=>?_);generalize w5.drew=w8 at hSn G ⊢;refine Nk 0 Ar ?_;refine Au 1 ?_;refine Au 2 ?_;refine Au 3 ?_;refine Ch 4 fun K J=>?_
   go_simp
   (refine(bf.out _).mono ?_);rintro e w9 ⟨rfl,L⟩;have M:=Ad G L;clear G hSn L;have G:=M;clear M;have hSn:=ah.out _ G
   refine Bq J (fun j=>?_);clear J K;refine Ch 5 fun K J=>?_
   go_simp
   (refine(bg.out s1 q1 b1 C1 ag.out.1 _ (b7.out.below G)).mono ?_);rintro e w9 ⟨f,q,d,E,rfl,bq,br,bs,L⟩;have M:=Ad G L;clear G hSn L;have G:=M;clear M;have hSn:=ah.out _ G;have H9:=af.out.step G
   refine Bq J (fun j=>?_);clear J K;refine Au 6 ?_;refine Au 7 ?_;refine Ch 8 fun K J=>?_;refine Ay (by rfl) ?_;refine sW (Aj f q) H9.Am ?_;have b8:=H9.row 1 (Aj f q) _ rfl;have b9:=bq.other (t:=36) H9.Am (by decide) (by decide) (by decide) (Aj f q);have ba:=(Ah _ _ (Aj f q) _ (show w.heap.size≠w.heap.size+1 by omega)).trans hSn;clear hSn;have hSn:=ba;clear ba;refine Bq J (fun j=>?_);clear J K;refine Au 9 ?_;refine wpAnyH_done Kr ?_ _;clear j;go_wp2_with fail;go_meet
   case rel=>exact⟨rfl,f,q,d,E,b8.Am,b9,br,bs,b8.kept⟩
  case rest=>
   obtain⟨rfl,f,q,d,E,bt,Z,bu,bw,bx⟩:=hcut;go_wp2_with fail;refine bodyPost_ret (v:=.tuple #[.agg (Aj f q),()]) (Jn rfl _ _ rfl (Ci bt Ar Kr Kr) rfl) rfl ?_;exact HQ.out f q d C1 E _ Z bu ag.out.2 bw bx
theorem Z5:(⟨#[1]⟩:ByteArray).size=1:=rfl
theorem Te (m:Nat):(⟨(List.replicate m 0).toArray⟩:ByteArray).size=m:=by
 show(List.replicate m (0:UInt8)).toArray.size=m
 rw[List.size_toArray,List.length_replicate]
theorem U3 (m:Nat):(⟨#[1]⟩:ByteArray)++⟨(List.replicate (m-1) 0).toArray⟩=Cy m:=by
 apply Y8
 rw[ByteArray.data_append,Array.toList_append]
 rfl
theorem Z6 {N n k:Nat}{ids:List Int}{c:Int}(s:Tx.St)(p:SP)(fs:List Fr)(C:Nat→ByteArray)(O:SS N n k ids c s fs C)(hc:c+2524≤(N:Int)*128)(t:Int)(ht:t∈ids)(P:Rc.num t)(w:World)(h:Ao w s p fs):
 Cq 55 #[Ag s p,t] w (Oj N n k ids (c+2524) C 0 1 0 [Cy ((n+7)/8)] w):=by
 have hn:=O.pi.n1;have HZ:=Hq O.pi.zp;have R:1≤(n+7)/8:=by omega
 have ad:(n+7)/8≤8:=by omega
 have F:=Hq (fun W=>U1 s p n O.pi.zp (by omega) W);have ae:=Nf R;have v:=Uz (r:=Cy ((n+7)/8)) (by omega) (by omega);have T:=Hq (fun W=>Vs 1 W);have A:=Hq (fun W=>show Cr 128 #[.string (E6 1),(),.string (Cy ((n+7)/8))] W (Mm (C8 ⟨0,1,0,[Cy ((n+7)/8)]⟩,0)) from by
  have U:=lO (E6 (1:Nat)) 0 (Cy ((n+7)/8)) (by rw[(Im 1 (by omega)).1.size];omega) W;rw[v.1]at U;exact U)
 have B:=Hq (fun W (hb:Bw w W)=>show Cq 131 #[Ag s p,t,(),.string (C8 ⟨0,1,0,[Cy ((n+7)/8)]⟩)] W (Oj N n k ids (c+2524) C 0 1 0 [Cy ((n+7)/8)] W)from by
  have U:=Zz s p fs C O hc t ht P 0 (by omega) (C8 ⟨0,1,0,[Cy ((n+7)/8)]⟩) v.2.1 (by rw[v.2.2]) W (h.below hb);rw[v.2.2]at U;exact U)
 have HQ:=Hq (fun(j:Tx.St) (q:SP) (o:List Fr) (L:Nat→ByteArray) w' h1 h2 h3 h4=>show Oj N n k ids (c+2524) C 0 1 0 [Cy ((n+7)/8)] w (.returned (.tuple #[Ag j q,()])) w' from⟨j,q,o,L,rfl,h1,h2,h3,h4⟩);have V:=Hq (fun W e w' (hh:Oj N n k ids (c+2524) C 0 1 0 [Cy ((n+7)/8)] W e w')=>show ∃ (j:Tx.St) (q:SP) (o:List Fr) (L:Nat→ByteArray),e= .returned (.tuple #[Ag j q,()])∧Ao w' j q o∧SS N n k ids (c+2524) j o L∧Pk C L 0 1 0 [Cy ((n+7)/8)]∧Bw W w' from hh);generalize af:Oj N n k ids (c+2524) C 0 1 0 [Cy ((n+7)/8)] w=Q at HQ ⊢;have ag:¬ (n:Int)<1:=by omega
 have ah:¬ (2000:Int)<(n:Int):=by omega
 have G:∀ W:World,(Instr.makeSlice 104 (.int .i64 (((n+7)/8-1:Nat):Int)) (.int .i64 (((n+7)/8-1:Nat):Int))).run Tryz.prog W= .ok (.slice (some ⟨W.heap.size,0,none⟩) ((n+7)/8-1) ((n+7)/8-1)) (W.alloc (.cells (madeCells #[Value.int .u8 0] ((n+7)/8-1)) 5)):=fun W=>Hr ((n+7)/8-1) (by omega) W;have D:=Hs ((n+7)/8-1);have i:∀ W:World,(Op.stringOp .add ⟨#[1]⟩ ⟨(List.replicate ((n+7)/8-1) 0).toArray⟩).run Tryz.prog W= .ok (.string (Cy ((n+7)/8))) W:=fun W=>by
  rw[← U3];exact run_string_add_sum W _ _ (by rw[Z5,Te];omega)
 have X:(((n+7)/8:Nat):Int)-1=(((n+7)/8-1:Nat):Int):=by omega
 have H:IntKind.i64.wrap ((((n+7)/8:Nat):Int)-1)=(((n+7)/8-1:Nat):Int):=by rw[X];exact IntWalk.i64_in _ (by omega)
 generalize Cy ((n+7)/8)=fb at A B HQ i V;generalize C8 ⟨0,1,0,[fb]⟩=pb at A B;generalize ai:(n+7)/8=m at G D i H F;generalize m-1=m1 at G D i H;generalize (⟨(List.replicate m1 0).toArray⟩:ByteArray)=zz at D i;clear h O hn hc ht P v ae R ad ai X af;go_enter Tryz.func55,Tryz.ntmps55;go_upto_region 1 with fail;have M:=Hp w (Aj s p) 36 #[(),(),(),'s',(),false,(),(),(),(),"",'s',(),'s',()] 36;obtain⟨I,Y⟩:=Ee M;rw[← Y]at M ⊢;clear Y;have aj:=show I.cell? ⟨w.heap.size,1,none⟩=some (.int .i64 (n:Int))from by rw[Aa M.out.Ai,← HZ.out];rfl
 go_upto_region 3 with fail;clear aj ag ah
 go_cut [6,7] (fun x y wc=>x= .string pb∧y= .int .i64 0∧Bw I wc)
 case first=>
  have z:=Hq (fun(u:World) (hu:Bw I u)=>show u.heap[w.heap.size]? =some (.cells (Aj s p) 36 (0,0))from Ae M.out.Ai hu);have f:Bw I I.drew:=(Below.refl _ I).drew;have hSn:=z.out _ f;refine Gd (S:=(fun u=>u.heap[w.heap.size]? =some (.cells (Aj s p) 36 (0,0)))) (fun a=>?_);generalize I.drew=w8 at hSn f ⊢;refine Nk 1 Ar ?_;refine Ch 0 fun K l=>?_
  go_simp
  (refine(T.out _).mono ?_);rintro e w9 ⟨rfl,b⟩;have d:=Ad f b;clear f hSn b;have f:=d;clear d;have hSn:=z.out _ f
  refine Bq l (fun a=>?_);clear l K;refine Ch 2 fun K l=>?_
  go_simp
  (refine(F.out _).mono ?_);rintro e w9 ⟨rfl,b⟩;have d:=Ad f b;clear f hSn b;have f:=d;clear d;have hSn:=z.out _ f
  refine Bq l (fun a=>?_);clear l K;refine Au 3 ?_;refine Ch 4 fun K l=>?_
  go_simp
  have b:=Ab w9 (.cells (madeCells #[Value.int .u8 0] m1) 5);have d:=Ad f b;clear f hSn b;have f:=d;clear d;have hSn:=z.out _ f;refine Bq l (fun a=>?_);clear l K;refine Ch 5 fun K l=>?_
  go_simp
  refine Bq l (fun a=>?_);clear l K;refine Au 6 ?_;refine Ch 7 fun K l=>?_
  go_simp
  (refine(A.out _).mono ?_);rintro e w9 ⟨rfl,b⟩;have d:=Ad f b;clear f hSn b;have f:=d;clear d;have hSn:=z.out _ f
  refine Bq l (fun a=>?_);clear l K;refine Au 8 ?_;refine Au 9 ?_;refine Au 10 ?_;refine Au 11 ?_;refine Au 12 ?_;refine wpAnyH_done Kr ?_ _;clear a;go_wp2_with fail;go_meet
  case rel=>exact⟨rfl,rfl,f⟩
 case rest=>
  obtain⟨rfl,rfl,Z⟩:=hcut;obtain⟨w3,rfl⟩:=ex wc;have H3:=Hq (M.out.step Z);clear Z G D i H F T A M
  go_upto_region 7 with(first
   |with_reducible refine lL H3.out.Ai Ar ?_
   |(go_at_call 131;refine(B.out _ H3.out.below).mono ?_;intro e w4 hh;obtain⟨j,q,o,L,rfl,a1,ak,an,J⟩:=V.out _ _ _ hh;clear hh)
   |with_reducible refine sN (Aj j q) ?_)
  have a6:=J.trans ((Ab w4 (.cells (Aj j q) 36)).mono J.size);have H5:=Hq (H3.out.step a6);have a7:=Hq (heap_alloc_new w4 (.cells (Aj j q) 36));have a8:=Hq (a1.below (Ab w4 (.cells (Aj j q) 36)));obtain⟨g,hg⟩:=ex w4.heap.size;obtain⟨w5,E⟩:=ex (w4.alloc (.cells (Aj j q) 36));rw[← hg,← E]at a7;rw[← E]at H5 a8;rw[← E,← hg];clear E hg J a6 H3 B a1
  try simp only[Act.put]
  have ao:=Hq (fun W=>U0 s p j q 0 (by decide) W)
  go_wp2_with(first
   |with_reducible refine lL H5.out.Ai Ar ?_
   |with_reducible refine lL a7.out Ar ?_
   |(go_at_call 65;refine(ao.out _).mono ?_;rintro e w6 ⟨he,aa⟩;rw[if_pos rfl]at he;subst he;have H6:=Hq (H5.out.step aa))
   |with_reducible refine lS (Aj j q) H6.out.Am ?_)
  refine rT2 () H6.out.Am Ar ?_;exact HQ.out j q o L _ ((a8.out.below aa).other (t:=36) H6.out.Am (by decide) (by decide) (by decide) _) ak an (H6.out.row 1 (Aj j q) _ rfl).below
end Go.Proofs.YtmldoihahndcgaaGreatDoor
