import Derived.Test.YtmfkhdhnbkambaaGreatDoorHw00
import Derived.Test.YtmfkhdhnbkambaaGreatDoorHw22
import Derived.Test.YtmfkhdhnbkambaaGreatDoorHw12
import Derived.Test.YtmfkhdhnbkambaaGreatDoorHw08
import Derived.Test.YtmfkhdhnbkambaaGreatDoorHw01
import Derived.Laws.BitsAllLaws
set_option maxRecDepth 100000
set_option maxHeartbeats 16000000
set_option linter.unusedSimpArgs false
namespace Go.Proofs.YtmfkhdhnbkambaaGreatDoor
open Go.RowKit Sc
structure Jq (B g:Nat) (w:World) (v:Value) (l:List UInt8):Prop where
 own:Lv B w v l
 at_:∃ c,v= .slice (some ⟨g,0,none⟩) l.length c
 ty:∃ cur fr,w.heap[g]? =some (.cells cur 5 fr)
theorem Jq.below {B g:Nat}{w w':World}{v:Value}{l:List UInt8}(h:Jq B g w v l)(a:Bw w w'):Jq B g w' v l:=by
 obtain⟨cur,b,c⟩:=h.ty;exact⟨h.own.below a,h.at_,cur,b,Af c a⟩
theorem Jq.xP {B a g:Nat}{w:World}{v:Value}{l:List UInt8}(h:Jq B g w v l)(b:a≤B):Jq a g w v l:=⟨h.own.mono b,h.at_,h.ty⟩
theorem Jq.same {B g:Nat}{w w':World}{v:Value}{l:List UInt8}(h:Jq B g w v l)(c:w'.heap[g]? =w.heap[g]?):Jq B g w' v l:=by
 obtain⟨cur,m,e⟩:=h.ty;obtain⟨c0,n⟩:=h.at_;obtain⟨b,cap,f,o,t,p,q,i,r⟩:=h.own;have a:=f.symm.trans n
 injection a with a u x
 injection a with a
 injection a with a _ _
 subst a;have k:∀ j,w'.cell? ⟨b,j,none⟩=w.cell? ⟨b,j,none⟩:=fun j=>by unfold World.cell?;rw[c]
 have s:∀ j,w'.frozen? ⟨b,j,none⟩=w.frozen? ⟨b,j,none⟩:=fun j=>by unfold World.frozen?;rw[c]
 exact⟨⟨b,cap,f,o,Bt (c.trans e),p,q,fun j d=>⟨by rw[k];exact(i j d).1,by rw[s];exact(i j d).2⟩,fun j d=>by rw[k];exact r j d⟩,h.at_,cur,m,c.trans e⟩
theorem lZ (w:World)(s:ByteArray)(a:s.size≤1000000):Jq w.heap.size w.heap.size (Lib.bytesWorld w 5 s) (.slice (some ⟨w.heap.size,0,none⟩) s.size (grownCap w s.size 0 5)) s.data.toList:=
 ⟨lC w s a,⟨_,by rw[Fh]⟩,_,_,Lib.bytesWorld_at_new w 5 s⟩
theorem tQ (y:UInt8)(r:Nat):(bits BinOp.and IntKind.u8 ((y.toNat:Int)/2^r) 1==1)=y.toNat.testBit r:=by
 have a:y.toNat<256:=y.toNat_lt;have b:y.toNat/2^r<256:=Nat.lt_of_le_of_lt (Nat.div_le_self _ _) a;have e:((y.toNat:Int)/2^r)=((y.toNat/2^r:Nat):Int):=by rw[Int.natCast_ediv,Int.natCast_pow];rfl
 rw[e,show(1:Int)=((1:Nat):Int)from rfl,u8_and_nat _ 1 b (by decide),Nat.and_one_is_mod,Nat.testBit_eq_decide_div_mod_eq];have h2:y.toNat/2^r%2=0∨y.toNat/2^r%2=1:=by omega
 rcases h2 with h2|h2<;>rw[h2]<;>rfl
theorem Nk (v:Value)(b:ByteArray)(B:Nat)(p:Nat)(k:p/8<b.size)(o:p≤1000)(w:World)(h:Lv B w v b.data.toList):
 Cr 65 #[v,.int .i64 (p:Int)] w (.bool (bit b p)):=by
 have a:p/8<b.data.toList.length:=by rw[Fh];exact k
 have c:bit b p=(b.data.toList[p/8]).toNat.testBit (p%8):=by unfold bit;rw[List.getElem?_eq_getElem a,Option.getD_some]
 rw[c];clear c;generalize b.data.toList=l at h a ⊢;obtain⟨g,cap,rfl,_,_,_,_,_,m⟩:=h;have n:=m (p/8) a;have s:Int.tdiv (p:Int) 8=((p/8:Nat):Int):=by rw[Int.tdiv_eq_ediv_of_nonneg (by omega)];omega
 have t:Int.tmod (p:Int) 8=((p%8:Nat):Int):=by rw[Int.tmod_eq_emod_of_nonneg (by omega)];omega
 have d:IntKind.i64.wrap ((p/8:Nat):Int)=((p/8:Nat):Int):=IntWalk.i64_in _ (by omega);have e:IntKind.i64.wrap ((p%8:Nat):Int)=((p%8:Nat):Int):=IntWalk.i64_in _ (by omega);have u:p%8<8:=Nat.mod_lt _ (by decide);have f:(0:Int)≤((p/8:Nat):Int):=by omega
 have i:((p/8:Nat):Int)<(l.length:Int):=by omega
 generalize x:l[p/8]=y at n ⊢;clear x m k;generalize p/8=q at n s d f i a;generalize p%8=r at t e u ⊢;have A:(0:Int)≤(r:Int):=by omega
 have j:=tQ y r;generalize y.toNat.testBit r=z at j ⊢;go_enter Tryz.func65,Tryz.ntmps65;go_wp2_with fail;go_ret;exact⟨rfl,Below.refl _ _⟩
def qK (N n k:Nat)(ids:List Int)(c:Int)(C:Nat→ByteArray)(b:ByteArray)(w:World)(e:Ending)(w':World):Prop:=
 ∃ (s':Tx.St) (q:SP) (fs':List Fr) (v:Value) (g:Nat),e= .returned (.tuple #[Ah s' q,v,()])∧Am w' s' q fs'∧SS N n k ids c s' fs' C∧Jq w.heap.size g w' v b.data.toList∧w.heap.size≤g∧Bw w w'
theorem Nl {N n k:Nat}{ids:List Int}{c:Int}(s:Tx.St)(p:SP)(fs:List Fr)(C:Nat→ByteArray)(A:SS N n k ids c s fs C)(b:ByteArray)(u:Nat→Nat){V:Nat→Nat×List ByteArray}(E:SI n C b u V)(w:World)(h:Am w s p fs):
 Cq 63 #[Ah s p] w (qK N n k ids c C b w):=by
 have F:=Hq (fun W (hb:Bw w W)=>Tq s p fs C A.pi 0 (by have:=A.pi.n1;omega) W (h.below hb));have hn:=A.pi.n1;have j:=A.pi.nm 0 (by omega);have l:=Hq (fun W=>Fw (C 0) 0 (by rw[j.size];omega) W);have o:=Hq (fun W=>Yn (C 0) (by rw[j.size];omega) W);have r:=Hq (fun W=>Uw (C 0) (by rw[j.size];omega) W);have G:Pg.Ba (Ab (C 0)).Ai 0=b:=by rw[E.r0];rfl
 rw[G]at l;rw[E.k0]at o;rw[E.r0]at r;have m:=E.sz;have H:=Hq (fun(s1:Tx.St) (p1:SP) (hz:s1.zpages=(n:Int)) W=>show Cr 120 #[Ah s1 p1] W (.int .i64 (b.size:Int)) from by rw[m];exact lY s1 p1 n hz (by omega) W);have a1:b.size≤1000:=by rw[m];omega
 have a6:¬ b.size=0:=by rw[m];omega
 have ag:∀ W:World,(convert 9 112 (.string b)).run Tryz.prog W= .ok (.slice (some ⟨W.heap.size,0,none⟩) b.size (grownCap W b.size 0 5)) (Lib.bytesWorld W 5 b):=fun W=>Lib.run_convert_string_bytes W 9 112 5 b bM Hw mQ;have a7:=Hq (fun W:World=>lZ W b (by omega));have HQ:=Hq (fun(s':Tx.St) (q:SP) (a8:List Fr) (v:Value) (g:Nat) w' h1 h2 h3 h4 h5=>show qK N n k ids c C b w (.returned (.tuple #[Ah s' q,v,()])) w' from⟨s',q,a8,v,g,rfl,h1,h2,h3,h4,h5⟩);generalize qK N n k ids c C b w=Q at HQ ⊢;have aa:=Hq A;generalize decide (b.size=0)=bz at l;clear h A hn j G m a1 a6 E;go_enter Tryz.func63,Tryz.ntmps63;go_upto_region 1 with fail;have B:=Lx w (Ak s p) 36 #[(),(),(),"s",(),false,(),(),(),(),"","s",(),"s",()] 36;obtain⟨W0,I⟩:=E0 B;rw[← I]at B ⊢;clear I
 go_upto_region 4 with(first
  |with_reducible refine lL B.out.Ao Ar ?_
  |(go_at_call 13;refine(F.out _ B.out.below).mono ?_;rintro e w1 ⟨s1,f,ad,rfl,J,K,x,L⟩;have H1:=Hq (B.out.step L))
  |with_reducible refine lS (Ak s1 f) H1.out.Ao ?_)
 have Z:=Hq (show Eg w.heap.size w [((Ak s1 f),36),(#[(),(),(),"s",(),false,(),(),(),(),"","s",(),"s",()],36)] (w1.setRow w.heap.size (Ak s1 f))from H1.out.row 0 (Ak s1 f) _ rfl);have y:=Hq (J.other (t:=36) H1.out.Ao (by decide) (by decide) (by decide) (Ak s1 f));have M:=Hq (aa.out.hk x K);generalize w1.setRow w.heap.size (Ak s1 f)=w2 at Z y ⊢;clear B H1 J K x L F
 try simp only[Act.put]
 have O:=Hq (H.out s1 f M.out.pi.zp);have x:((1:Int) != 1)=false:=rfl
 go_upto_region 7 with(first
  |with_reducible refine lL H4.out.Ao Ar ?_
  |(go_at_call 62;refine(l.out _).mono ?_;rintro e w3 ⟨rfl,P⟩)
  |(go_at_call 115;refine(o.out _).mono ?_;rintro e w4 ⟨rfl,R⟩)
  |(go_at_call 61;refine(r.out _).mono ?_;rintro e w5 ⟨rfl,S⟩;have a:=Ag P (Ag R S);have H4:=Hq (Z.out.step a))
  |(go_at_call 120;refine(O.out _).mono ?_;rintro e D ⟨rfl,T⟩))
 have d:=Ag a T;have U:=Hq (Z.out.step d);have ae:=Hq (y.out.below d);clear P R S T a d Z H4 y l o r H O;have z:=Ly D 5 b;have X:=Hq (U.out.step z);have Y:=Hq (ae.out.below z);have HU:=a7.out D;generalize ah:Lib.bytesWorld D 5 b=w7 at z X Y HU
 go_wp2_with(first
  |with_reducible refine lL U.out.Ao Ar ?_
  |with_reducible refine lS (Ak s1 f) X.out.Aq ?_)
 have af:=HU;refine rT3 (.slice (some ⟨D.heap.size,0,none⟩) b.size (grownCap D b.size 0 5)) () X.out.Aq Ar ?_;exact HQ.out s1 f ad _ D.heap.size _ (Y.out.other (t:=36) X.out.Aq (by decide) (by decide) (by decide) _) M.out (Jq.same (af.xP (by have:=U.out.below.size;omega)) (Ae _ _ _ _ (by have:=U.out.lt (i:=1) (by simp);omega))) U.out.below.size (X.out.row 1 (Ak s1 f) _ rfl).below
structure Xz (B g:Nat) (w:World) (l:List (Array Value×TypeId)) (u:World):Prop where
 get:∀ i p,l[i]? =some p→u.heap[B+i]? =some (.cells p.1 p.2 (0,0))
 kept:Er B g w u
 low:B≤w.heap.size
theorem Xz.of {B g:Nat}{w u:World}{l:List (Array Value×TypeId)}(h:Eg B w l u)(a:B=w.heap.size):Xz B g w l u:=⟨h.get,Er.Es (by omega) h.below,by omega⟩
theorem Xz.Ao {B g:Nat}{w u:World}{l:List (Array Value×TypeId)}{c0:Array Value}{a:TypeId}(h:Xz B g w ((c0,a)::l) u):u.heap[B]? =some (.cells c0 a (0,0)):=h.get 0 _ rfl
theorem Xz.Aq {B g:Nat}{w u:World}{l:List (Array Value×TypeId)}{p:Array Value×TypeId}{a:Array Value}{b:TypeId}(h:Xz B g w (p::(a,b)::l) u):u.heap[B+1]? =some (.cells a b (0,0)):=h.get 1 _ rfl
theorem Xz.step {B g:Nat}{w u v:World}{l:List (Array Value×TypeId)}(h:Xz B g w l u)(a:Bw u v):Xz B g w l v:=
 ⟨fun i p b=>Af (h.get i p b) a,h.kept.trans (Er.Es (by have:=h.low;have:=h.kept.size;omega) a),h.low⟩
theorem Xz.row {B g:Nat}{w u:World}{l:List (Array Value×TypeId)}(h:Xz B g w l u)(i:Nat)(cs:Array Value)(p:Array Value×TypeId)(hi:l[i]? =some p):Xz B g w (l.set i (cs,p.2)) (u.setRow (B+i) cs):=by
 have b:=(List.getElem?_eq_some_iff.1 hi).1;refine⟨fun k q a=>?_,h.kept.trans ⟨rfl,rfl,rfl,by show _≤(u.heap.modify _ _).size;simp,fun k hk _=>Ae _ _ _ _ (by omega)⟩,h.low⟩
 by_cases hk:i=k
 ·subst hk
  rw[List.getElem?_set_self b]at a
  injection a with a
  subst a;exact setRow_heap _ _ _ _ _ _ (h.get i p hi)
 ·rw[List.getElem?_set_ne hk]at a
  rw[Ae _ _ _ _ (by omega)];exact h.get k q a
theorem Xz.byte {B g:Nat}{w u:World}{l:List (Array Value×TypeId)}(h:Xz B g w l u)(b:g<B)(i:Nat)(x:Value):Xz B g w l (u.setCell ⟨g,i,none⟩ x):=
 ⟨fun k p a=>(Below.heap_setCell _ _ _ _ (by show B+k≠g;omega)).trans (h.get k p a),h.kept.trans ⟨rfl,rfl,rfl,by rw[World.size_setCell];exact Nat.le_refl _,fun k _ hk=>Below.heap_setCell _ _ _ _ hk⟩,h.low⟩
theorem Jq.Uk {B g:Nat}{w:World}{v:Value}{b:ByteArray}{p:Nat}(h:Jq B g w v b.data.toList)(i:p/8<b.size):
 w.cell? ⟨g,p/8,none⟩=some (.int .u8 ((b.data.toList[p/8]?.getD 0).toNat:Int))∧w.frozen? ⟨g,p/8,none⟩=false∧Jq B g (w.setCell ⟨g,p/8,none⟩ (.int .u8 (((b.data.toList[p/8]?.getD 0).toNat ^^^ 2^(p%8):Nat):Int))) v (Dw b p).data.toList:=by
 have d:p/8<b.data.toList.length:=by rw[Fh];exact i
 obtain⟨u,c,j,x,l⟩:=h.own.set;obtain⟨c0,e⟩:=h.at_;obtain⟨cur,m,n⟩:=h.ty;have a:=j.symm.trans e
 injection a with a y z
 injection a with a
 injection a with a _ _
 subst a;obtain⟨o,q,r⟩:=l _ d;have s:=Vi (b.data.toList[p/8]?.getD 0) (k:=p%8) (by omega);have t:(UInt8.ofNat ((b.data.toList[p/8]?.getD 0).toNat ^^^ 2^(p%8))).toNat=(b.data.toList[p/8]?.getD 0).toNat ^^^ 2^(p%8):=by rw[UInt8.toNat_ofNat'];exact Nat.mod_eq_of_lt s
 refine⟨?_,q,?_⟩
 ·rw[List.getElem?_eq_getElem d,Option.getD_some];exact o
 ·have f:=(r (UInt8.ofNat ((b.data.toList[p/8]?.getD 0).toNat ^^^ 2^(p%8)))).1
  rw[t]at f;exact⟨f,⟨c0,by rw[e];congr 1;unfold Dw;rw[sI,List.length_set]⟩,_,m,Cp _ n _⟩
def qL (N n k:Nat)(ids:List Int)(c:Int)(b:ByteArray)(u:Nat→Nat)(V:Nat→Nat×List ByteArray)(g:Nat)(w:World)(e:Ending)(w':World):Prop:=
 ∃ (s':Tx.St) (q:SP) (fs':List Fr) (C':Nat→ByteArray),e= .returned (.tuple #[Ah s' q,()])∧Am w' s' q fs'∧SS N n k ids c s' fs' C'∧SI n C' b u V∧Er w.heap.size g w w'
theorem Vw {N n k:Nat}{ids:List Int}{c:Int}(s:Tx.St)(p:SP)(fs:List Fr)(C:Nat→ByteArray)(hS:SS N n k ids c s fs C)(hc:c+3268≤(N:Int)*128)(t:Int)(ht:t∈ids)(a6:Rc.num t)(b:ByteArray)(u:Nat→Nat){V:Nat→Nat×List ByteArray}(hu:SI n C b u V)(pg:Nat)(ai:pg<n)(ba:1≤pg)(F:Nat)(bb:F≤4)(aj:0<F↔¬ 0<u pg)(v:Value)(B g:Nat)(w:World)(hv:Jq B g w v b.data.toList)(h:Am w s p fs):
 Cq 104 #[Ah s p,t,.int .i64 (pg:Int),.int .i64 (F:Int),v] w (qL N n k ids (c+3268) (Dw b pg) (fun q=>if q=pg then F else u q) (fun q=>if q=pg then(0,[])else V q) g w):=by
 have hn:=hS.pi.n1;have D:=hu.sz;have a7:pg/8<b.size:=by rw[D];omega
 have bc:pg/8<(Dw b pg).size:=by rw[Ho];exact a7
 have hd:=vT (hS.pi.nm 0 (by omega)) hu.r0 (r:=Dw b pg) (by rw[D];omega) (by rw[Ho,D];omega) (by rw[Ho,D];omega);have O:=Hq (fun W (R:Am W s p fs)=>show Cq 148 #[Ah s p,t,(),.agg #[.int .i64 3,(),b,.string (Dw b pg)]] W _ from Qx s p fs C hS (by omega) t ht 0 (by omega) ⟨3,0,b,Dw b pg⟩ _ (Xs (by rw[D];omega) (by rw[Ho,D];omega) t a6 (pg:=0) (by omega) 3 ⟨by decide,by decide⟩) (fun V=>by
  have ak:=gO (C 0) ⟨3,0,b,Dw b pg⟩ (.inl rfl) (by rw[(hS.pi.nm 0 (by omega)).size];omega) (by simp only;rw[Ho,D];omega) V;rw[hd.1]at ak;exact ak) hd.2.1 W R)
 have T:=Hq (fun(f:Tx.St) (d:List Fr) (l:Int) (hp:PI N n f d (fun x=>if x=0 then Bl (Dl {Ab (C 0)with Ai:=[Dw b pg]}) l else C x)) (hk:wC s f fs d t l)=>And.intro (hS.ch hk hp) (show Xq C (fun x=>if x=0 then Bl (Dl {Ab (C 0)with Ai:=[Dw b pg]}) l else C x) 0 1 0 [Dw b pg]from by have h5:=Xr (C:=C) (pg:=0) hd.2.1 hk.lr;rw[hd.2.2]at h5;exact⟨h5.k.trans hu.k0,h5.l.trans hu.l0,h5.r,h5.o⟩));generalize Dl {Ab (C 0)with Ai:=[Dw b pg]}=pb at O T;have U:=Ln F bb;have bd:=Hq (fun W=>fK (F:Int) W);have bf:=Hq (fun(f:Tx.St) (p':SP) (d:List Fr) (E:Nat→ByteArray) (bg:SS N n k ids (c+1634) f d E) W (R:Am W f p' d)=>show Cq 149 #[Ah f p',t,.int .i64 (pg:Int),.string (Gi (F:Int))] W (gP N n k ids (c+3268) E pg F 0 [] W)from by
  have h9:=qJ f p' d E bg (by omega) t ht a6 pg ai (Gi (F:Nat)) U.1 (by rw[U.2]) W R;rw[U.2]at h9;simp only at h9;rw[show c+1634+1634=c+3268 from by omega]at h9;exact h9)
 have HQ:=Hq (fun(f:Tx.St) (q:SP) (d:List Fr) (C1 E:Nat→ByteArray) w' H (h2:SS N n k ids (c+3268) f d E) (t1:Xq C C1 0 1 0 [Dw b pg]) (t2:Xq C1 E pg F 0 []) h4=>show qL N n k ids (c+3268) (Dw b pg) (fun q=>if q=pg then F else u q) (fun q=>if q=pg then(0,[])else V q) g w (.returned (.tuple #[Ah f q,()])) w' from⟨f,q,d,E,rfl,H,h2,hu.flip ai ba aj ⟨by rw[t2.o 0 (by omega)];exact t1.k,by rw[t2.o 0 (by omega)];exact t1.r,by rw[t2.o 0 (by omega)];exact t1.l⟩ ⟨t2.k,t2.r,t2.l⟩ (fun x hx _ bh=>by rw[t2.o x bh,t1.o x (by omega)]),h4⟩);generalize qL N n k ids (c+3268) (Dw b pg) (fun q=>if q=pg then F else u q) (fun q=>if q=pg then(0,[])else V q) g w=Q at HQ ⊢;have HV:=Hq hv;have X:=Hq (fun W (R:Jq B g W v b.data.toList)=>R.Uk (p:=pg) a7);have HP:=Hq h;have bj:g<w.heap.size:=by obtain⟨cur,fr,H⟩:=hv.ty;exact Bt H
 obtain⟨cc,al⟩:=hv.at_;have hlen:b.data.toList.length=b.size:=Fh b;rw[hlen]at al;have a8:(Dw b pg).data.toList.length=b.size:=by rw[Fh,Ho]
 have an:=Hq (fun W (R:Jq B g W v b.data.toList)=>show(convert 112 9 v).run Tryz.prog W= .ok (.string b) W from by have H:=R.own.back (P:=Tryz.prog) Hw mQ bM;rw[fP]at H;exact H);have I:=Hq (fun W (R:Jq B g W v (Dw b pg).data.toList)=>show(convert 112 9 v).run Tryz.prog W= .ok (.string (Dw b pg)) W from by have H:=R.own.back (P:=Tryz.prog) Hw mQ bM;rw[fP]at H;exact H);have hq:Int.tdiv (pg:Int) 8=((pg/8:Nat):Int):=by rw[Int.tdiv_eq_ediv_of_nonneg (by omega)];omega
 have hr:Int.tmod (pg:Int) 8=((pg%8:Nat):Int):=by rw[Int.tmod_eq_emod_of_nonneg (by omega)];omega
 have bk:IntKind.i64.wrap ((pg/8:Nat):Int)=((pg/8:Nat):Int):=IntWalk.i64_in _ (by omega);have bl:IntKind.i64.wrap ((pg%8:Nat):Int)=((pg%8:Nat):Int):=IntWalk.i64_in _ (by omega);have h8:pg%8<8:=Nat.mod_lt _ (by decide);have bm:(0:Int)≤((pg/8:Nat):Int):=by omega
 have bn:((pg/8:Nat):Int)<(b.size:Int):=by omega
 generalize bo:Dw b pg=b2 at O T HQ X I a8;clear bo h hv hS hu hd U hn D bc hc ht a6 aj hlen;subst al;generalize pg/8=q8 at hq bk bm bn a7 X;generalize pg%8=m at hr bl h8 X;have bx:(0:Int)≤(m:Int):=by omega
 go_enter Tryz.func104,Tryz.ntmps104;go_upto_region 1 with fail;have H0:=Lx w (Ak s p) 36 #[(),(),(),"s",(),false,(),(),(),(),"","s",(),"s",()] 36;obtain⟨W0,ao⟩:=E0 H0;rw[← ao]at H0 ⊢;clear ao;have aq:=Hq (Xz.of (g:=g) H0.out rfl);have Y:=Hq (HV.out.below H0.out.below);have ar:=Hq (HP.out.below H0.out.below);have aa:=an.out W0 Y.out;clear HV HP H0 an;generalize hy:b.data.toList[q8]?.getD 0=y at X;have au:y.toNat<256:=y.toNat_lt;have ad:bits BinOp.xor IntKind.u8 (y.toNat:Int) ((2^m:Nat):Int)=((y.toNat ^^^ 2^m:Nat):Int):=u8_xor_nat _ _ au (by
  have:2^m≤2^7:=Nat.pow_le_pow_right (by omega) (by omega);omega)
 rw[show((2^m:Nat):Int)=(2:Int)^m from by rw[Int.natCast_pow];rfl]at ad;have av:IntKind.u8.wrap (1*2^m)=((2^m:Nat):Int):=by
  have:m=0∨m=1∨m=2∨m=3∨m=4∨m=5∨m=6∨m=7:=by omega
  rcases this with rfl|rfl|rfl|rfl|rfl|rfl|rfl|rfl<;>decide
 have aw:IntKind.u8.wrap (2^m)=((2^m:Nat):Int):=by rw[← av,Int.one_mul]
 generalize hz:(y.toNat ^^^ 2^m:Nat)=z at X ad;clear hy au hz;go_upto_region 2 with fail;clear aa
 go_cut [25] (fun x wc=>Xz w.heap.size g w [((Ak s p),36),(#[(),(),(),"s",(),false,(),(),(),(),"","s",(),"s",()],36)] wc∧Jq B g wc (.slice (some ⟨g,0,none⟩) b.size cc) b2.data.toList∧Am wc s p fs)
 case first=>
  have hSn:W0.drew.cell? ⟨g,q8,none⟩=some (.int .u8 (y.toNat:Int)):=(X.out W0 Y.out).1;have hF:=aq.out.step (Below.refl _ W0).drew;have hV:=Y.out.below (Below.refl _ W0).drew;have hP:=ar.out.below (Below.refl _ W0).drew;refine Fu (S:=(fun u=>u.cell? ⟨g,q8,none⟩=some (.int .u8 (y.toNat:Int)))) 10 Kr ?_ (fun j=>?_)
  ·exact hSn
  generalize W0.drew=w8 at hSn hF hV hP ⊢;refine Aw (i:=0) (oi:={dst:=some 16,op:=_,type:=_,pos:=_,after:=_,guard:=_}) (v:=?_) (p:=[10]) rfl Kr Kr Kr Kr Kr Kr (fun _ _ _ h=>h) (Or.inl ⟨by rfl,?_⟩) (by assumption) ?_
  rotate_left
  ·intro u a;have A:=a
   clear a;go_simp;(try with_reducible rfl)
  try simp only[Act.put,pS]
  refine Aw (i:=1) (oi:={dst:=some 17,op:=_,type:=_,pos:=_,after:=_,guard:=_}) (v:=?_) (p:=[10]) rfl Kr Kr Kr Kr Kr Kr (fun _ _ _ h=>h) (Or.inl ⟨by rfl,?_⟩) (by assumption) ?_
  rotate_left
  ·intro u a;have A:=a
   clear a;go_simp;(try with_reducible rfl)
  try simp only[Act.put,pS]
  refine Aw (i:=2) (oi:={dst:=some 18,op:=_,type:=_,pos:=_,after:=_,guard:=_}) (v:=?_) (p:=[10]) rfl Kr Kr Kr Kr Kr Kr (fun _ _ _ h=>h) (Or.inl ⟨by rfl,?_⟩) (by assumption) ?_
  rotate_left
  ·intro u a;have A:=a
   clear a;go_simp;(try with_reducible rfl)
  try simp only[Act.put,pS]
  refine Aw (i:=3) (oi:={dst:=some 19,op:=_,type:=_,pos:=_,after:=_,guard:=_}) (v:=?_) (p:=[10]) rfl Kr Kr Kr Kr Kr Kr (fun _ _ _ h=>h) (Or.inl ⟨by rfl,?_⟩) (by assumption) ?_
  rotate_left
  ·intro u a;have A:=a
   clear a;go_simp;(try with_reducible rfl)
  try simp only[Act.put,pS]
  refine Aw (i:=4) (oi:={dst:=some 20,op:=_,type:=_,pos:=_,after:=_,guard:=_}) (v:=?_) (p:=[10]) rfl Kr Kr Kr Kr Kr Kr (fun _ _ _ h=>h) (Or.inl ⟨by rfl,?_⟩) (by assumption) ?_
  rotate_left
  ·intro u a;have A:=a
   clear a;go_simp;(try with_reducible rfl)
  try simp only[Act.put,pS]
  refine Aw (i:=5) (oi:={dst:=some 21,op:=_,type:=_,pos:=_,after:=_,guard:=_}) (v:=?_) (p:=[10]) rfl Kr Kr Kr Kr Kr Kr (fun _ _ _ h=>h) (Or.inl ⟨by rfl,?_⟩) (by assumption) ?_
  rotate_left
  ·intro u a;have A:=a
   clear a;go_simp;(try with_reducible rfl)
  try simp only[Act.put,pS]
  refine Aw (i:=6) (oi:={dst:=some 22,op:=_,type:=_,pos:=_,after:=_,guard:=_}) (v:=?_) (p:=[10]) rfl Kr Kr Kr Kr Kr Kr (fun _ _ _ h=>h) (Or.inl ⟨by rfl,?_⟩) (by assumption) ?_
  rotate_left
  ·intro u a;have A:=a
   clear a;go_simp;(try with_reducible rfl)
  try simp only[Act.put,pS]
  refine Aw (i:=7) (oi:={dst:=some 23,op:=_,type:=_,pos:=_,after:=_,guard:=_}) (v:=?_) (p:=[10]) rfl Kr Kr Kr Kr Kr Kr (fun _ _ _ h=>h) (Or.inl ⟨by rfl,?_⟩) (by assumption) ?_
  rotate_left
  ·intro u a;have A:=a
   clear a;go_simp;(try with_reducible rfl)
  try simp only[Act.put,pS]
  refine Aw (i:=8) (oi:={dst:=some 24,op:=_,type:=_,pos:=_,after:=_,guard:=_}) (v:=?_) (p:=[10]) rfl Kr Kr Kr Kr Kr Kr (fun _ _ _ h=>h) (Or.inl ⟨by rfl,?_⟩) (by assumption) ?_
  rotate_left
  ·intro u a;have A:=a
   clear a;go_simp;(try with_reducible rfl)
  try simp only[Act.put,pS]
  refine Aw (i:=9) (oi:={dst:=some 25,op:=_,type:=_,pos:=_,after:=_,guard:=_}) (v:=?_) (p:=[10]) rfl Kr Kr Kr Kr Kr Kr (fun _ _ _ h=>h) (Or.inl ⟨by rfl,?_⟩) (by assumption) ?_
  rotate_left
  ·intro u a;have A:=a
   clear a;go_simp;(try with_reducible rfl)
  try simp only[Act.put,pS]
  refine Bo (rs:=[10]) Kr (by simp) ?_;refine Au.last (o:={dst:=none,op:=_,type:=_,pos:=_,after:=_,guard:=_}) rfl Kr (fun K J=>?_) ?_
  rotate_left
  ·exact Au.nil
  have bz:=(X.out _ hV).2.1
  go_simp
  refine J.out _ _ ?_;clear J K
  try simp only[Act.put]
  refine Ft Kr ?_ _;go_wp2_with fail;go_meet
  case rel=>exact⟨hF.byte bj q8 _,(X.out _ hV).2.2,by obtain⟨cur,fr,H⟩:=hV.ty;exact hP.set (t:=5) H (by decide) (by decide) (by decide) q8 _⟩
 case rest=>
  obtain⟨ax,ay,Z⟩:=hcut;obtain⟨w3,rfl⟩:=ex wc;have ae:=Hq ax;have az:=Hq Z;have aa:=I.out w3 ay;clear ax Z ay aq Y ar X I ad av aw
  go_upto_region 6 with(first
   |with_reducible refine lL ae.out.Ao Ar ?_
   |(go_at_call 148;refine(O.out _ az.out).mono ?_;rintro e w4 ⟨s1,q1,b0,l1,rfl,b1,b3,b4,b5⟩;have a1:=Hq (ae.out.step b5))
   |with_reducible refine lS (Ak s1 q1) a1.out.Ao ?_)
  have af:=Hq (show Xz w.heap.size g w [((Ak s1 q1),36),(#[(),(),(),"s",(),false,(),(),(),(),"","s",(),"s",()],36)] (w4.setRow w.heap.size (Ak s1 q1))from a1.out.row 0 (Ak s1 q1) _ rfl);have b6:=Hq (b1.other (t:=36) a1.out.Ao (by decide) (by decide) (by decide) (Ak s1 q1));have ag:=Hq (T.out s1 b0 l1 b3 b4);generalize (fun x=>if x=0 then Bl pb l1 else C x)=C1 at ag;generalize w4.setRow w.heap.size (Ak s1 q1)=w5 at af b6 ⊢;clear ae az a1 b1 b3 b4 b5 O T aa
  try simp only[Act.put]
  go_cut [11] (fun x wc=>x= .int .i64 0∧∃ (f:Tx.St) (q:SP) (d:List Fr) (E:Nat→ByteArray),wc.heap[(w.heap.size+1)]? =some (.cells (Ak f q) 36 (0,0))∧Am wc f q d∧SS N n k ids (c+3268) f d E∧Xq C1 E pg F 0 []∧Er w.heap.size g w wc)
  case first=>
   have ah:=Hq (fun(u:World) (hu:Bw w5 u)=>show u.heap[w.heap.size]? =some (.cells (Ak s1 q1) 36 (0,0))from Af af.out.Ao hu);have G:Bw w5 w5.drew:=(Below.refl _ w5).drew;have hSn:=ah.out _ G;refine G7 (S:=(fun u=>u.heap[w.heap.size]? =some (.cells (Ak s1 q1) 36 (0,0)))) (fun j=>?_);generalize w5.drew=w8 at hSn G ⊢;refine fA 0 Ar ?_;refine Bb 1 ?_;refine Bb 2 ?_;refine Bb 3 ?_;refine Dg 4 fun K J=>?_
   go_simp
   (refine(bd.out _).mono ?_);rintro e w9 ⟨rfl,L⟩;have M:=Ag G L;clear G hSn L;have G:=M;clear M;have hSn:=ah.out _ G
   refine Cw J (fun j=>?_);clear J K;refine Dg 5 fun K J=>?_
   go_simp
   (refine(bf.out s1 q1 b0 C1 ag.out.1 _ (b6.out.below G)).mono ?_);rintro e w9 ⟨f,q,d,E,rfl,bp,bq,br,L⟩;have M:=Ag G L;clear G hSn L;have G:=M;clear M;have hSn:=ah.out _ G;have H9:=af.out.step G
   refine Cw J (fun j=>?_);clear J K;refine Bb 6 ?_;refine Bb 7 ?_;refine Dg 8 fun K J=>?_;refine Cc (by rfl) ?_;refine sW (Ak f q) H9.Aq ?_;have b7:=H9.row 1 (Ak f q) _ rfl;have b8:=bp.other (t:=36) H9.Aq (by decide) (by decide) (by decide) (Ak f q);have b9:=(Ae _ _ (Ak f q) _ (show w.heap.size≠w.heap.size+1 by omega)).trans hSn;clear hSn;have hSn:=b9;clear b9;refine Cw J (fun j=>?_);clear J K;refine Bb 9 ?_;refine wpAnyH_done Kr ?_ _;clear j;go_wp2_with fail;go_meet
   case rel=>exact⟨rfl,f,q,d,E,b7.Aq,b8,bq,br,b7.kept⟩
  case rest=>
   obtain⟨rfl,f,q,d,E,bs,Z,bt,bu,bw⟩:=hcut;go_wp2_with fail;refine bodyPost_ret (v:=.tuple #[.agg (Ak f q),()]) (Ka rfl _ _ rfl (Cf bs Ar Kr Kr) rfl) rfl ?_;exact HQ.out f q d C1 E _ Z bt ag.out.2 bu bw
theorem qM:(⟨#[1]⟩:ByteArray).size=1:=rfl
theorem eK (m:Nat):(⟨(List.replicate m 0).toArray⟩:ByteArray).size=m:=by
 show(List.replicate m (0:UInt8)).toArray.size=m
 rw[List.size_toArray,List.length_replicate]
theorem mA (m:Nat):(⟨#[1]⟩:ByteArray)++⟨(List.replicate (m-1) 0).toArray⟩=D6 m:=by
 apply Zv
 rw[ByteArray.data_append,Array.toList_append]
 rfl
end Go.Proofs.YtmfkhdhnbkambaaGreatDoor
