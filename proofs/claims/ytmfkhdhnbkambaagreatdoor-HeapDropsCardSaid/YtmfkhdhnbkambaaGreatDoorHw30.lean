import Derived.Test.YtmfkhdhnbkambaaGreatDoorHw00
import Derived.Test.YtmfkhdhnbkambaaGreatDoorHw28
import Derived.Test.YtmfkhdhnbkambaaGreatDoorHw29
set_option maxRecDepth 100000
set_option maxHeartbeats 16000000
set_option linter.unusedSimpArgs false
namespace Go.Proofs.YtmfkhdhnbkambaaGreatDoor
open Go.RowKit Sc
theorem Cl.grown {B:Nat}{w w':World}{e:TypeId}{size n:Nat}{v:Value}{xs:List Value}(d:w.ownsRow B e size v n xs)(j:loose e=true)(b:e≠9)(g:w.grownBy w' v.ownBlock)(l:Below B w w'):Cl B w w':=by
 refine⟨l,fun k cs t f a i o=>?_,fun k cs f a=>⟨cs,?_,fun _ _ _ h=>h⟩⟩
 ·exact(g.block k (Bt a) (fun c=>Gs d a (fun m=>by rw[← m,j]at i;cases i) c.symm)).trans a
 ·exact(g.block k (Bt a) (fun c=>Gs d a b c.symm)).trans a
def bD (G B:Nat)(l:List Int)(u:World):Prop:=∃ v,u.heap[G]? =some (.cells #[v] 80 (0,0))∧Dt Jn 1 3 B u v l
theorem bD.below {G B:Nat}{l:List Int}{u v:World}(h:bD G B l u)(a:Bw u v):bD G B l v:=by
 obtain⟨x,b,c⟩:=h;exact⟨x,Af b a,Bg c a⟩
theorem I0 {w:World}{B g size n:Nat}{e t:TypeId}{v:Value}{xs:List Value}{cs cs':Array Value}{fr:Nat×Nat}(h:w.ownsRow B e size v n xs)(d:w.heap[g]? =some (.cells cs t fr))(b:e≠t):(w.setRow g cs').ownsRow B e size v n xs:=by
 refine⟨h.1,?_⟩;rcases h.2 with f|⟨k,cap,cur,i,c,a,r⟩
 ·exact .inl f
 ·refine .inr ⟨k,cap,cur,i,c,(Ae _ _ _ _ (fun j=>?_)).trans a,r⟩
  rw[j,d]at a;injection a with a;injection a with _ a;exact b a.symm
theorem bD.other {G B:Nat}{l:List Int}{u:World}(h:bD G B l u){g:Nat}{cs:Array Value}(b:u.heap[g]? =some (.cells cs 36 (0,0)))(cs':Array Value):bD G B l (u.setRow g cs'):=by
 obtain⟨x,a,c⟩:=h;refine⟨x,(Ae _ _ _ _ (fun e=>?_)).trans a,I0 c b (by decide)⟩;rw[e,b]at a;injection a with a;injection a with _ a;exact absurd a (by decide)
theorem bE (G B:Nat)(o:B≤G)(l:List Int)(K:l.length≤1000)(pg:Int)(C:ByteArray)(u:World)(h:bD G B l u):
 Cq 66 #[pg,C,.pointer (some ⟨G,0,none⟩)] u fun e u'=>e= .returned (.bool true)∧bD G B (l++[pg]) u'∧Cl B u u':=by
 obtain⟨v,n,p⟩:=h;obtain⟨A,q,rfl,-⟩:=Dt.form p;have D:=Hq n;have r:=Hq p;have E:=show u.cell? ⟨G,0,none⟩=some (.slice A l.length q)from by rw[Aa n];rfl
 have F:=Bt n;have s:B≤u.heap.size:=by omega
 clear n p;have x:=Hq (fun u' (H:bD G B (l++[pg]) u') (I:Cl B u u')=>show(fun(e:Ending) (u':World)=>e= .returned (.bool true)∧bD G B (l++[pg]) u'∧Cl B u u') (.returned (.bool true)) u' from⟨rfl,H,I⟩);generalize (fun(e:Ending) (u':World)=>e= .returned (.bool true)∧bD G B (l++[pg]) u'∧Cl B u u')=Q at x ⊢;go_enter Tryz.func66,Tryz.ntmps66
 go_upto_region 2 with(at_builtin;refine Hz Kr (.tmp 6) (.tmp 8) 80 3 vX aU rfl (by omega) (by omega) rfl B _ l.length (l.flatMap Jn) rfl (Bg r.out (Ac _ _)) u.heap.size (Jn pg) 3 rfl (heap_alloc_new u _) rfl (by simp[Jn,Value.oneCell']) (by omega) (Nat.le_trans s (Ac u _).size) ?_;intro L f b j k;obtain⟨g,i,rfl⟩:=E1 b;have c:=Af D.out (Ac u (.cells #[pg] 3));have d:=show(u.alloc (.cells #[pg] 3)).grownBy f (Value.slice A l.length q).ownBlock from j;have a:=Hq ((d.block G (Bt c) (fun J=>Gs (Bg r.out (Ac u (.cells #[pg] 3))) c (by decide) J.symm)).trans c);have t:=show f.cell? ⟨G,0,none⟩=some (.slice A l.length q)from(by rw[Aa a.out];rfl);have w:=Ap a.out 0)
 have m:f.setCell ⟨G,0,none⟩ (.slice g (l.length+1) i)=f.setRow G #[.slice g (l.length+1) i]:=setCell_eq_setRow _ G 0 _ _ _ _ a.out;rw[m];have y:=Hq (show bD G B (l++[pg]) (f.setRow G #[.slice g (l.length+1) i])from⟨.slice g (l.length+1) i,setRow_heap _ _ _ _ _ _ a.out,I0 (Dt.push (enc:=Jn) b) a.out (by decide)⟩);have z:=Hq (((Cl.of (B:=B) (Ac u (.cells #[pg] 3)) (by omega)).trans (Cl.grown (Bg r.out (Ac u (.cells #[pg] 3))) rfl (by decide) d k)).box o a.out rfl (by decide) #[.slice g (l.length+1) i]);generalize f.setRow G #[.slice g (l.length+1) i]=w8 at y z ⊢;clear m t w E b j d k
 try simp only[Act.put]
 go_wp2_with fail;exact x.out _ y.out z.out
structure Dp (w:World) (g:Nat) (s:Tx.St) (p:SP) (fs:List Fr) (v:Value) (l:List Int) (s':Tx.St) (q:SP) (u:World):Prop where
 b0:u.heap[w.heap.size]? =some (.cells (Ak s p) 36 (0,0))
 b1:u.heap[w.heap.size+1]? =some (.cells #[(),(),(),"s",(),false,(),(),(),(),"","s",(),"s",()] 36 (0,0))
 gg:u.heap[g]? =some (.cells (Ak s' q) 36 (0,0))
 ow:Dt Jn 1 3 w.heap.size u v l
 pr:Am u s p fs
 bl:Bw w u
theorem Dp.below {w:World}{g:Nat}{s:Tx.St}{p:SP}{fs:List Fr}{v:Value}{l:List Int}{s':Tx.St}{q:SP}{u x:World}(h:Dp w g s p fs v l s' q u)(a:Bw u x):Dp w g s p fs v l s' q x:=
 ⟨Af h.b0 a,Af h.b1 a,Af h.gg a,Bg h.ow a,h.pr.below a,Ag h.bl a⟩
theorem Dp.put {w:World}{g:Nat}{s:Tx.St}{p:SP}{fs:List Fr}{v:Value}{l:List Int}{s':Tx.St}{q:SP}{u:World}(h:Dp w g s p fs v l s' q u)(b:w.heap.size+1<g)(s2:Tx.St)(a:SP):Dp w g s p fs v l s2 a (u.setRow g (Ak s2 a)):=
 ⟨(Ae _ _ _ _ (by omega)).trans h.b0,(Ae _ _ _ _ (by omega)).trans h.b1,setRow_heap _ _ _ _ _ _ h.gg,I0 h.ow h.gg (by decide),h.pr.other (t:=36) h.gg (by decide) (by decide) (by decide) _,Gx (by omega) h.bl _⟩
theorem mK {N n k:Nat}{ids:List Int}{c:Int}{C:Nat→ByteArray}(s:Tx.St)(p:SP)(fs:List Fr)(hS:SS N n k ids c s fs C){b:ByteArray}{u:Nat→Nat}{V:Nat→Nat×List ByteArray}(hu:SI n C b u V)(l:List Nat)(hl:aZ n u V l)
 (t r:Int) (hr:r=((l[0]?).getD 0:Nat)) (R:Nat→Tx.St→List Fr→Prop) (h0:∀ s1 fs1,SS N n k ids c s1 fs1 C→R 0 s1 fs1)
 (a1:∀ (i:Nat) (hi:i<l.length) s1 q1 fs1,R i s1 fs1→∀ W,Am W s1 q1 fs1→Cq 67 #[Ah s1 q1,t,.int .i64 (l[i]:Int)] W (gU (fun s2 fs2 y=>y=0∧R (i+1) s2 fs2) W))
 (w:World) (h:Am w s p fs):Cq 25 #[Ah s p,t,r] w (gU (fun s2 fs2 y=>y=0∧R l.length s2 fs2) w):=by
 have L:=Hq a1;unfold gU at L;have a6:=Hq h0;have HZ:=Hq h;have hlen:l.length≤60:=by have:=hl.len;have:=hS.pi.n1;omega
 have a7:=Hq hS.whole;have f:=Hq (fun(G:Nat) (W:World) (hG:w.heap.size≤G) (hw:Bw w W) (hi:bD G w.heap.size [] W)=>Ua (N:=N) (n:=n) (k:=k) (ids:=ids) (c:=c) (C:=C) (B:=w.heap.size) (I:=fun j W=>bD G w.heap.size ((l.take j).map fun x:Nat=>(x:Int)) W)
  (fun _ _ _ M m=>bD.below M m) (fun _ _ _ _ _ M m=>bD.other M m _) s p fs hS hu l hl l.length 66 #[.pointer (some ⟨G,0,none⟩)] (enters_of Tryz.func66 Kr rfl)
  (fun j hj b6 W' ar _=>by
    refine(bE G w.heap.size hG _ (by rw[List.length_map,List.length_take];omega) (l[j]:Int) (C l[j]) W' ar).mono ?_;rintro e W2 ⟨rfl,M,m⟩;refine⟨by rw[decide_eq_true (show j≠l.length by omega)],?_,m⟩;rw[List.take_add_one,List.getElem?_eq_getElem hj,List.map_append];exact M)
  r hr W (h.below hw) (by simpa using hi) hw.size)
 unfold Vy at f;rw[show min (l.length+1) l.length=l.length from by omega]at f;simp only[List.take_length]at f;obtain⟨li,v⟩:∃ li:List Int,li=l.map fun x:Nat=>(x:Int):=⟨_,rfl⟩;rw[← v]at f;have b7:li.length=l.length:=by rw[v,List.length_map]
 have a8:=Hq (fun(i:Nat) (hi:i<li.length)=>show li[i]=(l[i]'(by omega):Int)from by subst v;simp);have HQ:=Hq (fun(g:Tx.St) (q:SP) (a:List Fr) w' (M:Am w' g q a) (m:R l.length g a) (h3:Bw w w')=>show gU (fun s2 fs2 y=>y=0∧R l.length s2 fs2) w (.returned (.tuple #[Ah g q,()])) w' from⟨g,q,a,0,rfl,M,⟨rfl,m⟩,h3⟩);generalize gU (fun s2 fs2 y=>y=0∧R l.length s2 fs2) w=Q at HQ ⊢;clear a1 h0 hr hS hu hl h v;go_enter Tryz.func25,Tryz.ntmps25;go_upto_region 1 with fail;have H0:=Lx w (Ak s p) 36 #[(),(),(),"s",(),false,(),(),(),(),"","s",(),"s",()] 36;obtain⟨W0,aa⟩:=E0 H0;rw[← aa]at H0 ⊢;clear aa;go_upto_region 2 with fail;have m:=heap_alloc_new W0 (.cells #["s"] 80);have hb:=Ac W0 (.cells #["s"] 80);have H1:=Hq (H0.out.step hb);have hG:w.heap.size+2≤W0.heap.size:=H0.out.lt (i:=1) (by simp);obtain⟨G,z⟩:=ex W0.heap.size;obtain⟨W1,D⟩:=ex (W0.alloc (.cells #["s"] 80));rw[← z,← D]at m;rw[← D]at H1;rw[← z]at hG;rw[← D,← z];have ad:=Hq (show bD G w.heap.size [] W1 from⟨_,m,N9 _ _ _ _⟩);clear m hb H0 z D
 try simp only[Act.put]
 go_upto_region 3 with(first
  |with_reducible refine lL H1.out.Ao Ar ?_
  |(go_at_call 51;refine(f.out G _ (by omega) H1.out.below ad.out).mono ?_;rintro e O ⟨s1,q1,fs1,rfl,ae,af,au,o⟩)
  |with_reducible refine sN (Ak s1 q1) ?_)
 have d:=Ac O (.cells (Ak s1 q1) 36);have ag:=o.keep _ _ _ _ H1.out.Ao (by decide) (by decide);have P:=o.keep _ _ _ _ H1.out.Aq (by decide) (by decide);have ah:=(HZ.out.below H1.out.below).cl a7.out o;obtain⟨v0,ai,S⟩:=au;obtain⟨A,ca,rfl,-⟩:=Dt.form S;have aj:w.heap.size+1<O.heap.size:=Bt P;have T:=Hq (show Dp w O.heap.size s p fs (.slice A li.length ca) li s1 q1 (O.alloc (.cells (Ak s1 q1) 36))from⟨Af ag d,Af P d,heap_alloc_new O (.cells (Ak s1 q1) 36),Bg S d,ah.below d,Ag (H1.out.below.trans o.bl) d⟩);have U:=Hq (ae.below d);have ak:=Hq (a6.out s1 fs1 af);have X:=Hq (Af ai d);obtain⟨g9,E⟩:=ex O.heap.size;obtain⟨w5,F⟩:=ex (O.alloc (.cells (Ak s1 q1) 36));rw[← E,← F]at T;rw[← F]at U X;rw[← E]at aj;rw[← F,← E];clear F E d ag P ah ai S H1 ad f HZ a7 ae af o a6
 try simp only[Act.put]
 have av:=show w5.cell? ⟨G,0,none⟩=some (.slice A li.length ca)from by rw[Aa X.out];rfl
 go_wp2_with fail;clear av X
 go_loopw [10,22] (fun y x wq=>∃ (i:Nat) (g:Tx.St) (q:SP) (a:List Fr),i≤l.length∧y= .int .i64 0∧x= .int .i64 (i:Int)∧Dp w g9 s p fs (.slice A li.length ca) li g q wq∧Am wq g q a∧R i g a) (fun _ x _=>l.length-(intOf x).toNat)
 case atStart=>exact⟨0,s1,q1,fs1,Nat.zero_le _,rfl,rfl,T.out,U.out,ak.out⟩
 case round=>
  clear T U ak;obtain⟨v6,rfl⟩:=ex wr;obtain⟨i,g,q,a,hi,rfl,rfl,hd,H,J⟩:=hrel
  by_cases aw:i<l.length
  ·have ax:(i:Int)<(li.length:Int):=by omega
   have b8:(0:Int)≤(i:Int):=(by omega);have b9:IntKind.i64.wrap ((i:Int)+1)=(i:Int)+1:=IntWalk.i64_in _ (by omega);obtain⟨b1,o1,rfl,ba,bb,al⟩:=Bz K6 (Cz hd.ow) (by omega:i<li.length);have ay:v6.cell? ⟨b1,o1+i,none⟩=some (.int .i64 (l[i]:Int)):=by
    have:=al 0 _ rfl;rw[← a8.out i (by omega)]
    simpa using this
   have Z:=Hq hd;have an:=Hq (L.out i aw g q a J v6 H);clear al hd H J;generalize (l[i]:Int)=pg at ay an
   go_wp2_with(first
    |with_reducible refine lL Z.out.gg Ar ?_
    |(go_at_call 67;(refine an.out.mono ?_);rintro e v7 ⟨s2,q2,fs2,y,rfl,az,⟨rfl,b2⟩,b3⟩;have Y:=Z.out.below b3)
    |with_reducible refine lS (Ak s2 q2) Y.gg ?_)
   go_roundw
   case rel=>exact⟨i+1,s2,q2,fs2,by omega,rfl,by go_num,Y.put aj s2 q2,az.other (t:=36) Y.gg (by decide) (by decide) (by decide) _,b2⟩
   case measure=>simp[intOf];omega
  ·obtain rfl:i=l.length:=by omega
   have ax:¬ (l.length:Int)<(li.length:Int):=(by omega);have Z:=Hq hd;have b4:=Hq H;have b5:=Hq J;have ao:=Hq (fun W=>Vx s p g q 0 (by decide) W);rw[if_pos rfl]at ao;clear hd L a8 H J
   go_wp2_with(first
    |with_reducible refine lL Z.out.b0 Ar ?_
    |with_reducible refine lL Z.out.gg Ar ?_
    |(go_at_call 57;refine(ao.out _).mono ?_;rintro e v8 ⟨rfl,aq⟩;have K:=Z.out.below aq)
    |with_reducible refine lS (Ak g q) K.b1 ?_)
   refine rT2 () K.b1 Ar ?_;exact HQ.out g q a _ ((b4.out.below aq).other (t:=36) K.b1 (by decide) (by decide) (by decide) _) b5.out (Gx (by omega) K.bl _)
theorem bF (s:Tx.St)(p:SP)(fs:List Fr)(t r:Int)(rec:ByteArray)(f:¬ (1≤rec.size∧rec.size≤400))(w:World)(h:Am w s p fs):
 Cq 19 #[Ah s p,t,r,rec] w fun e w'=>e= .returned (.tuple #[Ah s p,.agg #[(),()],.int .i64 1])∧Am w' s p fs∧Bw w w':=by
 have a:=Hq (fun W=>aX rec W);rw[decide_eq_false f]at a;have k:=Hq h;have j:=Hq (fun w' (l:Am w' s p fs) (m:Bw w w')=>show(fun(e:Ending) (w':World)=>e= .returned (.tuple #[Ah s p,.agg #[(),()],.int .i64 1])∧Am w' s p fs∧Bw w w') (.returned (.tuple #[Ah s p,.agg #[(),()],.int .i64 1])) w' from⟨rfl,l,m⟩);generalize (fun(e:Ending) (w':World)=>e= .returned (.tuple #[Ah s p,.agg #[(),()],.int .i64 1])∧Am w' s p fs∧Bw w w')=Q at j ⊢;clear h;go_enter Tryz.func19,Tryz.ntmps19;go_upto_region 1 with fail;have d:=xT w (Ak s p) 36 #[rec] 9 #[(),(),(),"s",(),false,(),(),(),(),"","s",(),"s",()] 36 #[(),()] 44;obtain⟨n,b⟩:=E0 d;rw[← b]at d ⊢;clear b;have o:=show n.cell? ⟨w.heap.size+1,0,none⟩=some (.string rec)from by rw[Aa d.out.Aq];rfl
 go_wp2_with(first
  |(go_at_call 50;refine(a.out _).mono ?_;rintro e q ⟨rfl,g⟩;have H1:=Hq (d.out.step g))
  |with_reducible refine lL H1.out.Ao Ar ?_
  |with_reducible refine lS (Ak s p) H1.out.Cd ?_
  |(with_reducible refine lS #[(),()] ((Ae _ _ _ _ (by omega)).trans H1.out.wN) ?_))
 have c:=(Ae q _ (Ak s p) _ (show w.heap.size+3≠w.heap.size+2 by omega)).trans H1.out.wN;have i:=setRow_heap _ _ _ (Ak s p) _ _ H1.out.Cd;refine bodyPost_ret (v:=.tuple #[.agg (Ak s p),.agg #[(),()],.int .i64 1]) (Ex rfl _ _ rfl rfl (Cf ((Ae _ _ _ _ (show w.heap.size+2≠w.heap.size+3 by omega)).trans i) Ar Kr Kr) (Cf (setRow_heap _ _ _ _ _ _ c) Y0 Kr Kr) rfl) rfl ?_;exact j.out _ (((k.out.below H1.out.below).other (t:=36) H1.out.Cd (by decide) (by decide) (by decide) _).other (t:=44) c (by decide) (by decide) (by decide) _) (Gx (by omega) (Gx (by omega) H1.out.below _) _)
end Go.Proofs.YtmfkhdhnbkambaaGreatDoor
