import Derived.Test.YtmldoihahndcgaaGreatDoorHs00
import Derived.Test.YtmldoihahndcgaaGreatDoorHs24
import Derived.Test.YtmldoihahndcgaaGreatDoorHs21
import Derived.Test.YtmldoihahndcgaaGreatDoorHs06
set_option maxRecDepth 100000
set_option maxHeartbeats 16000000
set_option linter.unusedSimpArgs false
namespace Go.Proofs.YtmldoihahndcgaaGreatDoor
open Go.RowKit Sc
theorem aC {N n k:Nat}{ids:List Int}{c:Int}(s:Tx.St)(p:SP)(fs:List Fr)(C:Nat→ByteArray)(M:SW N n k ids c s fs C)(hc:c+2524≤(N:Int)*128)(t:Int)(ht:t∈ids)(O:Rc.num t)(w:World)(h:Ao w s p fs):
 Cq 11 #[Ag s p,t] w (Lx N n k ids (c+2524) C 0 1 0 [Cy ((n+7)/8)] w):=by
 have hn:=M.ss.pi.n1;have HZ:=Hq M.ss.pi.zp;have P:1≤(n+7)/8:=by omega
 have ad:(n+7)/8≤8:=by omega
 have E:=Hq (fun W=>Tf s p n M.ss.pi.zp (by omega) W);have ae:=Nf P;have v:=Uz (r:=Cy ((n+7)/8)) (by omega) (by omega);have R:=Hq (fun W=>Nu 1 W);have z:=Hq (fun W=>show Cr 59 #[.string (E6 1),(),.string (Cy ((n+7)/8))] W (Mm (C8 ⟨0,1,0,[Cy ((n+7)/8)]⟩,0)) from by
  have T:=iO (E6 (1:Nat)) 0 (Cy ((n+7)/8)) (by rw[(Im 1 (by omega)).1.size];omega) W;rw[v.1]at T;exact T)
 have A:=Hq (fun W (hb:Bw w W)=>show Cq 62 #[Ag s p,t,(),.string (C8 ⟨0,1,0,[Cy ((n+7)/8)]⟩)] W (Lx N n k ids (c+2524) C 0 1 0 [Cy ((n+7)/8)] W)from by
  have T:=U6 s p fs C M hc t ht O 0 (by omega) (C8 ⟨0,1,0,[Cy ((n+7)/8)]⟩) v.2.1 (by rw[v.2.2]) W (h.below hb);rw[v.2.2]at T;exact T)
 have HQ:=Hq (fun(j:Tx.St) (q:SP) (o:List Fr) (J:Nat→ByteArray) w' h1 h2 h3 h4=>show Lx N n k ids (c+2524) C 0 1 0 [Cy ((n+7)/8)] w (.returned (.tuple #[Ag j q,()])) w' from⟨j,q,o,J,rfl,h1,h2,h3,h4⟩);have U:=Hq (fun W e w' (hh:Lx N n k ids (c+2524) C 0 1 0 [Cy ((n+7)/8)] W e w')=>show ∃ (j:Tx.St) (q:SP) (o:List Fr) (J:Nat→ByteArray),e= .returned (.tuple #[Ag j q,()])∧Ao w' j q o∧SW N n k ids (c+2524) j o J∧Pk C J 0 1 0 [Cy ((n+7)/8)]∧Bw W w' from hh);generalize af:Lx N n k ids (c+2524) C 0 1 0 [Cy ((n+7)/8)] w=Q at HQ ⊢;have ag:¬ (n:Int)<1:=by omega
 have ah:¬ (2000:Int)<(n:Int):=by omega
 have F:∀ W:World,(Instr.makeSlice 104 (.int .i64 (((n+7)/8-1:Nat):Int)) (.int .i64 (((n+7)/8-1:Nat):Int))).run Tryz.prog W= .ok (.slice (some ⟨W.heap.size,0,none⟩) ((n+7)/8-1) ((n+7)/8-1)) (W.alloc (.cells (madeCells #[Value.int .u8 0] ((n+7)/8-1)) 5)):=fun W=>Hr ((n+7)/8-1) (by omega) W;have B:=Hs ((n+7)/8-1);have i:∀ W:World,(Op.stringOp .add ⟨#[1]⟩ ⟨(List.replicate ((n+7)/8-1) 0).toArray⟩).run Tryz.prog W= .ok (.string (Cy ((n+7)/8))) W:=fun W=>by
  rw[← U3];exact run_string_add_sum W _ _ (by rw[Z5,Te];omega)
 have V:(((n+7)/8:Nat):Int)-1=(((n+7)/8-1:Nat):Int):=by omega
 have G:IntKind.i64.wrap ((((n+7)/8:Nat):Int)-1)=(((n+7)/8-1:Nat):Int):=by rw[V];exact IntWalk.i64_in _ (by omega)
 generalize Cy ((n+7)/8)=fb at z A HQ i U;generalize C8 ⟨0,1,0,[fb]⟩=pb at z A;generalize ai:(n+7)/8=m at F B i G E;generalize m-1=m1 at F B i G;generalize (⟨(List.replicate m1 0).toArray⟩:ByteArray)=zz at B i;clear h M hn hc ht O v ae P ad ai V af;go_enter Tryz.func11,Tryz.ntmps11;go_upto_region 1 with fail;have L:=Hp w (Aj s p) 36 #[(),(),(),'s',(),false,(),(),(),(),"",'s',(),'s',()] 36;obtain⟨H,X⟩:=Ee L;rw[← X]at L ⊢;clear X;have aj:=show H.cell? ⟨w.heap.size,1,none⟩=some (.int .i64 (n:Int))from by rw[Aa L.out.Ai,← HZ.out];rfl
 go_upto_region 3 with fail;clear aj ag ah
 go_cut [6] (fun x wc=>x= .string pb∧Bw H wc)
 case first=>
  have y:=Hq (fun(u:World) (hu:Bw H u)=>show u.heap[w.heap.size]? =some (.cells (Aj s p) 36 (0,0))from Ae L.out.Ai hu);have f:Bw H H.drew:=(Below.refl _ H).drew;have hSn:=y.out _ f;refine Gd (S:=(fun u=>u.heap[w.heap.size]? =some (.cells (Aj s p) 36 (0,0)))) (fun a=>?_);generalize H.drew=w8 at hSn f ⊢;refine Nk 1 Ar ?_;refine Ch 0 fun K l=>?_
  go_simp
  (refine(R.out _).mono ?_);rintro e w9 ⟨rfl,b⟩;have d:=Ad f b;clear f hSn b;have f:=d;clear d;have hSn:=y.out _ f
  refine Bq l (fun a=>?_);clear l K;refine Ch 2 fun K l=>?_
  go_simp
  (refine(E.out _).mono ?_);rintro e w9 ⟨rfl,b⟩;have d:=Ad f b;clear f hSn b;have f:=d;clear d;have hSn:=y.out _ f
  refine Bq l (fun a=>?_);clear l K;refine Au 3 ?_;refine Ch 4 fun K l=>?_
  go_simp
  have b:=Ab w9 (.cells (madeCells #[Value.int .u8 0] m1) 5);have d:=Ad f b;clear f hSn b;have f:=d;clear d;have hSn:=y.out _ f;refine Bq l (fun a=>?_);clear l K;refine Ch 5 fun K l=>?_
  go_simp
  refine Bq l (fun a=>?_);clear l K;refine Au 6 ?_;refine Ch 7 fun K l=>?_
  go_simp
  (refine(z.out _).mono ?_);rintro e w9 ⟨rfl,b⟩;have d:=Ad f b;clear f hSn b;have f:=d;clear d;have hSn:=y.out _ f
  refine Bq l (fun a=>?_);clear l K;refine Au 8 ?_;refine Au 9 ?_;refine Au 10 ?_;refine Au 11 ?_;refine Au 12 ?_;refine wpAnyH_done Kr ?_ _;clear a;go_wp2_with fail;go_meet
  case rel=>exact⟨rfl,f⟩
 case rest=>
  obtain⟨rfl,Y⟩:=hcut;obtain⟨w3,rfl⟩:=ex wc;have H3:=Hq (L.out.step Y);clear Y F B i G E R z L
  go_upto_region 5 with(first
   |with_reducible refine lL H3.out.Ai Ar ?_
   |(go_at_call 62;refine(A.out _ H3.out.below).mono ?_;intro e Z hh;obtain⟨j,q,o,J,rfl,a1,ak,an,I⟩:=U.out _ _ _ hh;clear hh)
   |with_reducible refine sN (Aj j q) ?_)
  have a6:=I.trans ((Ab Z (.cells (Aj j q) 36)).mono I.size);have H5:=Hq (H3.out.step a6);have a7:=Hq (heap_alloc_new Z (.cells (Aj j q) 36));have a8:=Hq (a1.below (Ab Z (.cells (Aj j q) 36)));obtain⟨g,hg⟩:=ex Z.heap.size;obtain⟨w5,D⟩:=ex (Z.alloc (.cells (Aj j q) 36));rw[← hg,← D]at a7;rw[← D]at H5 a8;rw[← D,← hg];clear D hg I a6 H3 A a1
  try simp only[Act.put]
  have ao:=Hq (fun W=>Tg s p j q 0 (by decide) W)
  go_wp2_with(first
   |with_reducible refine lL H5.out.Ai Ar ?_
   |with_reducible refine lL a7.out Ar ?_
   |(go_at_call 63;refine(ao.out _).mono ?_;rintro e w6 ⟨he,aa⟩;rw[if_pos rfl]at he;subst he;have H6:=Hq (H5.out.step aa))
   |with_reducible refine lS (Aj j q) H6.out.Am ?_)
  refine rT2 () H6.out.Am Ar ?_;exact HQ.out j q o J _ ((a8.out.below aa).other (t:=36) H6.out.Am (by decide) (by decide) (by decide) _) ak an (H6.out.row 1 (Aj j q) _ rfl).below
def On (N n k:Nat)(ids:List Int)(c:Int)(b:ByteArray)(u:Nat→Nat)(V:Nat→Nat×List ByteArray)(w:World)(e:Ending)(w':World):Prop:=
 ∃ (s':Tx.St) (q:SP) (fs':List Fr) (C':Nat→ByteArray),e= .returned (.tuple #[Ag s' q,()])∧Ao w' s' q fs'∧SW N n k ids c s' fs' C'∧SI n C' b u V∧Bw w w'
theorem U7 {N n k:Nat}{ids:List Int}{c:Int}(s:Tx.St)(p:SP)(fs:List Fr)(C:Nat→ByteArray)(hS:SW N n k ids c s fs C)(hc:c+5048≤(N:Int)*128)(t:Int)(ht:t∈ids)(a1:Rc.num t)(b:ByteArray)(u:Nat→Nat){V:Nat→Nat×List ByteArray}(hu:SI n C b u V)(pg:Nat)(a8:pg<n)(R:1≤pg)(I:Nat)(ak:I≤4)(aa:0<I↔¬ 0<u pg)(w:World)(h:Ao w s p fs):
 Cq 70 #[Ag s p,t,.int .i64 (pg:Int),b,.string (E6 (I:Int))] w (On N n k ids (c+5048) (Bx b pg) (fun q=>if q=pg then I else u q) (fun q=>if q=pg then(0,[])else V q) w):=by
 have hn:=hS.ss.pi.n1;have z:=hu.sz;have ad:pg/8<b.size:=by rw[z];omega
 have hd:=oC (hS.ss.pi.nm 0 (by omega)) hu.r0 (r:=Bx b pg) (by rw[z];omega) (by rw[E5,z];omega) (by rw[E5,z];omega);have T:=Hq (fun W=>aB b pg ad (by omega) (by rw[z];omega) W);have F:=Hq (fun W (hw:Bw w W)=>show Cq 140 #[Ag s p,t,(),.agg #[.int .i64 3,(),b,.string (Bx b pg)]] W _ from Qb s p fs C hS (by omega) t ht 0 (by omega) ⟨3,0,b,Bx b pg⟩ (.inl rfl) (by show(Bx b pg).size≤1000;rw[E5,z];omega) _ hd.1 (Qw (by rw[z];omega) (by rw[E5,z];omega) t a1 (pg:=0) (by omega) 3 ⟨by decide,by decide⟩) W (h.below hw));have U:=Hq (fun(l:Int) (hl:Rc.num l)=>show Pk C (fun x=>if x=0 then Bg (C8 {Af (C 0)with recs:=[Bx b pg]}) l else C x) 0 1 0 [Bx b pg]from by have h5:=Qv (C:=C) (pg:=0) hd.2.1 hl;rw[hd.2.2]at h5;exact⟨h5.k.trans hu.k0,h5.l.trans hu.l0,h5.r,h5.o⟩);generalize (C8 {Af (C 0)with recs:=[Bx b pg]})=pb at F U;have X:=Im I ak;have a6:=Hq (fun(s':Tx.St) (p':SP) (G:List Fr) (C':Nat→ByteArray) (an:SW N n k ids (c+2524) s' G C') W (hw:Ao W s' p' G)=>show Cq 62 #[Ag s' p',t,.int .i64 (pg:Int),.string (E6 (I:Int))] W (Lx N n k ids (c+5048) C' pg I 0 [] W)from by
  have h9:=U6 s' p' G C' an (by omega) t ht a1 pg a8 (E6 (I:Nat)) X.1 (by rw[X.2]) W hw;rw[X.2]at h9;simp only at h9;rw[show c+2524+2524=c+5048 from by omega]at h9;exact h9)
 have HQ:=Hq (fun(s':Tx.St) (q:SP) (G:List Fr) (C1 C':Nat→ByteArray) w' h1 (h2:SW N n k ids (c+5048) s' G C') (t1:Pk C C1 0 1 0 [Bx b pg]) (t2:Pk C1 C' pg I 0 []) h4=>show On N n k ids (c+5048) (Bx b pg) (fun q=>if q=pg then I else u q) (fun q=>if q=pg then(0,[])else V q) w (.returned (.tuple #[Ag s' q,()])) w' from⟨s',q,G,C',rfl,h1,h2,hu.flip a8 R aa ⟨by rw[t2.o 0 (by omega)];exact t1.k,by rw[t2.o 0 (by omega)];exact t1.r,by rw[t2.o 0 (by omega)];exact t1.l⟩ ⟨t2.k,t2.r,t2.l⟩ (fun x hx _ ao=>by rw[t2.o x ao,t1.o x (by omega)]),h4⟩);generalize aq:On N n k ids (c+5048) (Bx b pg) (fun q=>if q=pg then I else u q) (fun q=>if q=pg then(0,[])else V q) w=Q at HQ ⊢;generalize E6 (I:Int)=tb at a6 ⊢;generalize Bx b pg=fb at T F U HQ;clear h hS hu hc ht a1 aa hd z ad X aq;go_enter Tryz.func70,Tryz.ntmps70;go_upto_region 1 with fail;have H0:=Hp w (Aj s p) 36 #[(),(),(),'s',(),false,(),(),(),(),"",'s',(),'s',()] 36;obtain⟨Y,ae⟩:=Ee H0;rw[← ae]at H0 ⊢;clear ae
 go_cut [12,13] (fun x y wc=>∃ (g:Nat) (s1:Tx.St) (i:SP) (m:List Fr) (J:Int),x= .pointer (some ⟨g,0,none⟩)∧y= .int .i64 0∧wc.heap[g]? =some (.cells (Aj s1 i) 36 (0,0))∧Ao wc s1 i m∧SW N n k ids (c+2524) s1 m (fun x=>if x=0 then Bg pb J else C x)∧Rc.num J∧Y.heap.size≤g∧Bw Y wc)
 case first=>
  have Z0:Bw Y Y.drew:=(Below.refl _ Y).drew;refine Gd (S:=(fun u=>Bw Y u)) (fun a=>?_);refine fZ 0 (some 15) (v:=.agg (Aj s p)) rfl (yieldsIf_load_mid (by rfl) 36 (.tmp 5) rfl w.heap.size 0 (by rfl) (Aj s p).toList _ (fun u hu=>(by intro j v hj;rw[Nat.zero_add,Aa (Ae H0.out.Ai hu)];simpa using hj)) Ar Kr Kr) ?_
  try simp only[Act.put,pS]
  refine Au 1 ?_;refine Au 2 ?_;refine Au 3 ?_;refine Au 4 ?_;refine wpAnyH_ready (rs:=[5,11]) Kr (by simp) ?_;refine(AllReadyH.cons (o:={dst:=some 20,op:=_,type:=_,pos:=_,after:=_,guard:=_}) rfl (fun K f=>?_) (AllReadyH.cons (o:={dst:=some 12,op:=_,type:=_,pos:=_,after:=_,guard:=_}) rfl (fun K f=>?_) AllReadyH.nil))
  ·
   go_simp
   have hSn:=Z0;refine(T.out _).mono ?_;rintro e wA ⟨rfl,Z⟩;have d:=Ad hSn Z;clear hSn;have hSn:=d;clear d;refine Bq f (fun a=>?_);clear f K;refine Au 6 ?_;refine wpAnyH_ready (rs:=[7,11]) Kr (by simp) ?_;refine(AllReadyH.cons (o:={dst:=some 22,op:=_,type:=_,pos:=_,after:=_,guard:=_}) rfl (fun K f=>?_) (AllReadyH.cons (o:={dst:=some 12,op:=_,type:=_,pos:=_,after:=_,guard:=_}) rfl (fun K f=>?_) AllReadyH.nil))
   ·
    go_simp
    refine(F.out _ (H0.out.step hSn).below).mono ?_;rintro e wB ⟨s1,i,m,J,rfl,D,L,M,E⟩;have d:=Ad hSn E;clear hSn;have hSn:=d;clear d;refine Bq f (fun a=>?_);clear f K;refine Au 8 ?_;refine Au 9 ?_;refine Au 10 ?_;refine Ch 11 fun K f=>?_
    go_simp
    have A:=hSn.size;have B:=heap_alloc_new wB (.cells #[(),(),(),'s',(),false,(),(),(),(),"",'s',(),'s',()] 36);have H:=Ab wB (.cells #[(),(),(),'s',(),false,(),(),(),(),"",'s',(),'s',()] 36);have d:=Ad hSn H;clear hSn;have hSn:=d;clear d;have D:=D.below H;refine Bq f (fun a=>?_);clear f K;refine Ch 12 fun K f=>?_;refine Ay (by rfl) ?_;refine sW (Aj s1 i) B ?_;have Z4:=E7 (g:=wB.heap.size) A hSn (Aj s1 i);have O:=setRow_heap _ _ _ (Aj s1 i) _ _ B;have P:=D.other (t:=36) B (by decide) (by decide) (by decide) (Aj s1 i);clear hSn;have hSn:=Z4;refine Bq f (fun a=>?_);clear f K;refine Au 13 ?_;refine wpAnyH_done Kr ?_ _;clear a hSn;go_wp2_with fail;go_meet
    case rel=>exact⟨_,s1,i,m,J,rfl,rfl,O,P,L,M,A,Z4⟩
   ·
    go_simp
    have A:=hSn.size;have B:=heap_alloc_new wA (.cells #[(),(),(),'s',(),false,(),(),(),(),"",'s',(),'s',()] 36);have H:=Ab wA (.cells #[(),(),(),'s',(),false,(),(),(),(),"",'s',(),'s',()] 36);have d:=Ad hSn H;clear hSn;have hSn:=d;clear d;refine Bq f (fun a=>?_);clear f K;refine Ch 7 fun K f=>?_
    go_simp
    refine(F.out _ (H0.out.step hSn).below).mono ?_;rintro e wB ⟨s1,i,m,J,rfl,D,L,M,E⟩;have d:=Ad hSn E;clear hSn;have hSn:=d;clear d;have B:=Ae B E;refine Bq f (fun a=>?_);clear f K;refine Au 8 ?_;refine Au 9 ?_;refine Au 10 ?_;refine Ch 12 fun K f=>?_;refine Ay (by rfl) ?_;refine sW (Aj s1 i) B ?_;have Z4:=E7 (g:=wA.heap.size) A hSn (Aj s1 i);have O:=setRow_heap _ _ _ (Aj s1 i) _ _ B;have P:=D.other (t:=36) B (by decide) (by decide) (by decide) (Aj s1 i);clear hSn;have hSn:=Z4;refine Bq f (fun a=>?_);clear f K;refine Au 13 ?_;refine wpAnyH_done Kr ?_ _;clear a hSn;go_wp2_with fail;go_meet
    case rel=>exact⟨_,s1,i,m,J,rfl,rfl,O,P,L,M,A,Z4⟩
  ·
   go_simp
   have hSn:=Z0;have A:=hSn.size;have B:=heap_alloc_new Y.drew (.cells #[(),(),(),'s',(),false,(),(),(),(),"",'s',(),'s',()] 36);have H:=Ab Y.drew (.cells #[(),(),(),'s',(),false,(),(),(),(),"",'s',(),'s',()] 36);have d:=Ad hSn H;clear hSn;have hSn:=d;clear d;refine Bq f (fun a=>?_);clear f K;refine Ch 5 fun K f=>?_
   go_simp
   refine(T.out _).mono ?_;rintro e wA ⟨rfl,Z⟩;have d:=Ad hSn Z;clear hSn;have hSn:=d;clear d;have B:=Ae B Z;refine Bq f (fun a=>?_);clear f K;refine Au 6 ?_;refine Ch 7 fun K f=>?_
   go_simp
   refine(F.out _ (H0.out.step hSn).below).mono ?_;rintro e wB ⟨s1,i,m,J,rfl,D,L,M,E⟩;have d:=Ad hSn E;clear hSn;have hSn:=d;clear d;have B:=Ae B E;refine Bq f (fun a=>?_);clear f K;refine Au 8 ?_;refine Au 9 ?_;refine Au 10 ?_;refine Ch 12 fun K f=>?_;refine Ay (by rfl) ?_;refine sW (Aj s1 i) B ?_;have Z4:=E7 (g:=Y.drew.heap.size) A hSn (Aj s1 i);have O:=setRow_heap _ _ _ (Aj s1 i) _ _ B;have P:=D.other (t:=36) B (by decide) (by decide) (by decide) (Aj s1 i);clear hSn;have hSn:=Z4;refine Bq f (fun a=>?_);clear f K;refine Au 13 ?_;refine wpAnyH_done Kr ?_ _;clear a hSn;go_wp2_with fail;go_meet
   case rel=>exact⟨_,s1,i,m,J,rfl,rfl,O,P,L,M,A,Z4⟩
 case rest=>
  obtain⟨g,s1,i,m,J,rfl,rfl,af,R,ag,ah,ar,ai⟩:=hcut;obtain⟨w1,rfl⟩:=ex wc;have H1:=Hq (H0.out.step ai);have au:=Hq af;have aj:=Hq (U.out J ah);have a7:=Hq (a6.out s1 i m _ ag _ R);generalize (fun x=>if x=0 then Bg pb J else C x)=C1 at aj a7;unfold Lx at a7;clear af R ag ah ar ai H0 U a6 T F
  go_wp2_with(first
   |with_reducible refine lL au.out Ar ?_
   |(go_at_call 62;(refine a7.out.mono ?_);rintro e w2 ⟨s2,q2,av,C2,rfl,aw,ax,ay,az⟩;have H2:=Hq (H1.out.step az))
   |with_reducible refine lS (Aj s2 q2) H2.out.Am ?_)
  refine rT2 () H2.out.Am Ar ?_;exact HQ.out s2 q2 av C1 C2 _ (aw.other (t:=36) H2.out.Am (by decide) (by decide) (by decide) _) ax aj.out ay (H2.out.row 1 (Aj s2 q2) _ rfl).below
end Go.Proofs.YtmldoihahndcgaaGreatDoor
