import Derived.Test.YtmldoihahndcgaaGreatDoorHs00
import Derived.Test.YtmldoihahndcgaaGreatDoorHs22
import Derived.Test.YtmldoihahndcgaaGreatDoorHs27
import Derived.BigRegion
import Derived.BigQuiet
set_option maxRecDepth 100000
set_option maxHeartbeats 16000000
set_option linter.unusedSimpArgs false
namespace Go.Proofs.YtmldoihahndcgaaGreatDoor
open Go.RowKit Sc
theorem Wj (z:Array Value)(n i:Nat)(hi:i<n):(madeCells z n)[i]? =some (z[i%z.size]!):=by
 unfold madeCells;rw[Array.getElem?_map,Array.getElem?_range,if_pos hi];rfl
theorem Pf (k:Nat):madeCells (Value.agg #[(),"",(),false,()]).cells (k*5)=((D5 k).flatMap Ib).toArray:=by
 have hk:((D5 k).flatMap Ib).length=k*5:=by rw[Cc Dh,Ei]
 apply Array.ext_getElem?
 intro i;have c:((D5 k).flatMap Ib).toArray[i]? =((D5 k).flatMap Ib)[i]? :=by simp
 rw[c]
 by_cases d:i<k*5
 ·have e:i=i/5*5+i%5:=by omega
  have a:i/5<(D5 k).length:=by rw[Ei];omega
  have b:=Ih Dh (D5 k) (i/5) (i%5) a (by omega);rw[← e,Gv a]at b;rw[Wj _ _ _ d,b];have f:i%5=0∨i%5=1∨i%5=2∨i%5=3∨i%5=4:=by omega
  show some (#[Value.int .i64 0,"",(),false,()][i%5]!)=_
  rcases f with h|h|h|h|h<;>rw[h]<;>rfl
 ·rw[Array.getElem?_eq_none (by rw[size_madeCells];omega),List.getElem?_eq_none (by omega)]
theorem Ur (k:Nat)(hk:k≤64)(W:World):(Instr.makeSlice 31 (.int .i64 (k:Int)) (.int .i64 (k:Int))).run Tryz.prog W= .ok (.slice (some ⟨W.heap.size,0,none⟩) k k) (W.alloc (.cells ((D5 k).flatMap Ib).toArray 116)):=by
 obtain⟨i0,d,a,b,c⟩:=info_parts Qq;have h:=run_make (P:=Tryz.prog) W 31 116 i0 (.agg #[(),"",(),false,()]) nG d a .i64 .i64 (k:Int) (k:Int) (by omega) (by omega) (by rw[c];omega) (by omega);rw[b,Int.toNat_natCast,Pf]at h;exact h
def tQ (k:Nat)(w:World)(e:Ending)(w':World):Prop:=
 ∃ b,e= .returned (.tuple #[.agg #[.slice (some ⟨b,0,none⟩) k k,()],()])∧Reads w' (some ⟨b,0,none⟩) k k ((D5 k).flatMap Ib)∧Cp w.heap.size w' 116 (some ⟨b,0,none⟩)∧Bw w w'
theorem kN (k:Nat)(hk:1≤k∧k≤64)(w:World):
 Cq 43 #[.int .i64 (k:Int)] w (tQ k w):=by
 have f:=fun W=>Ur k hk.2 W;have j:¬ (k:Int)<1:=by omega
 have l:¬ (64:Int)<(k:Int):=by omega
 generalize b:((D5 k).flatMap Ib).toArray=fr at f;have g:=Hq b;clear b;go_enter Tryz.func43,Tryz.ntmps43;go_upto_region 1 with fail;have d:=aI w #['s',()] 33;obtain⟨a,c⟩:=Ee d;rw[← c]at d ⊢;clear c;go_upto_region 3 with fail;have H1:=Hq (d.out.step (Ab a (.cells fr 116)));have m:=Hq (heap_alloc_new a (.cells fr 116))
 go_wp2_with(with_reducible refine lS #[.slice (some ⟨a.heap.size,0,none⟩) k k,()] H1.out.Ai ?_)
 refine rT2 () H1.out.Ai uI ?_;have n:w.heap.size<a.heap.size:=by have:=d.out.lt (i:=0) (by simp);omega
 have h:=(Ah (a.alloc (.cells fr 116)) w.heap.size #[.slice (some ⟨a.heap.size,0,none⟩) k k,()] a.heap.size (by omega)).trans m.out;refine⟨a.heap.size,rfl,Gg (T:=116) (by rw[h,← g.out]) (Nat.le_refl _),fun o e=>?_,(H1.out.row 0 _ _ rfl).below⟩
 injection e with e
 subst e;exact⟨by show w.heap.size≤a.heap.size;omega,_,_,h⟩
theorem begun {N n k:Nat}(h:1≤n∧n≤60∧N≤3000)(m:10≤N)(hk:1≤k∧k≤64):∃ s:Tx.St,Tx.Js (Of N n k)=(s,1,0)∧SS N n k [1] 1262 s (D5 k) (fun _=>E6 (0:Nat))∧Tx.Y4 (Of N n k):=by
 have d:=rY h hk;have i:Rc.Bs {(Rc.bare 1 0 0 1)with lsn:=(Of N n k).log.end_+1}:=.small 1 1 0 1 (by decide) ⟨by decide,by decide⟩ ⟨by decide,by decide⟩ ⟨by decide,by decide⟩;obtain⟨g2,e,b,o,p⟩:=d.log (Rc.bare 1 0 0 1) i (by decide) (by show(0:Int)+1262≤_;omega);have f:=Tx.pN (s:=Of N n k) e;have g:=Tx.Va (s:=Of N n k) (by show(Tx.J4 (Of N n k) (Rc.bare 1 0 0 1)).2=0;rw[f]);have j:Tx.J4 (Of N n k) (Rc.bare 1 0 0 (Of N n k).next)=_:=f;rw[j]at g;refine⟨_,g,⟨⟨b.zl,b.zp,b.n1,b.pw,b.nf,b.hd,b.fr,b.nm,b.dk⟩,⟨rfl,fun a l=>?_,by decide⟩,Ei k,by show g2.end_≤1262;have q:(Of N n k).log.end_=0:=rfl;omega⟩,d.qH⟩;have c:a=⟨1,1,1,false⟩:=List.mem_singleton.1 l;rw[c];exact⟨⟨by decide,by decide⟩,⟨by decide,by decide⟩,⟨by decide,by decide⟩⟩
def oK (n k:Nat)(w:World)(e:Ending)(w':World):Prop:=
 ∃ (s:Tx.St) (p:SP),e= .returned (.tuple #[Ag s p,.int .i64 1,true])∧Ao w' s p (D5 k)∧SS 3000 n k [1] 1262 s (D5 k) (fun _=>E6 (0:Nat))∧Bw w w'
theorem Th (n k:Nat)(hn:1≤n∧n≤60)(hk:1≤k∧k≤64)(w:World):
 Cq 10 #[.int .i64 (n:Int),.int .i64 (k:Int)] w (oK n k w):=by
 obtain⟨s,ah,ai,aj⟩:=begun (N:=3000) (n:=n) (k:=k) ⟨hn.1,hn.2,by omega⟩ (by omega) hk;have hM:1+3000+4*n≤4000:=by omega
 have O:=Hq (fun W=>show Cq 56 #[.int .i64 ((1+3000+4*n:Nat):Int)] W (Qx (Lg.K6 (1+3000+4*n)) W)from oJ (1+3000+4*n) (by omega) hM W);have X:=Hq (fun W=>mP 1 3000 W);have ak:=Hq (fun W=>kN k hk W);have b0:(Of 3000 n k).As=Lg.K6 (1+3000+4*n):=rfl;have D:=Hq (fun(m:Option Addr) (c1 q:Nat) W (hd:Ca W (Lg.K6 (1+3000+4*n)) m c1) (ht:Cp 0 W 9 m)=>show Cq 57 #[Ag (Of 3000 n k) (⟨m,c1,some ⟨q,0,none⟩,k,k,none,0⟩:SP)] W (Pm (s,1,0) (⟨m,c1,some ⟨q,0,none⟩,k,k,none,0⟩:SP) W)from by
  have h9:=dS (Of 3000 n k) (⟨m,c1,some ⟨q,0,none⟩,k,k,none,0⟩:SP) aj (by show(0:Nat)≤800000;omega) (by show(0:Int)≤1;decide) (by show(1:Int)≤1000000000;decide) W ⟨hd,ht,Reads.none_ _ _ _ _,Cp.none_ _ _ _⟩;rw[ah]at h9;exact h9)
 have HQ:=Hq (fun(p:SP) w' h1 h2=>show oK n k w (.returned (.tuple #[Ag s p,.int .i64 1,true])) w' from⟨s,p,rfl,h1,ai,h2⟩);generalize oK n k w=Q at HQ ⊢;have b1:IntKind.i64.wrap (4*(n:Int))=4*(n:Int):=IntWalk.i64_in _ (by omega);have an:IntKind.i64.wrap (3001+4*(n:Int))=((1+3000+4*n:Nat):Int):=by rw[IntWalk.i64_in _ (by omega)];omega
 clear ah ai aj hM b0;dsimp only[Ag,Of,List.length_nil]at D;generalize ((1+3000+4*n:Nat):Int)=m0 at an O;generalize Lg.K6 (1+3000+4*n)=d0 at O D;go_enter Tryz.func10,Tryz.ntmps10;go_upto_region 1 with fail;have H0:=aI w #[(),(),(),'s',(),false,(),(),(),(),"",'s',(),'s',()] 36;obtain⟨W0,ao⟩:=Ee H0;rw[← ao]at H0 ⊢;clear ao
 go_upto_region 2 with(with_reducible refine sN #[.int .i64 3000,.int .i64 (n:Int),.int .i64 (k:Int)] ?_)
 have H1:=Hq (H0.out.step (Ab W0 (.cells #[.int .i64 3000,.int .i64 (n:Int),.int .i64 (k:Int)] 25)));have P:=Hq (heap_alloc_new W0 (.cells #[.int .i64 3000,.int .i64 (n:Int),.int .i64 (k:Int)] 25));obtain⟨gz,Y⟩:=ex W0.heap.size;obtain⟨w1,R⟩:=ex (W0.alloc (.cells #[.int .i64 3000,.int .i64 (n:Int),.int .i64 (k:Int)] 25));rw[← Y,← R]at P;rw[← R]at H1;rw[← R,← Y];clear R Y H0
 try simp only[Act.put]
 have b2:=show w1.cell? ⟨gz,0,none⟩=some (.int .i64 3000)from by rw[Aa P.out];rfl
 go_upto_region 3 with(first
  |(go_at_call 56;refine(O.out _).mono ?_;rintro e w2 ⟨m,c1,rfl,aq,ar,au⟩;dsimp only[Cv])
  |with_reducible refine sN #[.slice m d0.sectors.length c1,d0.left,d0.down] ?_)
 have Z:=Ad au (Ab w2 (.cells #[.slice m d0.sectors.length c1,d0.left,d0.down] 28));have H3:=Hq (H1.out.step Z);have a1:=Hq (Ae P.out Z);have a6:=Hq (heap_alloc_new w2 (.cells #[.slice m d0.sectors.length c1,d0.left,d0.down] 28));have a7:=Hq (aq.below (Ab w2 (.cells #[.slice m d0.sectors.length c1,d0.left,d0.down] 28)));have a8:=Hq ((ar.mono (Nat.zero_le _)).below (Ab w2 (.cells #[.slice m d0.sectors.length c1,d0.left,d0.down] 28)));obtain⟨gd,aa⟩:=ex w2.heap.size;obtain⟨w3,T⟩:=ex (w2.alloc (.cells #[.slice m d0.sectors.length c1,d0.left,d0.down] 28));rw[← aa,← T]at a6;rw[← T]at H3 a1 a7 a8;rw[← T,← aa];clear T aa au Z aq ar H1 P b2 O b1 an
 try simp only[Act.put]
 go_upto_region 4 with(first
  |(go_at_call 43;refine(ak.out _).mono ?_;rintro e w4 ⟨q,rfl,av,aw,ax⟩)
  |with_reducible refine sN #[.slice (some ⟨q,0,none⟩) k k,()] ?_)
 have E:=Ad ax (Ab w4 (.cells #[.slice (some ⟨q,0,none⟩) k k,()] 33));have H5:=Hq (H3.out.step E);have ad:=Hq (Ae a1.out E);have ae:=Hq (Ae a6.out E);have F:=Hq (a7.out.below E);have G:=Hq (a8.out.below E);have af:=Hq (heap_alloc_new w4 (.cells #[.slice (some ⟨q,0,none⟩) k k,()] 33));have H:=Hq (av.below (Ab w4 (.cells #[.slice (some ⟨q,0,none⟩) k k,()] 33)));have I:=Hq ((aw.mono (Nat.zero_le _)).below (Ab w4 (.cells #[.slice (some ⟨q,0,none⟩) k k,()] 33)));obtain⟨gp,ag⟩:=ex w4.heap.size;obtain⟨J,U⟩:=ex (w4.alloc (.cells #[.slice (some ⟨q,0,none⟩) k k,()] 33));rw[← ag,← U]at af;rw[← U]at H5 ad ae F G H I;rw[← U,← ag];clear U ag ax E av aw H3 a1 a6 a7 a8 ak
 try simp only[Act.put]
 go_upto_region 6 with fail
 go_cut [12,13,14] (fun x y z wc=>∃ (g:Nat) (p:SP),x= .pointer (some ⟨g,0,none⟩)∧y= .int .i64 1∧z= .int .i64 0∧wc.heap[g]? =some (.cells (Aj s p) 36 (0,0))∧Ao wc s p (D5 k)∧Bw J wc)
 case first=>
  have l:=Hq (fun(u:World) (hu:Bw J u)=>show u.heap[gz]? =some (.cells #[.int .i64 3000,.int .i64 (n:Int),.int .i64 (k:Int)] 25 (0,0))∧u.heap[gd]? =some (.cells #[.slice m d0.sectors.length c1,d0.left,d0.down] 28 (0,0))∧u.heap[gp]? =some (.cells #[.slice (some ⟨q,0,none⟩) k k,()] 33 (0,0))from⟨Ae ad.out hu,Ae ae.out hu,Ae af.out hu⟩);have b:Bw J J.drew:=(Below.refl _ J).drew;have hSn:=l.out _ b;have Hy:=Hq (fun(u:World) (b3:u.heap[gz]? =some (.cells #[.int .i64 3000,.int .i64 (n:Int),.int .i64 (k:Int)] 25 (0,0))∧u.heap[gd]? =some (.cells #[.slice m d0.sectors.length c1,d0.left,d0.down] 28 (0,0))∧u.heap[gp]? =some (.cells #[.slice (some ⟨q,0,none⟩) k k,()] 33 (0,0)))=>(show u.cell? ⟨gz,0,none⟩=some (.int .i64 3000)from(by rw[Aa b3.1];rfl)));refine Gd (S:=(fun u=>u.heap[gz]? =some (.cells #[.int .i64 3000,.int .i64 (n:Int),.int .i64 (k:Int)] 25 (0,0))∧u.heap[gd]? =some (.cells #[.slice m d0.sectors.length c1,d0.left,d0.down] 28 (0,0))∧u.heap[gp]? =some (.cells #[.slice (some ⟨q,0,none⟩) k k,()] 33 (0,0)))) (fun d=>?_);refine Nk 0 vE ?_;refine fZ 1 (some 42) (v:=.agg #[.slice m d0.sectors.length c1,d0.left,d0.down]) rfl (yieldsIf_load_mid (by rfl) 28 (.tmp 8) rfl gd 0 (by rfl) #[.slice m d0.sectors.length c1,.int .i64 d0.left,.bool d0.down].toList _ (fun u hu=>(by intro j v hj;rw[Nat.zero_add,Aa hu.2.1];simpa using hj)) Cu Kr Kr) ?_
  try simp only[Act.put,pS]
  refine Au 2 ?_;refine Au 3 ?_;refine fZ 5 (some 46) (v:=.agg #[.slice (some ⟨q,0,none⟩) k k,()]) rfl (yieldsIf_load_mid (by rfl) 33 (.tmp 10) rfl gp 0 (by rfl) #[.slice (some ⟨q,0,none⟩) k k,.int .i64 0].toList _ (fun u hu=>(by intro j v hj;rw[Nat.zero_add,Aa hu.2.2];simpa using hj)) uI Kr Kr) ?_
  try simp only[Act.put,pS]
  refine wpAnyH_ready (rs:=[4,12]) Kr (by simp) ?_;refine(AllReadyH.cons (o:={dst:=some 45,op:=_,type:=_,pos:=_,after:=_,guard:=_}) rfl (fun K h=>?_) (AllReadyH.cons (o:={dst:=some 12,op:=_,type:=_,pos:=_,after:=_,guard:=_}) rfl (fun K h=>?_) AllReadyH.nil))
  ·
   go_simp
   (refine(X.out _).mono ?_);rintro e wl ⟨rfl,c⟩;(try dsimp only[Kv]);have a:=Ad b c;clear b hSn;have b:=a;clear a;have hSn:=l.out _ b;clear c
   refine Bq h (fun d=>?_);clear h K;refine Au 6 ?_;refine wpAnyH_ready (rs:=[7,12]) Kr (by simp) ?_;refine(AllReadyH.cons (o:={dst:=some 48,op:=_,type:=_,pos:=_,after:=_,guard:=_}) rfl (fun K h=>?_) (AllReadyH.cons (o:={dst:=some 12,op:=_,type:=_,pos:=_,after:=_,guard:=_}) rfl (fun K h=>?_) AllReadyH.nil))
   ·
    go_simp
    (refine(D.out m c1 q _ (F.out.below b) (G.out.below b)).mono ?_);rintro e V ⟨p,rfl,L,i,c⟩;have a:=Ad b c;clear b hSn;have b:=a;clear a;have hSn:=l.out _ b;have r:=show Ao V s p (D5 k)from⟨L,by rw[i.2.1,Ei],by rw[i.1,i.2.2,Ei];exact H.out.below b,by rw[i.1];exact I.out.below b⟩;clear c
    refine Bq h (fun d=>?_);clear h K;refine Au 8 ?_;refine Au 9 ?_;refine Au 10 ?_;refine Au 11 ?_;refine Ch 12 fun K h=>?_
    go_simp
    have M:J.heap.size≤V.heap.size:=b.size;have f:=heap_alloc_new V (.cells #[(),(),(),'s',(),false,(),(),(),(),"",'s',(),'s',()] 36);have c:=Ab V (.cells #[(),(),(),'s',(),false,(),(),(),(),"",'s',(),'s',()] 36);have ay:=r.below c;clear r;have r:=ay;clear ay;have a:=Ad b c;clear b hSn;have b:=a;clear a;have hSn:=l.out _ b;clear c;refine Bq h (fun d=>?_);clear h K;refine Ch 13 fun K h=>?_;refine Ay (by rfl) ?_;refine sW (Aj s p) f ?_;have A:=setRow_heap _ _ _ (Aj s p) _ _ f;have B:=r.other (t:=36) f (by decide) (by decide) (by decide) (Aj s p);have a:=E7 M b (Aj s p);clear b hSn;have b:=a;clear a;have hSn:=l.out _ b;refine Bq h (fun d=>?_);clear h K;refine Au 14 ?_;refine Au 15 ?_;refine wpAnyH_done Kr ?_ _;go_wp2_with fail;go_meet
    case rel=>exact⟨_,p,rfl,rfl,rfl,A,B,b⟩
   ·
    go_simp
    have M:J.heap.size≤wl.heap.size:=b.size;have f:=heap_alloc_new wl (.cells #[(),(),(),'s',(),false,(),(),(),(),"",'s',(),'s',()] 36);have c:=Ab wl (.cells #[(),(),(),'s',(),false,(),(),(),(),"",'s',(),'s',()] 36);have a:=Ad b c;clear b hSn;have b:=a;clear a;have hSn:=l.out _ b;clear c;refine Bq h (fun d=>?_);clear h K;refine Ch 7 fun K h=>?_
    go_simp
    (refine(D.out m c1 q _ (F.out.below b) (G.out.below b)).mono ?_);rintro e V ⟨p,rfl,L,i,c⟩;have a:=Ad b c;clear b hSn;have b:=a;clear a;have hSn:=l.out _ b;have C:=Ae f c;clear f;have f:=C;clear C;have r:=show Ao V s p (D5 k)from⟨L,by rw[i.2.1,Ei],by rw[i.1,i.2.2,Ei];exact H.out.below b,by rw[i.1];exact I.out.below b⟩;clear c
    refine Bq h (fun d=>?_);clear h K;refine Au 8 ?_;refine Au 9 ?_;refine Au 10 ?_;refine Au 11 ?_;refine Ch 13 fun K h=>?_;refine Ay (by rfl) ?_;refine sW (Aj s p) f ?_;have A:=setRow_heap _ _ _ (Aj s p) _ _ f;have B:=r.other (t:=36) f (by decide) (by decide) (by decide) (Aj s p);have a:=E7 M b (Aj s p);clear b hSn;have b:=a;clear a;have hSn:=l.out _ b;refine Bq h (fun d=>?_);clear h K;refine Au 14 ?_;refine Au 15 ?_;refine wpAnyH_done Kr ?_ _;go_wp2_with fail;go_meet
    case rel=>exact⟨_,p,rfl,rfl,rfl,A,B,b⟩
  ·
   go_simp
   have M:J.heap.size≤J.drew.heap.size:=b.size;have f:=heap_alloc_new J.drew (.cells #[(),(),(),'s',(),false,(),(),(),(),"",'s',(),'s',()] 36);have c:=Ab J.drew (.cells #[(),(),(),'s',(),false,(),(),(),(),"",'s',(),'s',()] 36);have a:=Ad b c;clear b hSn;have b:=a;clear a;have hSn:=l.out _ b;clear c;refine Bq h (fun d=>?_);clear h K;refine Ch 4 fun K h=>?_
   go_simp
   (refine(X.out _).mono ?_);rintro e wl ⟨rfl,c⟩;(try dsimp only[Kv]);have a:=Ad b c;clear b hSn;have b:=a;clear a;have hSn:=l.out _ b;have C:=Ae f c;clear f;have f:=C;clear C;clear c
   refine Bq h (fun d=>?_);clear h K;refine Au 6 ?_;refine Ch 7 fun K h=>?_
   go_simp
   (refine(D.out m c1 q _ (F.out.below b) (G.out.below b)).mono ?_);rintro e V ⟨p,rfl,L,i,c⟩;have a:=Ad b c;clear b hSn;have b:=a;clear a;have hSn:=l.out _ b;have C:=Ae f c;clear f;have f:=C;clear C;have r:=show Ao V s p (D5 k)from⟨L,by rw[i.2.1,Ei],by rw[i.1,i.2.2,Ei];exact H.out.below b,by rw[i.1];exact I.out.below b⟩;clear c
   refine Bq h (fun d=>?_);clear h K;refine Au 8 ?_;refine Au 9 ?_;refine Au 10 ?_;refine Au 11 ?_;refine Ch 13 fun K h=>?_;refine Ay (by rfl) ?_;refine sW (Aj s p) f ?_;have A:=setRow_heap _ _ _ (Aj s p) _ _ f;have B:=r.other (t:=36) f (by decide) (by decide) (by decide) (Aj s p);have a:=E7 M b (Aj s p);clear b hSn;have b:=a;clear a;have hSn:=l.out _ b;refine Bq h (fun d=>?_);clear h K;refine Au 14 ?_;refine Au 15 ?_;refine wpAnyH_done Kr ?_ _;go_wp2_with fail;go_meet
   case rel=>exact⟨_,p,rfl,rfl,rfl,A,B,b⟩
 case rest=>
  obtain⟨g,p,rfl,rfl,rfl,A,B,az⟩:=hcut;obtain⟨w6,rfl⟩:=ex wc;have H6:=Hq (H5.out.step az);have b4:=Hq A;have b5:=Hq B;clear A B az H5 ad ae F G af H I D X
  go_wp2_with(first|with_reducible refine lL b4.out Ar ?_|with_reducible refine lS (Aj s p) H6.out.Ai ?_)
  refine rT3 (.int .i64 1) true H6.out.Ai Ar ?_;exact HQ.out p _ (b5.out.other (t:=36) H6.out.Ai (by decide) (by decide) (by decide) _) (H6.out.row 0 (Aj s p) _ rfl).below
def Wt (q:Nat):Nat:=if q=0 then 1 else 0
theorem oL {n:Nat}(c:1≤n){C:Nat→ByteArray}(h:Pk (fun _=>E6 (0:Nat)) C 0 1 0 [Cy ((n+7)/8)]):SI n C (Cy ((n+7)/8)) Wt:=by
 have a:=Im 0 (by omega);refine⟨h.k,h.r,h.l,Nf (by omega),fun p _=>?_,fun p b _=>?_,fun p b _=>?_,fun p b _=>?_,rfl⟩
 ·rw[jK]
  unfold Wt
  by_cases e:p=0
  ·rw[if_pos e,decide_eq_true e];rfl
  ·rw[if_neg e,decide_eq_false e];rfl
 ·rw[h.o p (by omega),a.2]
  unfold Wt;rw[if_neg (by omega)]
 ·rw[h.o p (by omega),a.2]
 ·rw[h.o p (by omega),a.2]
def fQ (n k:Nat)(w:World)(e:Ending)(w':World):Prop:=
 ∃ (s:Tx.St) (p:SP) (fs:List Fr) (C:Nat→ByteArray),e= .returned (.tuple #[Ag s p,.int .i64 1,true])∧Ao w' s p fs∧SS 3000 n k [1] 3786 s fs C∧SI n C (Cy ((n+7)/8)) Wt∧Bw w w'
theorem Qd (n k:Nat)(O:1≤n∧n≤60)(hk:1≤k∧k≤64)(w:World):
 Cq 9 #[.int .i64 (n:Int),.int .i64 (k:Int)] w (fQ n k w):=by
 have q:=Hq (fun W=>Th n k O hk W);have r:=Hq (fun(s:Tx.St) (p:SP) (S:SS 3000 n k [1] 1262 s (D5 k) (fun _=>E6 (0:Nat))) W (h:Ao W s p (D5 k))=>Z6 s p (D5 k) _ S (by decide) 1 (by simp) ⟨by decide,by decide⟩ W h);have P:=Hq (fun(s:Tx.St) (p:SP) (T:List Fr) (C:Nat→ByteArray) w' U V X Y=>show fQ n k w (.returned (.tuple #[Ag s p,.int .i64 1,true])) w' from⟨s,p,T,C,rfl,U,V,oL O.1 X,Y⟩);generalize fQ n k w=Q at P ⊢;go_enter Tryz.func9,Tryz.ntmps9;go_upto_region 1 with fail;have u:=aI w #[(),(),(),'s',(),false,(),(),(),(),"",'s',(),'s',()] 36;obtain⟨W0,v⟩:=Ee u;rw[← v]at u ⊢;clear v
 go_upto_region 4 with(first
  |(go_at_call 10;refine(q.out _).mono ?_;rintro e o ⟨s,p,rfl,x,y,j⟩)
  |with_reducible refine sN (Aj s p) ?_)
 have z:=Ad j (Ab o (.cells (Aj s p) 36));have G:=Hq (u.out.step z);have a:=Hq (heap_alloc_new o (.cells (Aj s p) 36));have l:=Hq (x.below (Ab o (.cells (Aj s p) 36)));have H:=Hq y;have I:w.heap.size+1≤o.heap.size:=by have:=u.out.lt (i:=0) (by simp);have:=j.size;omega
 obtain⟨g,F⟩:=ex o.heap.size;obtain⟨w2,b⟩:=ex (o.alloc (.cells (Aj s p) 36));rw[← F,← b]at a;rw[← b]at G l;rw[← b,← F];rw[← F]at I;clear b F j z u x y q
 try simp only[Act.put]
 go_upto_region 5 with(first
  |with_reducible refine lL a.out Ar ?_
  |(go_at_call 55;refine(r.out s p H.out _ l.out).mono ?_;rintro e J ⟨d,f,K,Z,rfl,A,L,N,m⟩;have R:=Hq (G.out.step m);have c:=Hq (Ae a.out m))
  |with_reducible refine lS (Aj d f) c.out ?_)
 have B:=Hq (R.out.under (M:=g) (by simp;omega) (E7 (g:=g) (Nat.le_refl g) (show Below g J J from⟨rfl,rfl,rfl,Nat.le_refl _,fun _ _=>rfl⟩) (Aj d f)));have D:=Hq (setRow_heap _ _ _ (Aj d f) _ _ c.out);have E:=Hq (A.other (t:=36) c.out (by decide) (by decide) (by decide) (Aj d f));generalize J.setRow g (Aj d f)=w4 at B D E ⊢;clear m A G a R c l r
 try simp only[Act.put]
 go_wp2_with(first
  |with_reducible refine lL D.out Ar ?_
  |with_reducible refine lS (Aj d f) B.out.Ai ?_)
 refine rT3 (.int .i64 1) true B.out.Ai Ar ?_;exact P.out d f K Z _ (E.out.other (t:=36) B.out.Ai (by decide) (by decide) (by decide) _) L N (B.out.row 0 (Aj d f) _ rfl).below
theorem oM {l m:List Int}(a:l.length=m.length)(h:∀ j (h1:j<l.length) (h2:j<m.length),l[j]=m[j]):l=m:=List.ext_getElem a fun j h1 h2=>h j h1 h2
theorem Vb (l m:List Int)(hl:l.length≤1000000)(hm:m.length≤1000000)(A D:Option Addr)(c d:Nat)(w:World)(p:Reads w A c l.length (l.flatMap Kg))(q:Reads w D d m.length (m.flatMap Kg)):
 Cr 18 #[.slice A l.length c,.slice D m.length d] w (.bool (decide (l=m))):=by
 have HR:=Hq p;have HD:=Hq q;clear p q
 by_cases g:l.length=m.length
 ·have Y:=Hq g
  have L:((l.length:Int) != (m.length:Int))=false:=by rw[g];exact bne_self_eq_false _
  clear g;have Z:=Hq (fun(h:∀ j (p:j<l.length) (q:j<m.length),l[j]=m[j])=>show decide (l=m)=true from decide_eq_true (oM Y.out h));have HF:=Hq (fun j (p:j<l.length) (q:j<m.length) (M:l[j]≠m[j])=>show decide (l=m)=false from decide_eq_false (fun e=>M (by subst e;rfl)));generalize decide (l=m)=z at Z HF ⊢;go_enter Tryz.func18,Tryz.ntmps18;go_wp2_with fail
  go_loopw [5] (fun x wr=>∃ j:Nat,j≤l.length∧x= .int .i64 (j:Int)∧(∀ i,i<j→∀ (p:i<l.length) (q:i<m.length),l[i]=m[i])∧Bw w wr) (fun x _=>l.length-(intOf x).toNat)
  case atStart=>exact⟨0,Nat.zero_le _,rfl,fun i N=>absurd N (by omega),Below.refl _ _⟩
  case round=>
   obtain⟨j,hj,rfl,k,n⟩:=hrel;have O:=Hq k;have B:=Hq n;have a6:(0:Int)≤(j:Int):=by omega
   by_cases r:j<l.length
   ·have o:j<m.length:=by rw[← Y.out];exact r
    have a7:(j:Int)<(l.length:Int):=(by omega);have a1:(j:Int)<(m.length:Int):=(by omega);have a8:IntKind.i64.wrap ((j:Int)+1)=(j:Int)+1:=IntWalk.i64_in _ (by omega);obtain⟨P,o1,rfl,b,Q,C⟩:=Bu Z7 (HR.out.below n) r;obtain⟨R,T,rfl,f,U,E⟩:=Bu Z7 (HD.out.below n) o;have F:wr.cell? ⟨P,o1+j,none⟩=some (.int .i64 l[j]):=(by have:=C 0 _ rfl;simpa using this);have G:wr.cell? ⟨R,T+j,none⟩=some (.int .i64 m[j]):=(by have:=E 0 _ rfl;simpa using this);have J:=Hq (fun M=>HF.out j r o M);have K:=Hq (fun(e:l[j]=m[j]) i (N:i<j+1) (p:i<l.length) (q:i<m.length)=>show l[i]=m[i]from by
     rcases Nat.lt_or_eq_of_le (Nat.le_of_lt_succ N)with h3|h3
     ·exact O.out i h3 p q
     ·subst h3;exact e)
    generalize l[j]=t at F J K;generalize m[j]=v at G J K;clear C E b f Q U k n O r o;go_upto_region 6 with fail
    go_cut [25] (fun x wc=>x= .bool (t != v)∧Bw wr wc)
    case first=>
     have hSn:Bw wr wr.drew∧wr.drew.cell? ⟨P,o1+j,none⟩=some (.int .i64 t)∧wr.drew.cell? ⟨R,T+j,none⟩=some (.int .i64 v):=⟨(Below.refl _ wr).drew,F,G⟩;refine Gd (S:=(fun u=>Bw wr u∧u.cell? ⟨P,o1+j,none⟩=some (.int .i64 t)∧u.cell? ⟨R,T+j,none⟩=some (.int .i64 v))) (fun s=>?_);generalize wr.drew=w8 at hSn ⊢;refine Au 0 ?_ (hy:=by intro u a;have b:=a.2.1;have f:=a.2.2;clear a;go_simp;(try with_reducible rfl));refine Au 1 ?_ (hy:=by intro u a;have b:=a.2.1;have f:=a.2.2;clear a;go_simp;(try with_reducible rfl));refine Au 2 ?_ (hy:=by intro u a;have b:=a.2.1;have f:=a.2.2;clear a;go_simp;(try with_reducible rfl));refine Au 3 ?_ (hy:=by intro u a;have b:=a.2.1;have f:=a.2.2;clear a;go_simp;(try with_reducible rfl));refine Au 4 ?_ (hy:=by intro u a;have b:=a.2.1;have f:=a.2.2;clear a;go_simp;(try with_reducible rfl));refine Au 5 ?_ (hy:=by intro u a;have b:=a.2.1;have f:=a.2.2;clear a;go_simp;(try with_reducible rfl));refine Au 6 ?_ (hy:=by intro u a;have b:=a.2.1;have f:=a.2.2;clear a;go_simp;(try with_reducible rfl));refine Au 7 ?_ (hy:=by intro u a;have b:=a.2.1;have f:=a.2.2;clear a;go_simp;(try with_reducible rfl));refine Au 8 ?_ (hy:=by intro u a;have b:=a.2.1;have f:=a.2.2;clear a;go_simp;(try with_reducible rfl));refine wpAnyH_done Kr ?_ _;clear s;go_wp2_with fail;go_meet
     case rel=>exact⟨rfl,hSn.1⟩
    case rest=>
     obtain⟨rfl,H⟩:=hcut;have I:=Hq (Ad B.out H);clear H
     by_cases y:t=v
     ·have V:(t != v)=false:=by rw[y];exact bne_self_eq_false _
      have W:=Hq (K.out y);clear y K J;go_wp2_with fail;go_roundw
      case rel=>exact⟨j+1,by omega,by go_num,W.out,I.out⟩
      case measure=>simp[intOf];omega
     ·have V:(t != v)=true:=bne_iff_ne.2 y
      have X:=J.out y;subst X;clear y;go_wp2_with fail;go_ret;exact⟨rfl,I.out⟩
   ·obtain rfl:j=l.length:=by omega
    have X:=Z.out (fun i p q=>O.out i p p q);subst X;clear k n;go_wp2_with fail;go_ret;exact⟨rfl,B.out⟩
 ·have L:((l.length:Int) != (m.length:Int))=true:=bne_iff_ne.2 (by omega)
  rw[decide_eq_false (fun e=>g (by rw[e]))];clear g;go_enter Tryz.func18,Tryz.ntmps18;go_wp2_with fail;go_ret;exact⟨rfl,Below.refl _ _⟩
end Go.Proofs.YtmldoihahndcgaaGreatDoor
