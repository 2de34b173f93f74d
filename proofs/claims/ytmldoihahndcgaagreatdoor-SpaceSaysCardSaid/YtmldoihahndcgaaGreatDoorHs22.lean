import Derived.Test.YtmldoihahndcgaaGreatDoorHs00
import Derived.Test.YtmldoihahndcgaaGreatDoorHs21
set_option maxRecDepth 100000
set_option maxHeartbeats 16000000
set_option linter.unusedSimpArgs false
namespace Go.Proofs.YtmldoihahndcgaaGreatDoor
open Go.RowKit Sc
def Kg (n:Int):List Value:=[.int .i64 n]
theorem Z7 (n:Int):(Kg n).length=1:=rfl
theorem Z8:(Tryz.prog.info? 3).map (fun i=>(i.zero,i.size,i.bytes))=some (some (.int .i64 0),1,8):=by kernel_rfl
def fJ (N n k:Nat)(ids:List Int)(c:Int)(b:ByteArray)(u:Nat→Nat)(V:Nat→Nat×List ByteArray)(pg:Nat)(w:World)(e:Ending)(w':World):Prop:=
 ∃ (s':Tx.St) (q:SP) (fs':List Fr) (C':Nat→ByteArray),e= .returned (.tuple #[Ag s' q,.int .i64 (pg:Int),()])∧Ao w' s' q fs'∧SS N n k ids c s' fs' C'∧SI n C' b u V∧Bw w w'
def fK (N n k:Nat)(ids:List Int)(c:Int)(b:ByteArray)(u:Nat→Nat)(V:Nat→Nat×List ByteArray)(w:World)(e:Ending)(w':World):Prop:=
 ∃ (s':Tx.St) (q:SP) (fs':List Fr) (C':Nat→ByteArray),e= .returned (.tuple #[Ag s' q,()])∧Ao w' s' q fs'∧SS N n k ids c s' fs' C'∧SI n C' b u V∧Bw w w'
def Z9 (N n k:Nat)(ids:List Int)(c:Int)(C:Nat→ByteArray)(l:List Int)(w:World)(e:Ending)(w':World):Prop:=
 ∃ (s':Tx.St) (q:SP) (fs':List Fr) (v:Value),e= .returned (.tuple #[Ag s' q,v,()])∧Ao w' s' q fs'∧SS N n k ids c s' fs' C∧En Kg 1 3 w.heap.size w' v l∧Bw w w'
theorem dJ {N n k:Nat}{ids:List Int}{c:Int}(s:Tx.St)(p:SP)(fs:List Fr)(C:Nat→ByteArray)(hS:SS N n k ids c s fs C)(hc:c+5048≤(N:Int)*128)(t:Int)(ht:t∈ids)(X:Rc.num t)(b:ByteArray)(u:Nat→Nat){V:Nat→Nat×List ByteArray}(U:SI n C b u V)(z:Nat)(b4:2≤z∧z≤4)(pg:Nat)(Y:pg<n)(Z:Oe u pg)(l:¬ 0<u pg)(w:World)(h:Ao w s p fs):
 Cq 14 #[Ag s p,t,.int .i64 (z:Int)] w (fJ N n k ids (c+5048) (Bx b pg) (fun q=>if q=pg then z else u q) (fun q=>if q=pg then(0,[])else V q) pg w):=by
 have hn:=hS.pi.n1;have HZ:=Hq hS.pi.zp;have a1:=Hq (fun W (hb:Bw w W)=>Iv s p fs C hS b u U W (h.below hb));have I:=Hq (fun(v:Value) (B:Nat) (j:Nat) (hj:j<n) W (hv:Kd B W v b.data.toList)=>Iu v b B j (by rw[U.sz];omega) (by omega) W hv);have a6:=Hq U.bt;have ai:1≤pg:=by
  rcases Nat.eq_zero_or_pos pg with e|e
  ·subst e;rw[U.u0]at l;exact absurd (by decide) l
  ·exact e
 have a7:=Hq (fun(s1:Tx.St) (y:SP) (m:List Fr) (aj:SS N n k ids c s1 m C) (v:Value) (B g:Nat) W (hv:I9 B g W v b.data.toList) (hw:Ao W s1 y m)=>U2 s1 y m C aj hc t ht X b u U pg Y ai z (by omega) ⟨fun _=>l,fun _=>by omega⟩ v B g W hv hw);have ak:=Hq Z;have an:=Hq l;have HQ:=Hq (fun(s':Tx.St) (q:SP) (ao:List Fr) (C':Nat→ByteArray) w' h1 h2 h3 h4=>show fJ N n k ids (c+5048) (Bx b pg) (fun q=>if q=pg then z else u q) (fun q=>if q=pg then(0,[])else V q) pg w (.returned (.tuple #[Ag s' q,.int .i64 (pg:Int),()])) w' from⟨s',q,ao,C',rfl,h1,h2,h3,h4⟩);generalize aq:fJ N n k ids (c+5048) (Bx b pg) (fun q=>if q=pg then z else u q) (fun q=>if q=pg then(0,[])else V q) pg w=Q at HQ ⊢;clear h hS U Z l hc ht X aq;have b5:¬ (z:Int)<2:=by omega
 have b6:¬ (4:Int)<(z:Int):=by omega
 go_enter Tryz.func14,Tryz.ntmps14;go_upto_region 1 with fail;have J:=Hp w (Aj s p) 36 #[(),(),(),'s',(),false,(),(),(),(),"",'s',(),'s',()] 36;obtain⟨W0,a8⟩:=Ee J;rw[← a8]at J ⊢;clear a8
 go_upto_region 6 with(first
  |with_reducible refine lL J.out.Ai Ar ?_
  |(go_at_call 64;refine(a1.out _ J.out.below).mono ?_;rintro e K ⟨s1,y,m,v,g,rfl,aa,ad,L,ar,O⟩)
  |with_reducible refine sN (Aj s1 y) ?_)
 have ae:=O.trans ((Ab K (.cells (Aj s1 y) 36)).mono O.size);have H5:=Hq (J.out.step ae);have A:=Hq (heap_alloc_new K (.cells (Aj s1 y) 36));have P:=Hq (aa.below (Ab K (.cells (Aj s1 y) 36)));have o:=Hq (L.below (Ab K (.cells (Aj s1 y) 36)));have au:=Hq ad;have av:g<K.heap.size:=by obtain⟨cur,fr,h1⟩:=L.ty;exact By h1
 have hM:w.heap.size+2≤W0.heap.size:=J.out.lt (i:=1) (by simp);obtain⟨g9,D⟩:=ex K.heap.size;obtain⟨w5,E⟩:=ex (K.alloc (.cells (Aj s1 y) 36));rw[← D,← E]at A;rw[← E]at H5 P o;rw[← E,← D];rw[← D]at av;have aw:w.heap.size+2≤g:=by omega
 clear E D O ae J a1 aa ad L ar hM
 try simp only[Act.put]
 have ax:=show w5.cell? ⟨w.heap.size,1,none⟩=some (.int .i64 (n:Int))from by rw[Aa H5.out.Ai,← HZ.out];rfl
 go_wp2_with fail
 go_loopw [12] (fun x wr=>∃ j:Nat,j≤pg∧x= .int .i64 (j:Int)∧Bw w5 wr) (fun x _=>pg-(intOf x).toNat)
 case atStart=>exact⟨0,Nat.zero_le _,rfl,Below.refl _ _⟩
 case round=>
  obtain⟨j,hj,rfl,d⟩:=hrel;have ax:=show wr.cell? ⟨w.heap.size,1,none⟩=some (.int .i64 (n:Int))from by rw[Aa (H5.out.step d).Ai,← HZ.out];rfl
  by_cases ay:j<pg
  ·have r:j<n:=by omega
   have az:(j:Int)<(n:Int):=(by omega);have f:=Hq (fun W (hb:Bw wr W)=>I.out v _ j r W ((o.out.below d).own.below hb));rw[a6.out j r,decide_eq_true (ak.out j ay)]at f;have b7:IntKind.i64.wrap ((j:Int)+1)=(j:Int)+1:=IntWalk.i64_in _ (by omega);have R:=Hq d;clear d
   go_wp2_with(go_at_call 66;refine(f.out _ (Below.refl _ _)).mono ?_;rintro e w6 ⟨rfl,F⟩)
   go_roundw
   case rel=>exact⟨j+1,by omega,by go_num,Ad R.out F⟩
   case measure=>simp[intOf];omega
  ·obtain rfl:j=pg:=by omega
   have r:j<n:=Y;have az:(j:Int)<(n:Int):=(by omega);have f:=Hq (fun W (hb:Bw wr W)=>I.out v _ j r W ((o.out.below d).own.below hb));rw[a6.out j r,decide_eq_false an.out]at f;have b8:((j:Int)==(n:Int))=false:=beq_eq_false_iff_ne.2 (by omega);have R:=Hq d;clear d;have b3:g9<w5.heap.size:=By A.out
   go_upto_region 12 with(first
    |(go_at_call 66;refine(f.out _ (Below.refl _ _)).mono ?_;rintro e w6 ⟨rfl,F⟩;have a:=Ad R.out F;have H6:=Hq (H5.out.step a);have S:=Hq (Ae A.out a);have b9:=show w6.cell? ⟨w.heap.size,1,none⟩=some (.int .i64 (n:Int))from(by rw[Aa H6.out.Ai,← HZ.out];rfl))
    |with_reducible refine lL S.out Ar ?_
    |(go_at_call 67;refine(a7.out s1 y m au.out v _ g _ (o.out.below a) (P.out.below a)).mono ?_;rintro e w7 ⟨s2,H,b0,C2,rfl,af,b1,b2,T⟩;have H7:=Hq (H6.out.under (M:=w.heap.size+2) (by simp) (T.below (by have:=a.size;omega) aw));have G:=Hq ((T.block g9 (by have:=a.size;omega) (by omega)).trans S.out))
    |with_reducible refine lS (Aj s2 H) G.out ?_)
   have H8:=Hq (H7.out.under (M:=w.heap.size+2) (by simp) (E7 (g:=g9) (by omega) (show Below (w.heap.size+2) w7 w7 from⟨rfl,rfl,rfl,Nat.le_refl _,fun _ _=>rfl⟩) (Aj s2 H)));have ag:=Hq (setRow_heap _ _ _ (Aj s2 H) _ _ G.out);have ah:=Hq (af.other (t:=36) G.out (by decide) (by decide) (by decide) (Aj s2 H));generalize w7.setRow g9 (Aj s2 H)=w8 at H8 ag ah ⊢;clear H6 S H7 G af T F a a7 I f H5 A P o
   try simp only[Act.put]
   go_wp2_with(first
    |with_reducible refine lL ag.out Ar ?_
    |with_reducible refine lS (Aj s2 H) H8.out.Am ?_)
   refine rT3 (.int .i64 (j:Int)) () H8.out.Am Ar ?_;exact HQ.out s2 H b0 C2 _ (ah.out.other (t:=36) H8.out.Am (by decide) (by decide) (by decide) _) b1 b2 (H8.out.row 1 (Aj s2 H) _ rfl).below
theorem aA {N n k:Nat}{ids:List Int}{c:Int}(s:Tx.St)(p:SP)(fs:List Fr)(C:Nat→ByteArray)(O:SS N n k ids c s fs C)(b:ByteArray)(u:Nat→Nat){V:Nat→Nat×List ByteArray}(P:SI n C b u V)(t:Int)(z:Nat)(ae:2≤z∧z≤4)(A:Oe u n)(w:World)(h:Ao w s p fs):
 Cr 14 #[Ag s p,t,.int .i64 (z:Int)] w (.tuple #[Ag s p,(),.int .i64 18]):=by
 have hn:=O.pi.n1;have HZ:=Hq O.pi.zp;have D:=Hq (fun W (S:Bw w W)=>Iv s p fs C O b u P W (h.below S));have T:=Hq (fun(v:Value) (B:Nat) (j:Nat) (hj:j<n) W (hv:Kd B W v b.data.toList)=>Iu v b B j (by rw[P.sz];omega) (by omega) W hv);have U:=Hq P.bt;obtain⟨pg,E⟩:=ex n;have af:pg≤n:=by omega
 have l:Oe u pg:=by rw[E];exact A
 have X:=Hq l;clear h O P A l;have ag:¬ (z:Int)<2:=by omega
 have ah:¬ (4:Int)<(z:Int):=by omega
 go_enter Tryz.func14,Tryz.ntmps14;go_upto_region 1 with fail;have m:=Hp w (Aj s p) 36 #[(),(),(),'s',(),false,(),(),(),(),"",'s',(),'s',()] 36;obtain⟨W0,F⟩:=Ee m;rw[← F]at m ⊢;clear F
 go_upto_region 6 with(first
  |with_reducible refine lL m.out.Ai Ar ?_
  |(go_at_call 64;refine(D.out _ m.out.below).mono ?_;rintro e o ⟨s1,y,ai,v,g,rfl,G,H,q,Y,r⟩)
  |with_reducible refine sN (Aj s1 y) ?_)
 have I:=r.trans ((Ab o (.cells (Aj s1 y) 36)).mono r.size);have Q:=Hq (m.out.step I);have Z:=Hq (heap_alloc_new o (.cells (Aj s1 y) 36));have a1:=Hq (G.below (Ab o (.cells (Aj s1 y) 36)));have J:=Hq (q.below (Ab o (.cells (Aj s1 y) 36)));have aj:=Hq H;have a6:g<o.heap.size:=by obtain⟨cur,fr,h1⟩:=q.ty;exact By h1
 have hM:w.heap.size+2≤W0.heap.size:=m.out.lt (i:=1) (by simp);obtain⟨g9,d⟩:=ex o.heap.size;obtain⟨w5,f⟩:=ex (o.alloc (.cells (Aj s1 y) 36));rw[← d,← f]at Z;rw[← f]at Q a1 J;rw[← f,← d];rw[← d]at a6;have ak:w.heap.size+2≤g:=by omega
 clear f d r I m D G H q Y hM
 try simp only[Act.put]
 have a7:=show w5.cell? ⟨w.heap.size,1,none⟩=some (.int .i64 (n:Int))from by rw[Aa Q.out.Ai,← HZ.out];rfl
 go_wp2_with fail
 go_loopw [12] (fun x wr=>∃ j:Nat,j≤pg∧x= .int .i64 (j:Int)∧Bw w5 wr) (fun x _=>pg-(intOf x).toNat)
 case atStart=>exact⟨0,Nat.zero_le _,rfl,Below.refl _ _⟩
 case round=>
  obtain⟨j,hj,rfl,a⟩:=hrel;have a7:=show wr.cell? ⟨w.heap.size,1,none⟩=some (.int .i64 (n:Int))from by rw[Aa (Q.out.step a).Ai,← HZ.out];rfl
  by_cases a8:j<pg
  ·have K:j<n:=by omega
   have aa:(j:Int)<(n:Int):=(by omega);have L:=Hq (fun W (S:Bw wr W)=>T.out v _ j K W ((J.out.below a).own.below S));rw[U.out j K,decide_eq_true (X.out j a8)]at L;have an:IntKind.i64.wrap ((j:Int)+1)=(j:Int)+1:=IntWalk.i64_in _ (by omega);have M:=Hq a;clear a
   go_wp2_with(go_at_call 66;refine(L.out _ (Below.refl _ _)).mono ?_;rintro e w6 ⟨rfl,ad⟩)
   go_roundw
   case rel=>exact⟨j+1,by omega,by go_num,Ad M.out ad⟩
   case measure=>simp[intOf];omega
  ·obtain rfl:j=pg:=by omega
   have aa:¬ (j:Int)<(n:Int):=(by omega);have ao:((j:Int)==(n:Int))=true:=beq_iff_eq.2 (by omega);have M:=Hq a;have R:=Hq (Q.out.step a);clear a E
   go_wp2_with(first
    |with_reducible refine lL R.out.Ai Ar ?_
    |with_reducible refine lS (Aj s p) R.out.Am ?_)
   refine rT3 () (.int .i64 18) R.out.Am Ar ?_;exact⟨rfl,(R.out.row 1 (Aj s p) _ rfl).below⟩
theorem dK (s:Tx.St)(p:SP)(t kd:Int)(c:kd<2∨4<kd)(w:World):
 Cr 14 #[Ag s p,t,kd] w (.tuple #[Ag s p,(),.int .i64 1]):=by
 by_cases d:kd<2
 ·clear c
  go_enter Tryz.func14,Tryz.ntmps14;go_upto_region 1 with fail;have a:=Hp w (Aj s p) 36 #[(),(),(),'s',(),false,(),(),(),(),"",'s',(),'s',()] 36;obtain⟨e,b⟩:=Ee a;rw[← b]at a ⊢;clear b
  go_wp2_with(first|with_reducible refine lL a.out.Ai Ar ?_|with_reducible refine lS (Aj s p) a.out.Am ?_)
  refine rT3 () (.int .i64 1) a.out.Am Ar ?_;exact⟨rfl,(a.out.row 1 (Aj s p) _ rfl).below⟩
 ·have f:4<kd:=by omega
  clear c;go_enter Tryz.func14,Tryz.ntmps14;go_upto_region 1 with fail;have a:=Hp w (Aj s p) 36 #[(),(),(),'s',(),false,(),(),(),(),"",'s',(),'s',()] 36;obtain⟨e,b⟩:=Ee a;rw[← b]at a ⊢;clear b
  go_wp2_with(first|with_reducible refine lL a.out.Ai Ar ?_|with_reducible refine lS (Aj s p) a.out.Am ?_)
  refine rT3 () (.int .i64 1) a.out.Am Ar ?_;exact⟨rfl,(a.out.row 1 (Aj s p) _ rfl).below⟩
theorem kE {N n k:Nat}{ids:List Int}{c:Int}(s:Tx.St)(p:SP)(fs:List Fr)(C:Nat→ByteArray)(hS:SS N n k ids c s fs C)(hc:c+5048≤(N:Int)*128)(t:Int)(ht:t∈ids)(L:Rc.num t)(b:ByteArray)(u:Nat→Nat){V:Nat→Nat×List ByteArray}(O:SI n C b u V)(pg:Nat)(A:pg<n)(a8:1≤pg)(d:0<u pg)(w:World)(h:Ao w s p fs):
 Cq 12 #[Ag s p,t,.int .i64 (pg:Int)] w (fK N n k ids (c+5048) (Bx b pg) (fun q=>if q=pg then 0 else u q) (fun q=>if q=pg then(0,[])else V q) w):=by
 have hn:=hS.pi.n1;have HZ:=Hq hS.pi.zp;have P:=Hq (fun W (hb:Bw w W)=>Iv s p fs C hS b u O W (h.below hb));have R:=Hq (fun(v:Value) (B:Nat) (j:Nat) (hj:j<n) W (hv:Kd B W v b.data.toList)=>Iu v b B j (by rw[O.sz];omega) (by omega) W hv);have aa:=Hq O.bt;have S:=Hq (fun(s1:Tx.St) (l:SP) (f:List Fr) (ad:SS N n k ids c s1 f C) (v:Value) (B g:Nat) W (hv:I9 B g W v b.data.toList) (hw:Ao W s1 l f)=>U2 s1 l f C ad hc t ht L b u O pg A a8 0 (by omega) ⟨fun h0=>absurd h0 (by omega),fun h0=>absurd d h0⟩ v B g W hv hw);have ae:=Hq d;have HQ:=Hq (fun(s':Tx.St) (q:SP) (af:List Fr) (C':Nat→ByteArray) w' h1 h2 h3 h4=>show fK N n k ids (c+5048) (Bx b pg) (fun q=>if q=pg then 0 else u q) (fun q=>if q=pg then(0,[])else V q) w (.returned (.tuple #[Ag s' q,()])) w' from⟨s',q,af,C',rfl,h1,h2,h3,h4⟩);generalize ag:fK N n k ids (c+5048) (Bx b pg) (fun q=>if q=pg then 0 else u q) (fun q=>if q=pg then(0,[])else V q) w=Q at HQ ⊢;clear h hS O d hc ht L ag;go_enter Tryz.func12,Tryz.ntmps12;go_upto_region 1 with fail;have D:=Hp w (Aj s p) 36 #[(),(),(),'s',(),false,(),(),(),(),"",'s',(),'s',()] 36;obtain⟨W0,T⟩:=Ee D;rw[← T]at D ⊢;clear T
 go_upto_region 2 with(first
  |with_reducible refine lL D.out.Ai Ar ?_
  |(go_at_call 64;refine(P.out _ D.out.below).mono ?_;rintro e E ⟨s1,l,f,v,g,rfl,U,X,F,ah,G⟩)
  |with_reducible refine sN (Aj s1 l) ?_)
 have Y:=G.trans ((Ab E (.cells (Aj s1 l) 36)).mono G.size);have H5:=Hq (D.out.step Y);have m:=Hq (heap_alloc_new E (.cells (Aj s1 l) 36));have H:=Hq (U.below (Ab E (.cells (Aj s1 l) 36)));have o:=Hq (F.below (Ab E (.cells (Aj s1 l) 36)));have ai:=Hq X;have aj:g<E.heap.size:=by obtain⟨cur,fr,h1⟩:=F.ty;exact By h1
 have hM:w.heap.size+2≤W0.heap.size:=D.out.lt (i:=1) (by simp);obtain⟨g9,r⟩:=ex E.heap.size;obtain⟨w5,x⟩:=ex (E.alloc (.cells (Aj s1 l) 36));rw[← r,← x]at m;rw[← x]at H5 H o;rw[← x,← r];rw[← r]at aj;have ak:w.heap.size+2≤g:=by omega
 clear x r G Y D P U X F ah hM
 try simp only[Act.put]
 have I:=Hq (fun W (hb:Bw w5 W)=>R.out v _ pg A W (o.out.own.below hb));rw[aa.out pg A,decide_eq_true ae.out]at I;have an:=show w5.cell? ⟨w.heap.size,1,none⟩=some (.int .i64 (n:Int))from by rw[Aa H5.out.Ai,← HZ.out];rfl
 have av:¬ (pg:Int)<1:=by omega
 have aw:¬ (n:Int)≤(pg:Int):=by omega
 have ax:(pg:Int)<(n:Int):=by omega
 have ay:g9<w5.heap.size:=By m.out
 go_upto_region 9 with(first
  |(go_at_call 66;refine(I.out _ (Below.refl _ _)).mono ?_;rintro e w6 ⟨rfl,a⟩;have H6:=Hq (H5.out.step a);have J:=Hq (Ae m.out a))
  |with_reducible refine lL J.out Ar ?_
  |(go_at_call 67;refine(S.out s1 l f ai.out v _ g _ (o.out.below a) (H.out.below a)).mono ?_;rintro e w7 ⟨s2,y,ao,C2,rfl,Z,aq,ar,K⟩;have H7:=Hq (H6.out.under (M:=w.heap.size+2) (by simp) (K.below (by have:=a.size;omega) ak));have z:=Hq ((K.block g9 (by have:=a.size;omega) (by omega)).trans J.out))
  |with_reducible refine lS (Aj s2 y) z.out ?_)
 have H8:=Hq (H7.out.under (M:=w.heap.size+2) (by simp) (E7 (g:=g9) (by omega) (show Below (w.heap.size+2) w7 w7 from⟨rfl,rfl,rfl,Nat.le_refl _,fun _ _=>rfl⟩) (Aj s2 y)));have a1:=Hq (setRow_heap _ _ _ (Aj s2 y) _ _ z.out);have a6:=Hq (Z.other (t:=36) z.out (by decide) (by decide) (by decide) (Aj s2 y));generalize w7.setRow g9 (Aj s2 y)=w8 at H8 a1 a6 ⊢;clear H6 J H7 z Z K a S R I H5 m H o an
 try simp only[Act.put]
 have au:=Hq (fun W=>U0 s p s2 y 0 (by decide) W)
 go_wp2_with(first
  |with_reducible refine lL H8.out.Ai Ar ?_
  |with_reducible refine lL a1.out Ar ?_
  |(go_at_call 65;refine(au.out _).mono ?_;rintro e w9 ⟨he,a7⟩;rw[if_pos rfl]at he;subst he;have H9:=Hq (H8.out.step a7))
  |with_reducible refine lS (Aj s2 y) H9.out.Am ?_)
 refine rT2 () H9.out.Am Ar ?_;exact HQ.out s2 y ao C2 _ ((a6.out.below a7).other (t:=36) H9.out.Am (by decide) (by decide) (by decide) _) aq ar (H9.out.row 1 (Aj s2 y) _ rfl).below
theorem dL {N n k:Nat}{ids:List Int}{c:Int}(s:Tx.St)(p:SP)(fs:List Fr)(C:Nat→ByteArray)(I:SS N n k ids c s fs C)(t:Int)(b:ByteArray)(u:Nat→Nat){V:Nat→Nat×List ByteArray}(J:SI n C b u V)(pg:Nat)(r:pg<n)(a6:1≤pg)(x:¬ 0<u pg)(w:World)(h:Ao w s p fs):
 Cr 12 #[Ag s p,t,.int .i64 (pg:Int)] w (.tuple #[Ag s p,.int .i64 21]):=by
 have hn:=I.pi.n1;have HZ:=Hq I.pi.zp;have y:=Hq (fun W (L:Bw w W)=>Iv s p fs C I b u J W (h.below L));have M:=Hq (fun(v:Value) (B:Nat) (j:Nat) (hj:j<n) W (hv:Kd B W v b.data.toList)=>Iu v b B j (by rw[J.sz];omega) (by omega) W hv);have O:=Hq J.bt;have P:=Hq x;clear h I J x;go_enter Tryz.func12,Tryz.ntmps12;go_upto_region 1 with fail;have f:=Hp w (Aj s p) 36 #[(),(),(),'s',(),false,(),(),(),(),"",'s',(),'s',()] 36;obtain⟨W0,z⟩:=Ee f;rw[← z]at f ⊢;clear z
 go_upto_region 2 with(first
  |with_reducible refine lL f.out.Ai Ar ?_
  |(go_at_call 64;refine(y.out _ f.out.below).mono ?_;rintro e l ⟨s1,q,a7,v,g,rfl,A,D,m,Q,o⟩)
  |with_reducible refine sN (Aj s1 q) ?_)
 have E:=o.trans ((Ab l (.cells (Aj s1 q) 36)).mono o.size);have R:=Hq (f.out.step E);have S:=Hq (heap_alloc_new l (.cells (Aj s1 q) 36));have T:=Hq (A.below (Ab l (.cells (Aj s1 q) 36)));have F:=Hq (m.below (Ab l (.cells (Aj s1 q) 36)));have a8:=Hq D;have U:g<l.heap.size:=by obtain⟨cur,fr,h1⟩:=m.ty;exact By h1
 have hM:w.heap.size+2≤W0.heap.size:=f.out.lt (i:=1) (by simp);obtain⟨g9,a⟩:=ex l.heap.size;obtain⟨X,d⟩:=ex (l.alloc (.cells (Aj s1 q) 36));rw[← a,← d]at S;rw[← d]at R T F;rw[← d,← a];rw[← a]at U;have aa:w.heap.size+2≤g:=by omega
 clear d a o E f y A D m Q hM
 try simp only[Act.put]
 have G:=Hq (fun W (L:Bw X W)=>M.out v _ pg r W (F.out.own.below L));rw[O.out pg r,decide_eq_false P.out]at G;have ad:=show X.cell? ⟨w.heap.size,1,none⟩=some (.int .i64 (n:Int))from by rw[Aa R.out.Ai,← HZ.out];rfl
 have Y:¬ (pg:Int)<1:=by omega
 have Z:¬ (n:Int)≤(pg:Int):=by omega
 have a1:(pg:Int)<(n:Int):=by omega
 go_wp2_with(first
  |(go_at_call 66;refine(G.out _ (Below.refl _ _)).mono ?_;rintro e w6 ⟨rfl,H⟩;have K:=Hq (R.out.step H))
  |with_reducible refine lL K.out.Ai Ar ?_
  |with_reducible refine lS (Aj s p) K.out.Am ?_)
 refine rT2 (.int .i64 21) K.out.Am Ar ?_;exact⟨rfl,(K.out.row 1 (Aj s p) _ rfl).below⟩
theorem U4 {N n k:Nat}{ids:List Int}{c:Int}(s:Tx.St)(p:SP)(fs:List Fr)(C:Nat→ByteArray)(K:SS N n k ids c s fs C)(t:Int)(b:ByteArray)(u:Nat→Nat){V:Nat→Nat×List ByteArray}(L:SI n C b u V)(x:Int)(Z:x<1∨(n:Int)≤x)(w:World)(h:Ao w s p fs):
 Cr 12 #[Ag s p,t,x] w (.tuple #[Ag s p,.int .i64 1]):=by
 have hn:=K.pi.n1;have HZ:=Hq K.pi.zp;have E:=Hq (fun W (hb:Bw w W)=>Iv s p fs C K b u L W (h.below hb));have M:=Hq (fun(v:Value) (B:Nat) (j:Nat) (hj:j<n) W (hv:Kd B W v b.data.toList)=>Iu v b B j (by rw[L.sz];omega) (by omega) W hv);have O:=Hq L.bt;clear h K L M O
 by_cases a1:x<1
 ·clear Z
  go_enter Tryz.func12,Tryz.ntmps12;go_upto_region 1 with fail;have f:=Hp w (Aj s p) 36 #[(),(),(),'s',(),false,(),(),(),(),"",'s',(),'s',()] 36;obtain⟨P,y⟩:=Ee f;rw[← y]at f ⊢;clear y
  go_upto_region 2 with(first
   |with_reducible refine lL f.out.Ai Ar ?_
   |(go_at_call 64;refine(E.out _ f.out.below).mono ?_;rintro e l ⟨s1,q,Q,v,g,rfl,z,A,m,F,o⟩)
   |with_reducible refine sN (Aj s1 q) ?_)
  have D:=o.trans ((Ab l (.cells (Aj s1 q) 36)).mono o.size);have r:=Hq (f.out.step D);have G:=Hq (heap_alloc_new l (.cells (Aj s1 q) 36));have H:=Hq (z.below (Ab l (.cells (Aj s1 q) 36)));have I:=Hq (m.below (Ab l (.cells (Aj s1 q) 36)));have R:=Hq A;have J:g<l.heap.size:=by obtain⟨cur,fr,S⟩:=m.ty;exact By S
  have T:w.heap.size+2≤P.heap.size:=f.out.lt (i:=1) (by simp);obtain⟨g9,a⟩:=ex l.heap.size;obtain⟨U,d⟩:=ex (l.alloc (.cells (Aj s1 q) 36));rw[← a,← d]at G;rw[← d]at r H I;rw[← d,← a];rw[← a]at J;have X:w.heap.size+2≤g:=by omega
  clear d a o D f E z A m F T
  try simp only[Act.put]
  have Y:=show U.cell? ⟨w.heap.size,1,none⟩=some (.int .i64 (n:Int))from by rw[Aa r.out.Ai,← HZ.out];rfl
  go_wp2_with(first
   |with_reducible refine lL r.out.Ai Ar ?_
   |with_reducible refine lS (Aj s p) r.out.Am ?_)
  refine rT2 (.int .i64 1) r.out.Am Ar ?_;exact⟨rfl,(r.out.row 1 (Aj s p) _ rfl).below⟩
 ·have a6:(n:Int)≤x:=by omega
  clear Z;go_enter Tryz.func12,Tryz.ntmps12;go_upto_region 1 with fail;have f:=Hp w (Aj s p) 36 #[(),(),(),'s',(),false,(),(),(),(),"",'s',(),'s',()] 36;obtain⟨P,y⟩:=Ee f;rw[← y]at f ⊢;clear y
  go_upto_region 2 with(first
   |with_reducible refine lL f.out.Ai Ar ?_
   |(go_at_call 64;refine(E.out _ f.out.below).mono ?_;rintro e l ⟨s1,q,Q,v,g,rfl,z,A,m,F,o⟩)
   |with_reducible refine sN (Aj s1 q) ?_)
  have D:=o.trans ((Ab l (.cells (Aj s1 q) 36)).mono o.size);have r:=Hq (f.out.step D);have G:=Hq (heap_alloc_new l (.cells (Aj s1 q) 36));have H:=Hq (z.below (Ab l (.cells (Aj s1 q) 36)));have I:=Hq (m.below (Ab l (.cells (Aj s1 q) 36)));have R:=Hq A;have J:g<l.heap.size:=by obtain⟨cur,fr,S⟩:=m.ty;exact By S
  have T:w.heap.size+2≤P.heap.size:=f.out.lt (i:=1) (by simp);obtain⟨g9,a⟩:=ex l.heap.size;obtain⟨U,d⟩:=ex (l.alloc (.cells (Aj s1 q) 36));rw[← a,← d]at G;rw[← d]at r H I;rw[← d,← a];rw[← a]at J;have X:w.heap.size+2≤g:=by omega
  clear d a o D f E z A m F T
  try simp only[Act.put]
  have Y:=show U.cell? ⟨w.heap.size,1,none⟩=some (.int .i64 (n:Int))from by rw[Aa r.out.Ai,← HZ.out];rfl
  go_wp2_with(first
   |with_reducible refine lL r.out.Ai Ar ?_
   |with_reducible refine lS (Aj s p) r.out.Am ?_)
  refine rT2 (.int .i64 1) r.out.Am Ar ?_;exact⟨rfl,(r.out.row 1 (Aj s p) _ rfl).below⟩
theorem U5 {N n k:Nat}{ids:List Int}{c:Int}(s:Tx.St)(p:SP)(fs:List Fr)(C:Nat→ByteArray)(Z:SS N n k ids c s fs C)(b:ByteArray)(u:Nat→Nat){V:Nat→Nat×List ByteArray}(hu:SI n C b u V)(w:World)(h:Ao w s p fs):
 Cq 16 #[Ag s p] w (Z9 N n k ids c C (Ed u n) w):=by
 have hn:=Z.pi.n1;have HZ:=Hq Z.pi.zp;have K:=Hq (fun W (hb:Bw w W)=>Iv s p fs C Z b u hu W (h.below hb));have a1:=Hq (fun(v:Value) (B:Nat) (j:Nat) (hj:j<n) W (hv:Kd B W v b.data.toList)=>Iu v b B j (by rw[hu.sz];omega) (by omega) W hv);have L:=Hq hu.bt;have HQ:=Hq (fun(s':Tx.St) (q:SP) (a6:List Fr) (v:Value) w' h1 h2 h3 h4=>show Z9 N n k ids c C (Ed u n) w (.returned (.tuple #[Ag s' q,v,()])) w' from⟨s',q,a6,v,rfl,h1,h2,h3,h4⟩);generalize Z9 N n k ids c C (Ed u n) w=Q at HQ ⊢;clear h Z hu;go_enter Tryz.func16,Tryz.ntmps16;go_upto_region 1 with fail;have z:=Hp w (Aj s p) 36 #[(),(),(),'s',(),false,(),(),(),(),"",'s',(),'s',()] 36;obtain⟨W0,M⟩:=Ee z;rw[← M]at z ⊢;clear M
 go_upto_region 4 with(first
  |with_reducible refine lL z.out.Ai Ar ?_
  |(go_at_call 64;refine(K.out _ z.out.below).mono ?_;rintro e D ⟨s1,m,a7,v,g,rfl,O,P,E,a8,F⟩)
  |with_reducible refine sN (Aj s1 m) ?_)
 have R:=F.trans ((Ab D (.cells (Aj s1 m) 36)).mono F.size);have H5:=Hq (z.out.step R);have G:=Hq (heap_alloc_new D (.cells (Aj s1 m) 36));have S:=Hq (O.below (Ab D (.cells (Aj s1 m) 36)));have T:=Hq (E.below (Ab D (.cells (Aj s1 m) 36)));have aa:=Hq P;have ad:g<D.heap.size:=by obtain⟨cur,fr,h1⟩:=E.ty;exact By h1
 have hM:w.heap.size+2≤W0.heap.size:=z.out.lt (i:=1) (by simp);obtain⟨g9,o⟩:=ex D.heap.size;obtain⟨U,r⟩:=ex (D.alloc (.cells (Aj s1 m) 36));rw[← o,← r]at G;rw[← r]at H5 S T;rw[← r,← o];rw[← o]at ad;have ar:w.heap.size+2≤g:=by omega
 clear r o F R z K O P E a8 hM
 try simp only[Act.put]
 have aq:g9<U.heap.size:=By G.out;have ae:=show U.cell? ⟨w.heap.size,1,none⟩=some (.int .i64 (n:Int))from by rw[Aa H5.out.Ai,← HZ.out];rfl
 have af:=Hq H5.out.below;go_wp2_with fail;clear ae
 go_loopw [8,26] (fun vv x wr=>∃ j:Nat,j≤n∧x= .int .i64 (j:Int)∧En Kg 1 3 U.heap.size wr vv (Ed u j)∧Bw U wr) (fun _ x _=>n-(intOf x).toNat)
 case atStart=>exact⟨0,Nat.zero_le _,rfl,Q5 _ _ _ _,Below.refl _ _⟩
 case round=>
  obtain⟨j,hj,rfl,f,a⟩:=hrel;have X:=Hq a;have H:=Hq f
  by_cases I:j<n
  ·have au:(j:Int)<(n:Int):=by omega
   have av:IntKind.i64.wrap ((j:Int)+1)=(j:Int)+1:=IntWalk.i64_in _ (by omega);have y:=Hq (fun W (hb:Bw wr W)=>a1.out v _ j I W ((T.out.below a).own.below hb));have aw:=Pe u j;obtain⟨A,ca,rfl,-⟩:=En.form f;clear a f
   by_cases d:0<u j
   ·rw[L.out j I,decide_eq_true d]at y
    have ag:=Hq (Up d);clear d
    go_wp2_with(first
     |(go_at_call 66;refine(y.out _ (Below.refl _ _)).mono ?_;rintro e Y ⟨rfl,l⟩;have ah:=Hq (Db H.out l);have J:=Hq (Ad X.out l))
     |(at_builtin;refine Jc Kr (.tmp 32) (.tmp 34) 47 3 uH Z8 rfl (by omega) (by omega) rfl U.heap.size _ (Ed u j).length ((Ed u j).flatMap Kg) rfl (Db ah.out (Ab _ _)) Y.heap.size (Kg (j:Int)) 3 rfl (heap_alloc_new Y _) rfl (by simp[Kg,Value.oneCell']) (by omega) (Nat.le_trans J.out.size (Ab Y _).size) ?_;intro v7 w7 ai ax aj))
    go_roundw
    case rel=>exact⟨j+1,by omega,by go_num,by rw[ag.out];exact En.push (enc:=Kg) ai,J.out.trans (((Ab Y _).mono J.out.size).trans aj)⟩
    case measure=>simp[intOf];omega
   ·rw[L.out j I,decide_eq_false d]at y
    have ak:=Hq (Zi d);clear d
    go_wp2_with(go_at_call 66;refine(y.out _ (Below.refl _ _)).mono ?_;rintro e Y ⟨rfl,l⟩)
    go_roundw
    case rel=>exact⟨j+1,by omega,by go_num,by rw[ak.out];exact Db H.out l,Ad X.out l⟩
    case measure=>simp[intOf];omega
  ·obtain rfl:j=n:=by omega
   have H6:=Hq (H5.out.step a);have an:=Hq (Ae G.out a);have ao:=Hq (S.out.below a);obtain⟨A,ca,rfl,-⟩:=En.form f;clear a f
   go_wp2_with(first
    |with_reducible refine lL an.out Ar ?_
    |with_reducible refine lS (Aj s1 m) H6.out.Am ?_)
   refine rT3 (.slice A (Ed u j).length ca) () H6.out.Am Ar ?_;exact HQ.out s1 m a7 _ _ (ao.out.other (t:=36) H6.out.Am (by decide) (by decide) (by decide) _) aa.out (Nn (Ew H.out _ _ (by omega)) af.out.size) (H6.out.row 1 (Aj s1 m) _ rfl).below
theorem Ol {N n k:Nat}{ids:List Int}{c:Int}(s:Tx.St)(p:SP)(fs:List Fr)(C:Nat→ByteArray)(l:SS N n k ids c s fs C)(m:c+5048≤(N:Int)*128)(t:Int)(o:t∈ids)(d:Rc.num t)(b:ByteArray)(u:Nat→Nat)(r:SI n C b u)(a:Nat)(e:2≤a∧a≤4)(pg:Nat)(f:pg<n)(g:Oe u pg)(i:¬ 0<u pg)(w:World)(h:Ao w s p fs):
 Cq 14 #[Ag s p,t,.int .i64 (a:Int)] w (fJ N n k ids (c+5048) (Bx b pg) (fun q=>if q=pg then a else u q) (fun _=>(0,[])) pg w):=
 (dJ s p fs C l m t o d b u r a e pg f g i w h).mono fun _ _ ⟨v,q,j,x,y,z,A,B,D⟩=>⟨v,q,j,x,y,z,A,B.ev,D⟩
theorem fL {N n k:Nat}{ids:List Int}{c:Int}(s:Tx.St)(p:SP)(fs:List Fr)(C:Nat→ByteArray)(i:SS N n k ids c s fs C)(j:c+5048≤(N:Int)*128)(t:Int)(l:t∈ids)(d:Rc.num t)(b:ByteArray)(u:Nat→Nat)(m:SI n C b u)(pg:Nat)(e:pg<n)(f:1≤pg)(a:0<u pg)(w:World)(h:Ao w s p fs):
 Cq 12 #[Ag s p,t,.int .i64 (pg:Int)] w (fK N n k ids (c+5048) (Bx b pg) (fun q=>if q=pg then 0 else u q) (fun _=>(0,[])) w):=
 (kE s p fs C i j t l d b u m pg e f a w h).mono fun _ _ ⟨o,q,g,r,v,x,y,z,A⟩=>⟨o,q,g,r,v,x,y,z.ev,A⟩
end Go.Proofs.YtmldoihahndcgaaGreatDoor
