import Derived.Test.YtpogpkonojhakaaGreatDoorHk00
import Derived.Test.YtpogpkonojhakaaGreatDoorHk23
set_option maxRecDepth 100000
set_option maxHeartbeats 16000000
set_option linter.unusedSimpArgs false
namespace Go.Proofs.YtpogpkonojhakaaGreatDoor
open Go.RowKit Sc
def rB (N n k:Nat)(ids:List Int)(c:Int)(b:ByteArray)(u:Nat→Nat)(V:Nat→Nat×List ByteArray)(pg:Nat)(w:World)(e:Ending)(w':World):Prop:=
 ∃ (s':Tx.St) (q:SP) (fs':List Fr) (C':Nat→ByteArray),e= .returned (.tuple #[Ah s' q,.int .i64 (pg:Int),()])∧Am w' s' q fs'∧SS N n k ids c s' fs' C'∧SI n C' b u V∧Bw w w'
theorem Un {N n k:Nat}{ids:List Int}{c:Int}(s:Tx.St)(p:SP)(fs:List Fr)(C:Nat→ByteArray)(hS:SS N n k ids c s fs C)(hc:c+5048≤(N:Int)*128)(t:Int)(ht:t∈ids)(X:Rc.num t)(b:ByteArray)(u:Nat→Nat){V:Nat→Nat×List ByteArray}(U:SI n C b u V)(z:Nat)(b3:2≤z∧z≤4)(pg:Nat)(Y:pg<n)(Z:Rm u pg)(l:¬ 0<u pg)(w:World)(h:Am w s p fs):
 Cq 28 #[Ah s p,t,.int .i64 (z:Int)] w (rB N n k ids (c+5048) (D1 b pg) (fun q=>if q=pg then z else u q) (fun q=>if q=pg then(0,[])else V q) pg w):=by
 have hn:=hS.pi.n1;have HZ:=Hq hS.pi.zp;have a1:=Hq (fun W (hb:Bw w W)=>Wg s p fs C hS b u U W (h.below hb));have I:=Hq (fun(v:Value) (B:Nat) (j:Nat) (hj:j<n) W (hv:Nq B W v b.data.toList)=>We v b B j (by rw[U.sz];omega) (by omega) W hv);have a6:=Hq U.bt;have ai:1≤pg:=by
  rcases Nat.eq_zero_or_pos pg with e|e
  ·subst e;rw[U.u0]at l;exact absurd (by decide) l
  ·exact e
 have a7:=Hq (fun(s1:Tx.St) (y:SP) (m:List Fr) (aj:SS N n k ids c s1 m C) (v:Value) (B g:Nat) W (hv:Kf B g W v b.data.toList) (hw:Am W s1 y m)=>mT s1 y m C aj hc t ht X b u U pg Y ai z (by omega) ⟨fun _=>l,fun _=>by omega⟩ v B g W hv hw);have ak:=Hq Z;have al:=Hq l;have HQ:=Hq (fun(s':Tx.St) (q:SP) (an:List Fr) (C':Nat→ByteArray) w' h1 h2 h3 h4=>show rB N n k ids (c+5048) (D1 b pg) (fun q=>if q=pg then z else u q) (fun q=>if q=pg then(0,[])else V q) pg w (.returned (.tuple #[Ah s' q,.int .i64 (pg:Int),()])) w' from⟨s',q,an,C',rfl,h1,h2,h3,h4⟩);generalize ao:rB N n k ids (c+5048) (D1 b pg) (fun q=>if q=pg then z else u q) (fun q=>if q=pg then(0,[])else V q) pg w=Q at HQ ⊢;clear h hS U Z l hc ht X ao;have b4:¬ (z:Int)<2:=by omega
 have b5:¬ (4:Int)<(z:Int):=by omega
 go_enter Tryz.func28,Tryz.ntmps28;go_upto_region 1 with fail;have J:=Nk w (Ak s p) 36 #[(),(),(),'s',(),false,(),(),(),(),"",'s',(),'s',()] 36;obtain⟨W0,a8⟩:=E2 J;rw[← a8]at J ⊢;clear a8
 go_upto_region 6 with(first
  |with_reducible refine lL J.out.An Aq ?_
  |(go_at_call 44;refine(a1.out _ J.out.below).mono ?_;rintro e K ⟨s1,y,m,v,g,rfl,aa,ad,L,aq,O⟩)
  |with_reducible refine sN (Ak s1 y) ?_)
 have ae:=O.trans ((Ac K (.cells (Ak s1 y) 36)).mono O.size);have H5:=Hq (J.out.step ae);have A:=Hq (heap_alloc_new K (.cells (Ak s1 y) 36));have P:=Hq (aa.below (Ac K (.cells (Ak s1 y) 36)));have o:=Hq (L.below (Ac K (.cells (Ak s1 y) 36)));have ar:=Hq ad;have au:g<K.heap.size:=by obtain⟨cur,fr,h1⟩:=L.ty;exact Bt h1
 have hM:w.heap.size+2≤W0.heap.size:=J.out.lt (i:=1) (by simp);obtain⟨g9,D⟩:=ex K.heap.size;obtain⟨w5,E⟩:=ex (K.alloc (.cells (Ak s1 y) 36));rw[← D,← E]at A;rw[← E]at H5 P o;rw[← E,← D];rw[← D]at au;have av:w.heap.size+2≤g:=by omega
 clear E D O ae J a1 aa ad L aq hM
 try simp only[Act.put]
 have aw:=show w5.cell? ⟨w.heap.size,1,none⟩=some (.int .i64 (n:Int))from by rw[Aa H5.out.An,← HZ.out];rfl
 go_wp2_with fail
 go_loopw [12] (fun x wr=>∃ j:Nat,j≤pg∧x= .int .i64 (j:Int)∧Bw w5 wr) (fun x _=>pg-(intOf x).toNat)
 case atStart=>exact⟨0,Nat.zero_le _,rfl,Below.refl _ _⟩
 case round=>
  obtain⟨j,hj,rfl,d⟩:=hrel;have aw:=show wr.cell? ⟨w.heap.size,1,none⟩=some (.int .i64 (n:Int))from by rw[Aa (H5.out.step d).An,← HZ.out];rfl
  by_cases ax:j<pg
  ·have r:j<n:=by omega
   have ay:(j:Int)<(n:Int):=(by omega);have f:=Hq (fun W (hb:Bw wr W)=>I.out v _ j r W ((o.out.below d).own.below hb));rw[a6.out j r,decide_eq_true (ak.out j ax)]at f;have b6:IntKind.i64.wrap ((j:Int)+1)=(j:Int)+1:=IntWalk.i64_in _ (by omega);have R:=Hq d;clear d
   go_wp2_with(go_at_call 46;refine(f.out _ (Below.refl _ _)).mono ?_;rintro e w6 ⟨rfl,F⟩)
   go_roundw
   case rel=>exact⟨j+1,by omega,by go_num,Af R.out F⟩
   case measure=>simp[intOf];omega
  ·obtain rfl:j=pg:=by omega
   have r:j<n:=Y;have ay:(j:Int)<(n:Int):=(by omega);have f:=Hq (fun W (hb:Bw wr W)=>I.out v _ j r W ((o.out.below d).own.below hb));rw[a6.out j r,decide_eq_false al.out]at f;have b7:((j:Int)==(n:Int))=false:=beq_eq_false_iff_ne.2 (by omega);have R:=Hq d;clear d;have b2:g9<w5.heap.size:=Bt A.out
   go_upto_region 12 with(first
    |(go_at_call 46;refine(f.out _ (Below.refl _ _)).mono ?_;rintro e w6 ⟨rfl,F⟩;have a:=Af R.out F;have H6:=Hq (H5.out.step a);have S:=Hq (Ag A.out a);have b8:=show w6.cell? ⟨w.heap.size,1,none⟩=some (.int .i64 (n:Int))from(by rw[Aa H6.out.An,← HZ.out];rfl))
    |with_reducible refine lL S.out Aq ?_
    |(go_at_call 65;refine(a7.out s1 y m ar.out v _ g _ (o.out.below a) (P.out.below a)).mono ?_;rintro e w7 ⟨s2,H,az,C2,rfl,af,b0,b1,T⟩;have H7:=Hq (H6.out.under (M:=w.heap.size+2) (by simp) (T.below (by have:=a.size;omega) av));have G:=Hq ((T.block g9 (by have:=a.size;omega) (by omega)).trans S.out))
    |with_reducible refine lS (Ak s2 H) G.out ?_)
   have H8:=Hq (H7.out.under (M:=w.heap.size+2) (by simp) (Fu (g:=g9) (by omega) (show Below (w.heap.size+2) w7 w7 from⟨rfl,rfl,rfl,Nat.le_refl _,fun _ _=>rfl⟩) (Ak s2 H)));have ag:=Hq (setRow_heap _ _ _ (Ak s2 H) _ _ G.out);have ah:=Hq (af.other (t:=36) G.out (by decide) (by decide) (by decide) (Ak s2 H));generalize w7.setRow g9 (Ak s2 H)=w8 at H8 ag ah ⊢;clear H6 S H7 G af T F a a7 I f H5 A P o
   try simp only[Act.put]
   go_wp2_with(first
    |with_reducible refine lL ag.out Aq ?_
    |with_reducible refine lS (Ak s2 H) H8.out.Ar ?_)
   refine rT3 (.int .i64 (j:Int)) () H8.out.Ar Aq ?_;exact HQ.out s2 H az C2 _ (ah.out.other (t:=36) H8.out.Ar (by decide) (by decide) (by decide) _) b0 b1 (H8.out.row 1 (Ak s2 H) _ rfl).below
theorem Re {N n k:Nat}{ids:List Int}{c:Int}(s:Tx.St)(p:SP)(fs:List Fr)(C:Nat→ByteArray)(O:SS N n k ids c s fs C)(b:ByteArray)(u:Nat→Nat){V:Nat→Nat×List ByteArray}(P:SI n C b u V)(t:Int)(z:Nat)(ae:2≤z∧z≤4)(A:Rm u n)(w:World)(h:Am w s p fs):
 Cr 28 #[Ah s p,t,.int .i64 (z:Int)] w (.tuple #[Ah s p,(),.int .i64 18]):=by
 have hn:=O.pi.n1;have HZ:=Hq O.pi.zp;have D:=Hq (fun W (S:Bw w W)=>Wg s p fs C O b u P W (h.below S));have T:=Hq (fun(v:Value) (B:Nat) (j:Nat) (hj:j<n) W (hv:Nq B W v b.data.toList)=>We v b B j (by rw[P.sz];omega) (by omega) W hv);have U:=Hq P.bt;obtain⟨pg,E⟩:=ex n;have af:pg≤n:=by omega
 have l:Rm u pg:=by rw[E];exact A
 have X:=Hq l;clear h O P A l;have ag:¬ (z:Int)<2:=by omega
 have ah:¬ (4:Int)<(z:Int):=by omega
 go_enter Tryz.func28,Tryz.ntmps28;go_upto_region 1 with fail;have m:=Nk w (Ak s p) 36 #[(),(),(),'s',(),false,(),(),(),(),"",'s',(),'s',()] 36;obtain⟨W0,F⟩:=E2 m;rw[← F]at m ⊢;clear F
 go_upto_region 6 with(first
  |with_reducible refine lL m.out.An Aq ?_
  |(go_at_call 44;refine(D.out _ m.out.below).mono ?_;rintro e o ⟨s1,y,ai,v,g,rfl,G,H,q,Y,r⟩)
  |with_reducible refine sN (Ak s1 y) ?_)
 have I:=r.trans ((Ac o (.cells (Ak s1 y) 36)).mono r.size);have Q:=Hq (m.out.step I);have Z:=Hq (heap_alloc_new o (.cells (Ak s1 y) 36));have a1:=Hq (G.below (Ac o (.cells (Ak s1 y) 36)));have J:=Hq (q.below (Ac o (.cells (Ak s1 y) 36)));have aj:=Hq H;have a6:g<o.heap.size:=by obtain⟨cur,fr,h1⟩:=q.ty;exact Bt h1
 have hM:w.heap.size+2≤W0.heap.size:=m.out.lt (i:=1) (by simp);obtain⟨g9,d⟩:=ex o.heap.size;obtain⟨w5,f⟩:=ex (o.alloc (.cells (Ak s1 y) 36));rw[← d,← f]at Z;rw[← f]at Q a1 J;rw[← f,← d];rw[← d]at a6;have ak:w.heap.size+2≤g:=by omega
 clear f d r I m D G H q Y hM
 try simp only[Act.put]
 have a7:=show w5.cell? ⟨w.heap.size,1,none⟩=some (.int .i64 (n:Int))from by rw[Aa Q.out.An,← HZ.out];rfl
 go_wp2_with fail
 go_loopw [12] (fun x wr=>∃ j:Nat,j≤pg∧x= .int .i64 (j:Int)∧Bw w5 wr) (fun x _=>pg-(intOf x).toNat)
 case atStart=>exact⟨0,Nat.zero_le _,rfl,Below.refl _ _⟩
 case round=>
  obtain⟨j,hj,rfl,a⟩:=hrel;have a7:=show wr.cell? ⟨w.heap.size,1,none⟩=some (.int .i64 (n:Int))from by rw[Aa (Q.out.step a).An,← HZ.out];rfl
  by_cases a8:j<pg
  ·have K:j<n:=by omega
   have aa:(j:Int)<(n:Int):=(by omega);have L:=Hq (fun W (S:Bw wr W)=>T.out v _ j K W ((J.out.below a).own.below S));rw[U.out j K,decide_eq_true (X.out j a8)]at L;have al:IntKind.i64.wrap ((j:Int)+1)=(j:Int)+1:=IntWalk.i64_in _ (by omega);have M:=Hq a;clear a
   go_wp2_with(go_at_call 46;refine(L.out _ (Below.refl _ _)).mono ?_;rintro e w6 ⟨rfl,ad⟩)
   go_roundw
   case rel=>exact⟨j+1,by omega,by go_num,Af M.out ad⟩
   case measure=>simp[intOf];omega
  ·obtain rfl:j=pg:=by omega
   have aa:¬ (j:Int)<(n:Int):=(by omega);have an:((j:Int)==(n:Int))=true:=beq_iff_eq.2 (by omega);have M:=Hq a;have R:=Hq (Q.out.step a);clear a E
   go_wp2_with(first
    |with_reducible refine lL R.out.An Aq ?_
    |with_reducible refine lS (Ak s p) R.out.Ar ?_)
   refine rT3 () (.int .i64 18) R.out.Ar Aq ?_;exact⟨rfl,(R.out.row 1 (Ak s p) _ rfl).below⟩
end Go.Proofs.YtpogpkonojhakaaGreatDoor
