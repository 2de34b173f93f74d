import Derived.Test.YtmfkhdhnbkambaaGreatDoorHw00
import Derived.Test.YtmfkhdhnbkambaaGreatDoorHw23
set_option maxRecDepth 100000
set_option maxHeartbeats 16000000
set_option linter.unusedSimpArgs false
namespace Go.Proofs.YtmfkhdhnbkambaaGreatDoor
open Go.RowKit Sc
def Jn (n:Int):List Value:=[.int .i64 n]
theorem K6 (n:Int):(Jn n).length=1:=rfl
theorem aU:(Tryz.prog.info? 3).map (fun i=>(i.zero,i.size,i.bytes))=some (some (.int .i64 0),1,8):=by kernel_rfl
def qN (N n k:Nat)(ids:List Int)(c:Int)(b:ByteArray)(u:Nat→Nat)(V:Nat→Nat×List ByteArray)(pg:Nat)(w:World)(e:Ending)(w':World):Prop:=
 ∃ (s':Tx.St) (q:SP) (fs':List Fr) (C':Nat→ByteArray),e= .returned (.tuple #[Ah s' q,.int .i64 (pg:Int),()])∧Am w' s' q fs'∧SS N n k ids c s' fs' C'∧SI n C' b u V∧Bw w w'
def qO (N n k:Nat)(ids:List Int)(c:Int)(b:ByteArray)(u:Nat→Nat)(V:Nat→Nat×List ByteArray)(w:World)(e:Ending)(w':World):Prop:=
 ∃ (s':Tx.St) (q:SP) (fs':List Fr) (C':Nat→ByteArray),e= .returned (.tuple #[Ah s' q,()])∧Am w' s' q fs'∧SS N n k ids c s' fs' C'∧SI n C' b u V∧Bw w w'
def qP (N n k:Nat)(ids:List Int)(c:Int)(C:Nat→ByteArray)(l:List Int)(w:World)(e:Ending)(w':World):Prop:=
 ∃ (s':Tx.St) (q:SP) (fs':List Fr) (v:Value),e= .returned (.tuple #[Ah s' q,v,()])∧Am w' s' q fs'∧SS N n k ids c s' fs' C∧Dt Jn 1 3 w.heap.size w' v l∧Bw w w'
theorem T8 {N n k:Nat}{ids:List Int}{c:Int}(s:Tx.St)(p:SP)(fs:List Fr)(C:Nat→ByteArray)(hS:SS N n k ids c s fs C)(hc:c+3268≤(N:Int)*128)(t:Int)(ht:t∈ids)(X:Rc.num t)(b:ByteArray)(u:Nat→Nat){V:Nat→Nat×List ByteArray}(U:SI n C b u V)(z:Nat)(b3:2≤z∧z≤4)(pg:Nat)(Y:pg<n)(Z:Q5 u pg)(l:¬ 0<u pg)(w:World)(h:Am w s p fs):
 Cq 48 #[Ah s p,t,.int .i64 (z:Int)] w (qN N n k ids (c+3268) (Dw b pg) (fun q=>if q=pg then z else u q) (fun q=>if q=pg then(0,[])else V q) pg w):=by
 have hn:=hS.pi.n1;have HZ:=Hq hS.pi.zp;have a1:=Hq (fun W (hb:Bw w W)=>Nl s p fs C hS b u U W (h.below hb));have I:=Hq (fun(v:Value) (B:Nat) (j:Nat) (hj:j<n) W (hv:Lv B W v b.data.toList)=>Nk v b B j (by rw[U.sz];omega) (by omega) W hv);have a6:=Hq U.bt;have ai:1≤pg:=by
  rcases Nat.eq_zero_or_pos pg with e|e
  ·subst e;rw[U.u0]at l;exact absurd (by decide) l
  ·exact e
 have a7:=Hq (fun(s1:Tx.St) (y:SP) (m:List Fr) (aj:SS N n k ids c s1 m C) (v:Value) (B g:Nat) W (hv:Jq B g W v b.data.toList) (hw:Am W s1 y m)=>Vw s1 y m C aj hc t ht X b u U pg Y ai z (by omega) ⟨fun _=>l,fun _=>by omega⟩ v B g W hv hw);have ak:=Hq Z;have al:=Hq l;have HQ:=Hq (fun(s':Tx.St) (q:SP) (an:List Fr) (C':Nat→ByteArray) w' h1 h2 h3 h4=>show qN N n k ids (c+3268) (Dw b pg) (fun q=>if q=pg then z else u q) (fun q=>if q=pg then(0,[])else V q) pg w (.returned (.tuple #[Ah s' q,.int .i64 (pg:Int),()])) w' from⟨s',q,an,C',rfl,h1,h2,h3,h4⟩);generalize ao:qN N n k ids (c+3268) (Dw b pg) (fun q=>if q=pg then z else u q) (fun q=>if q=pg then(0,[])else V q) pg w=Q at HQ ⊢;clear h hS U Z l hc ht X ao;have b4:¬ (z:Int)<2:=by omega
 have b5:¬ (4:Int)<(z:Int):=by omega
 go_enter Tryz.func48,Tryz.ntmps48;go_upto_region 1 with fail;have J:=Lx w (Ak s p) 36 #[(),(),(),"s",(),false,(),(),(),(),"","s",(),"s",()] 36;obtain⟨W0,a8⟩:=E0 J;rw[← a8]at J ⊢;clear a8
 go_upto_region 6 with(first
  |with_reducible refine lL J.out.Ao Ar ?_
  |(go_at_call 63;refine(a1.out _ J.out.below).mono ?_;rintro e K ⟨s1,y,m,v,g,rfl,aa,ad,L,aq,O⟩)
  |with_reducible refine sN (Ak s1 y) ?_)
 have ae:=O.trans ((Ac K (.cells (Ak s1 y) 36)).mono O.size);have H5:=Hq (J.out.step ae);have A:=Hq (heap_alloc_new K (.cells (Ak s1 y) 36));have P:=Hq (aa.below (Ac K (.cells (Ak s1 y) 36)));have o:=Hq (L.below (Ac K (.cells (Ak s1 y) 36)));have ar:=Hq ad;have au:g<K.heap.size:=by obtain⟨cur,fr,h1⟩:=L.ty;exact Bt h1
 have hM:w.heap.size+2≤W0.heap.size:=J.out.lt (i:=1) (by simp);obtain⟨g9,D⟩:=ex K.heap.size;obtain⟨w5,E⟩:=ex (K.alloc (.cells (Ak s1 y) 36));rw[← D,← E]at A;rw[← E]at H5 P o;rw[← E,← D];rw[← D]at au;have av:w.heap.size+2≤g:=by omega
 clear E D O ae J a1 aa ad L aq hM
 try simp only[Act.put]
 have aw:=show w5.cell? ⟨w.heap.size,1,none⟩=some (.int .i64 (n:Int))from by rw[Aa H5.out.Ao,← HZ.out];rfl
 go_wp2_with fail
 go_loopw [12] (fun x wr=>∃ j:Nat,j≤pg∧x= .int .i64 (j:Int)∧Bw w5 wr) (fun x _=>pg-(intOf x).toNat)
 case atStart=>exact⟨0,Nat.zero_le _,rfl,Below.refl _ _⟩
 case round=>
  obtain⟨j,hj,rfl,d⟩:=hrel;have aw:=show wr.cell? ⟨w.heap.size,1,none⟩=some (.int .i64 (n:Int))from by rw[Aa (H5.out.step d).Ao,← HZ.out];rfl
  by_cases ax:j<pg
  ·have r:j<n:=by omega
   have ay:(j:Int)<(n:Int):=(by omega);have f:=Hq (fun W (hb:Bw wr W)=>I.out v _ j r W ((o.out.below d).own.below hb));rw[a6.out j r,decide_eq_true (ak.out j ax)]at f;have b6:IntKind.i64.wrap ((j:Int)+1)=(j:Int)+1:=IntWalk.i64_in _ (by omega);have R:=Hq d;clear d
   go_wp2_with(go_at_call 65;refine(f.out _ (Below.refl _ _)).mono ?_;rintro e w6 ⟨rfl,F⟩)
   go_roundw
   case rel=>exact⟨j+1,by omega,by go_num,Ag R.out F⟩
   case measure=>simp[intOf];omega
  ·obtain rfl:j=pg:=by omega
   have r:j<n:=Y;have ay:(j:Int)<(n:Int):=(by omega);have f:=Hq (fun W (hb:Bw wr W)=>I.out v _ j r W ((o.out.below d).own.below hb));rw[a6.out j r,decide_eq_false al.out]at f;have b7:((j:Int)==(n:Int))=false:=beq_eq_false_iff_ne.2 (by omega);have R:=Hq d;clear d;have b2:g9<w5.heap.size:=Bt A.out
   go_upto_region 12 with(first
    |(go_at_call 65;refine(f.out _ (Below.refl _ _)).mono ?_;rintro e w6 ⟨rfl,F⟩;have a:=Ag R.out F;have H6:=Hq (H5.out.step a);have S:=Hq (Af A.out a);have b8:=show w6.cell? ⟨w.heap.size,1,none⟩=some (.int .i64 (n:Int))from(by rw[Aa H6.out.Ao,← HZ.out];rfl))
    |with_reducible refine lL S.out Ar ?_
    |(go_at_call 104;refine(a7.out s1 y m ar.out v _ g _ (o.out.below a) (P.out.below a)).mono ?_;rintro e w7 ⟨s2,H,az,C2,rfl,af,b0,b1,T⟩;have H7:=Hq (H6.out.under (M:=w.heap.size+2) (by simp) (T.below (by have:=a.size;omega) av));have G:=Hq ((T.block g9 (by have:=a.size;omega) (by omega)).trans S.out))
    |with_reducible refine lS (Ak s2 H) G.out ?_)
   have H8:=Hq (H7.out.under (M:=w.heap.size+2) (by simp) (Gx (g:=g9) (by omega) (show Below (w.heap.size+2) w7 w7 from⟨rfl,rfl,rfl,Nat.le_refl _,fun _ _=>rfl⟩) (Ak s2 H)));have ag:=Hq (setRow_heap _ _ _ (Ak s2 H) _ _ G.out);have ah:=Hq (af.other (t:=36) G.out (by decide) (by decide) (by decide) (Ak s2 H));generalize w7.setRow g9 (Ak s2 H)=w8 at H8 ag ah ⊢;clear H6 S H7 G af T F a a7 I f H5 A P o
   try simp only[Act.put]
   go_wp2_with(first
    |with_reducible refine lL ag.out Ar ?_
    |with_reducible refine lS (Ak s2 H) H8.out.Aq ?_)
   refine rT3 (.int .i64 (j:Int)) () H8.out.Aq Ar ?_;exact HQ.out s2 H az C2 _ (ah.out.other (t:=36) H8.out.Aq (by decide) (by decide) (by decide) _) b0 b1 (H8.out.row 1 (Ak s2 H) _ rfl).below
theorem Qy {N n k:Nat}{ids:List Int}{c:Int}(s:Tx.St)(p:SP)(fs:List Fr)(C:Nat→ByteArray)(O:SS N n k ids c s fs C)(b:ByteArray)(u:Nat→Nat){V:Nat→Nat×List ByteArray}(P:SI n C b u V)(t:Int)(z:Nat)(ae:2≤z∧z≤4)(A:Q5 u n)(w:World)(h:Am w s p fs):
 Cr 48 #[Ah s p,t,.int .i64 (z:Int)] w (.tuple #[Ah s p,(),.int .i64 18]):=by
 have hn:=O.pi.n1;have HZ:=Hq O.pi.zp;have D:=Hq (fun W (S:Bw w W)=>Nl s p fs C O b u P W (h.below S));have T:=Hq (fun(v:Value) (B:Nat) (j:Nat) (hj:j<n) W (hv:Lv B W v b.data.toList)=>Nk v b B j (by rw[P.sz];omega) (by omega) W hv);have U:=Hq P.bt;obtain⟨pg,E⟩:=ex n;have af:pg≤n:=by omega
 have l:Q5 u pg:=by rw[E];exact A
 have X:=Hq l;clear h O P A l;have ag:¬ (z:Int)<2:=by omega
 have ah:¬ (4:Int)<(z:Int):=by omega
 go_enter Tryz.func48,Tryz.ntmps48;go_upto_region 1 with fail;have m:=Lx w (Ak s p) 36 #[(),(),(),"s",(),false,(),(),(),(),"","s",(),"s",()] 36;obtain⟨W0,F⟩:=E0 m;rw[← F]at m ⊢;clear F
 go_upto_region 6 with(first
  |with_reducible refine lL m.out.Ao Ar ?_
  |(go_at_call 63;refine(D.out _ m.out.below).mono ?_;rintro e o ⟨s1,y,ai,v,g,rfl,G,H,q,Y,r⟩)
  |with_reducible refine sN (Ak s1 y) ?_)
 have I:=r.trans ((Ac o (.cells (Ak s1 y) 36)).mono r.size);have Q:=Hq (m.out.step I);have Z:=Hq (heap_alloc_new o (.cells (Ak s1 y) 36));have a1:=Hq (G.below (Ac o (.cells (Ak s1 y) 36)));have J:=Hq (q.below (Ac o (.cells (Ak s1 y) 36)));have aj:=Hq H;have a6:g<o.heap.size:=by obtain⟨cur,fr,h1⟩:=q.ty;exact Bt h1
 have hM:w.heap.size+2≤W0.heap.size:=m.out.lt (i:=1) (by simp);obtain⟨g9,d⟩:=ex o.heap.size;obtain⟨w5,f⟩:=ex (o.alloc (.cells (Ak s1 y) 36));rw[← d,← f]at Z;rw[← f]at Q a1 J;rw[← f,← d];rw[← d]at a6;have ak:w.heap.size+2≤g:=by omega
 clear f d r I m D G H q Y hM
 try simp only[Act.put]
 have a7:=show w5.cell? ⟨w.heap.size,1,none⟩=some (.int .i64 (n:Int))from by rw[Aa Q.out.Ao,← HZ.out];rfl
 go_wp2_with fail
 go_loopw [12] (fun x wr=>∃ j:Nat,j≤pg∧x= .int .i64 (j:Int)∧Bw w5 wr) (fun x _=>pg-(intOf x).toNat)
 case atStart=>exact⟨0,Nat.zero_le _,rfl,Below.refl _ _⟩
 case round=>
  obtain⟨j,hj,rfl,a⟩:=hrel;have a7:=show wr.cell? ⟨w.heap.size,1,none⟩=some (.int .i64 (n:Int))from by rw[Aa (Q.out.step a).Ao,← HZ.out];rfl
  by_cases a8:j<pg
  ·have K:j<n:=by omega
   have aa:(j:Int)<(n:Int):=(by omega);have L:=Hq (fun W (S:Bw wr W)=>T.out v _ j K W ((J.out.below a).own.below S));rw[U.out j K,decide_eq_true (X.out j a8)]at L;have al:IntKind.i64.wrap ((j:Int)+1)=(j:Int)+1:=IntWalk.i64_in _ (by omega);have M:=Hq a;clear a
   go_wp2_with(go_at_call 65;refine(L.out _ (Below.refl _ _)).mono ?_;rintro e w6 ⟨rfl,ad⟩)
   go_roundw
   case rel=>exact⟨j+1,by omega,by go_num,Ag M.out ad⟩
   case measure=>simp[intOf];omega
  ·obtain rfl:j=pg:=by omega
   have aa:¬ (j:Int)<(n:Int):=(by omega);have an:((j:Int)==(n:Int))=true:=beq_iff_eq.2 (by omega);have M:=Hq a;have R:=Hq (Q.out.step a);clear a E
   go_wp2_with(first
    |with_reducible refine lL R.out.Ao Ar ?_
    |with_reducible refine lS (Ak s p) R.out.Aq ?_)
   refine rT3 () (.int .i64 18) R.out.Aq Ar ?_;exact⟨rfl,(R.out.row 1 (Ak s p) _ rfl).below⟩
theorem mB {N n k:Nat}{ids:List Int}{c:Int}(s:Tx.St)(p:SP)(fs:List Fr)(C:Nat→ByteArray)(hS:SS N n k ids c s fs C)(hc:c+3268≤(N:Int)*128)(t:Int)(ht:t∈ids)(L:Rc.num t)(b:ByteArray)(u:Nat→Nat){V:Nat→Nat×List ByteArray}(O:SI n C b u V)(pg:Nat)(A:pg<n)(a8:1≤pg)(d:0<u pg)(w:World)(h:Am w s p fs):
 Cq 67 #[Ah s p,t,.int .i64 (pg:Int)] w (qO N n k ids (c+3268) (Dw b pg) (fun q=>if q=pg then 0 else u q) (fun q=>if q=pg then(0,[])else V q) w):=by
 have hn:=hS.pi.n1;have HZ:=Hq hS.pi.zp;have P:=Hq (fun W (hb:Bw w W)=>Nl s p fs C hS b u O W (h.below hb));have R:=Hq (fun(v:Value) (B:Nat) (j:Nat) (hj:j<n) W (hv:Lv B W v b.data.toList)=>Nk v b B j (by rw[O.sz];omega) (by omega) W hv);have aa:=Hq O.bt;have S:=Hq (fun(s1:Tx.St) (l:SP) (f:List Fr) (ad:SS N n k ids c s1 f C) (v:Value) (B g:Nat) W (hv:Jq B g W v b.data.toList) (hw:Am W s1 l f)=>Vw s1 l f C ad hc t ht L b u O pg A a8 0 (by omega) ⟨fun h0=>absurd h0 (by omega),fun h0=>absurd d h0⟩ v B g W hv hw);have ae:=Hq d;have HQ:=Hq (fun(s':Tx.St) (q:SP) (af:List Fr) (C':Nat→ByteArray) w' h1 h2 h3 h4=>show qO N n k ids (c+3268) (Dw b pg) (fun q=>if q=pg then 0 else u q) (fun q=>if q=pg then(0,[])else V q) w (.returned (.tuple #[Ah s' q,()])) w' from⟨s',q,af,C',rfl,h1,h2,h3,h4⟩);generalize ag:qO N n k ids (c+3268) (Dw b pg) (fun q=>if q=pg then 0 else u q) (fun q=>if q=pg then(0,[])else V q) w=Q at HQ ⊢;clear h hS O d hc ht L ag;go_enter Tryz.func67,Tryz.ntmps67;go_upto_region 1 with fail;have D:=Lx w (Ak s p) 36 #[(),(),(),"s",(),false,(),(),(),(),"","s",(),"s",()] 36;obtain⟨W0,T⟩:=E0 D;rw[← T]at D ⊢;clear T
 go_upto_region 2 with(first
  |with_reducible refine lL D.out.Ao Ar ?_
  |(go_at_call 63;refine(P.out _ D.out.below).mono ?_;rintro e E ⟨s1,l,f,v,g,rfl,U,X,F,ah,G⟩)
  |with_reducible refine sN (Ak s1 l) ?_)
 have Y:=G.trans ((Ac E (.cells (Ak s1 l) 36)).mono G.size);have H5:=Hq (D.out.step Y);have m:=Hq (heap_alloc_new E (.cells (Ak s1 l) 36));have H:=Hq (U.below (Ac E (.cells (Ak s1 l) 36)));have o:=Hq (F.below (Ac E (.cells (Ak s1 l) 36)));have ai:=Hq X;have aj:g<E.heap.size:=by obtain⟨cur,fr,h1⟩:=F.ty;exact Bt h1
 have hM:w.heap.size+2≤W0.heap.size:=D.out.lt (i:=1) (by simp);obtain⟨g9,r⟩:=ex E.heap.size;obtain⟨w5,x⟩:=ex (E.alloc (.cells (Ak s1 l) 36));rw[← r,← x]at m;rw[← x]at H5 H o;rw[← x,← r];rw[← r]at aj;have ak:w.heap.size+2≤g:=by omega
 clear x r G Y D P U X F ah hM
 try simp only[Act.put]
 have I:=Hq (fun W (hb:Bw w5 W)=>R.out v _ pg A W (o.out.own.below hb));rw[aa.out pg A,decide_eq_true ae.out]at I;have al:=show w5.cell? ⟨w.heap.size,1,none⟩=some (.int .i64 (n:Int))from by rw[Aa H5.out.Ao,← HZ.out];rfl
 have au:¬ (pg:Int)<1:=by omega
 have av:¬ (n:Int)≤(pg:Int):=by omega
 have aw:(pg:Int)<(n:Int):=by omega
 have ax:g9<w5.heap.size:=Bt m.out
 go_upto_region 9 with(first
  |(go_at_call 65;refine(I.out _ (Below.refl _ _)).mono ?_;rintro e w6 ⟨rfl,a⟩;have H6:=Hq (H5.out.step a);have J:=Hq (Af m.out a))
  |with_reducible refine lL J.out Ar ?_
  |(go_at_call 104;refine(S.out s1 l f ai.out v _ g _ (o.out.below a) (H.out.below a)).mono ?_;rintro e w7 ⟨s2,y,an,C2,rfl,Z,ao,aq,K⟩;have H7:=Hq (H6.out.under (M:=w.heap.size+2) (by simp) (K.below (by have:=a.size;omega) ak));have z:=Hq ((K.block g9 (by have:=a.size;omega) (by omega)).trans J.out))
  |with_reducible refine lS (Ak s2 y) z.out ?_)
 have H8:=Hq (H7.out.under (M:=w.heap.size+2) (by simp) (Gx (g:=g9) (by omega) (show Below (w.heap.size+2) w7 w7 from⟨rfl,rfl,rfl,Nat.le_refl _,fun _ _=>rfl⟩) (Ak s2 y)));have a1:=Hq (setRow_heap _ _ _ (Ak s2 y) _ _ z.out);have a6:=Hq (Z.other (t:=36) z.out (by decide) (by decide) (by decide) (Ak s2 y));generalize w7.setRow g9 (Ak s2 y)=w8 at H8 a1 a6 ⊢;clear H6 J H7 z Z K a S R I H5 m H o al
 try simp only[Act.put]
 have ar:=Hq (fun W=>lX s p s2 y 0 (by decide) W)
 go_wp2_with(first
  |with_reducible refine lL H8.out.Ao Ar ?_
  |with_reducible refine lL a1.out Ar ?_
  |(go_at_call 64;refine(ar.out _).mono ?_;rintro e w9 ⟨he,a7⟩;rw[if_pos rfl]at he;subst he;have H9:=Hq (H8.out.step a7))
  |with_reducible refine lS (Ak s2 y) H9.out.Aq ?_)
 refine rT2 () H9.out.Aq Ar ?_;exact HQ.out s2 y an C2 _ ((a6.out.below a7).other (t:=36) H9.out.Aq (by decide) (by decide) (by decide) _) ao aq (H9.out.row 1 (Ak s2 y) _ rfl).below
theorem mC {N n k:Nat}{ids:List Int}{c:Int}(s:Tx.St)(p:SP)(fs:List Fr)(C:Nat→ByteArray)(Z:SS N n k ids c s fs C)(b:ByteArray)(u:Nat→Nat){V:Nat→Nat×List ByteArray}(hu:SI n C b u V)(w:World)(h:Am w s p fs):
 Cq 24 #[Ah s p] w (qP N n k ids c C (Hb u n) w):=by
 have hn:=Z.pi.n1;have HZ:=Hq Z.pi.zp;have K:=Hq (fun W (hb:Bw w W)=>Nl s p fs C Z b u hu W (h.below hb));have a1:=Hq (fun(v:Value) (B:Nat) (j:Nat) (hj:j<n) W (hv:Lv B W v b.data.toList)=>Nk v b B j (by rw[hu.sz];omega) (by omega) W hv);have L:=Hq hu.bt;have HQ:=Hq (fun(s':Tx.St) (q:SP) (a6:List Fr) (v:Value) w' h1 h2 h3 h4=>show qP N n k ids c C (Hb u n) w (.returned (.tuple #[Ah s' q,v,()])) w' from⟨s',q,a6,v,rfl,h1,h2,h3,h4⟩);generalize qP N n k ids c C (Hb u n) w=Q at HQ ⊢;clear h Z hu;go_enter Tryz.func24,Tryz.ntmps24;go_upto_region 1 with fail;have z:=Lx w (Ak s p) 36 #[(),(),(),"s",(),false,(),(),(),(),"","s",(),"s",()] 36;obtain⟨W0,M⟩:=E0 z;rw[← M]at z ⊢;clear M
 go_upto_region 4 with(first
  |with_reducible refine lL z.out.Ao Ar ?_
  |(go_at_call 63;refine(K.out _ z.out.below).mono ?_;rintro e D ⟨s1,m,a7,v,g,rfl,O,P,E,a8,F⟩)
  |with_reducible refine sN (Ak s1 m) ?_)
 have R:=F.trans ((Ac D (.cells (Ak s1 m) 36)).mono F.size);have H5:=Hq (z.out.step R);have G:=Hq (heap_alloc_new D (.cells (Ak s1 m) 36));have S:=Hq (O.below (Ac D (.cells (Ak s1 m) 36)));have T:=Hq (E.below (Ac D (.cells (Ak s1 m) 36)));have aa:=Hq P;have ad:g<D.heap.size:=by obtain⟨cur,fr,h1⟩:=E.ty;exact Bt h1
 have hM:w.heap.size+2≤W0.heap.size:=z.out.lt (i:=1) (by simp);obtain⟨g9,o⟩:=ex D.heap.size;obtain⟨U,r⟩:=ex (D.alloc (.cells (Ak s1 m) 36));rw[← o,← r]at G;rw[← r]at H5 S T;rw[← r,← o];rw[← o]at ad;have aq:w.heap.size+2≤g:=by omega
 clear r o F R z K O P E a8 hM
 try simp only[Act.put]
 have ao:g9<U.heap.size:=Bt G.out;have ae:=show U.cell? ⟨w.heap.size,1,none⟩=some (.int .i64 (n:Int))from by rw[Aa H5.out.Ao,← HZ.out];rfl
 have af:=Hq H5.out.below;go_wp2_with fail;clear ae
 go_loopw [8,26] (fun vv x wr=>∃ j:Nat,j≤n∧x= .int .i64 (j:Int)∧Dt Jn 1 3 U.heap.size wr vv (Hb u j)∧Bw U wr) (fun _ x _=>n-(intOf x).toNat)
 case atStart=>exact⟨0,Nat.zero_le _,rfl,N9 _ _ _ _,Below.refl _ _⟩
 case round=>
  obtain⟨j,hj,rfl,f,a⟩:=hrel;have X:=Hq a;have H:=Hq f
  by_cases I:j<n
  ·have ar:(j:Int)<(n:Int):=by omega
   have au:IntKind.i64.wrap ((j:Int)+1)=(j:Int)+1:=IntWalk.i64_in _ (by omega);have y:=Hq (fun W (hb:Bw wr W)=>a1.out v _ j I W ((T.out.below a).own.below hb));have av:=Vj u j;obtain⟨A,ca,rfl,-⟩:=Dt.form f;clear a f
   by_cases d:0<u j
   ·rw[L.out j I,decide_eq_true d]at y
    have ag:=Hq (kW d);clear d
    go_wp2_with(first
     |(go_at_call 65;refine(y.out _ (Below.refl _ _)).mono ?_;rintro e Y ⟨rfl,l⟩;have ah:=Hq (Bg H.out l);have J:=Hq (Ag X.out l))
     |(at_builtin;refine Hz Kr (.tmp 32) (.tmp 34) 80 3 vX aU rfl (by omega) (by omega) rfl U.heap.size _ (Hb u j).length ((Hb u j).flatMap Jn) rfl (Bg ah.out (Ac _ _)) Y.heap.size (Jn (j:Int)) 3 rfl (heap_alloc_new Y _) rfl (by simp[Jn,Value.oneCell']) (by omega) (Nat.le_trans J.out.size (Ac Y _).size) ?_;intro v7 w7 ai aw aj))
    go_roundw
    case rel=>exact⟨j+1,by omega,by go_num,by rw[ag.out];exact Dt.push (enc:=Jn) ai,J.out.trans (((Ac Y _).mono J.out.size).trans aj)⟩
    case measure=>simp[intOf];omega
   ·rw[L.out j I,decide_eq_false d]at y
    have ak:=Hq (pP d);clear d
    go_wp2_with(go_at_call 65;refine(y.out _ (Below.refl _ _)).mono ?_;rintro e Y ⟨rfl,l⟩)
    go_roundw
    case rel=>exact⟨j+1,by omega,by go_num,by rw[ak.out];exact Bg H.out l,Ag X.out l⟩
    case measure=>simp[intOf];omega
  ·obtain rfl:j=n:=by omega
   have H6:=Hq (H5.out.step a);have al:=Hq (Af G.out a);have an:=Hq (S.out.below a);obtain⟨A,ca,rfl,-⟩:=Dt.form f;clear a f
   go_wp2_with(first
    |with_reducible refine lL al.out Ar ?_
    |with_reducible refine lS (Ak s1 m) H6.out.Aq ?_)
   refine rT3 (.slice A (Hb u j).length ca) () H6.out.Aq Ar ?_;exact HQ.out s1 m a7 _ _ (an.out.other (t:=36) H6.out.Aq (by decide) (by decide) (by decide) _) aa.out (On (He H.out _ _ (by omega)) af.out.size) (H6.out.row 1 (Ak s1 m) _ rfl).below
end Go.Proofs.YtmfkhdhnbkambaaGreatDoor
