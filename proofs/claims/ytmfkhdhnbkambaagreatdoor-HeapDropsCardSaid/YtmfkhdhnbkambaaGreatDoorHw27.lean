import Derived.Test.YtmfkhdhnbkambaaGreatDoorHw00
import Derived.Test.YtmfkhdhnbkambaaGreatDoorHw07
set_option maxRecDepth 100000
set_option maxHeartbeats 16000000
set_option linter.unusedSimpArgs false
namespace Go.Proofs.YtmfkhdhnbkambaaGreatDoor
open Go.RowKit
def K7 (x:Tx.St×Int)(p:SP)(w:World)(e:Ending)(w':World):Prop:=
 ∃ p':SP,e= .returned (.tuple #[Ah x.1 p',x.2])∧Ei w' x.1 p'∧(p'.F=p.F∧p'.fn=p.fn∧p'.fc=p.fc)∧Bw w w'
abbrev P7 (lsn prev txn kind next:Int):Rc.Rec:=⟨lsn,prev,txn,kind,0,next,0,Rc.Jo,0,0,Rc.Ce,[],[]⟩
theorem eQ (s:Tx.St)(p:SP)(j:Tx.Z7 s)(af:s.txns.length≤800000)(b prev a kind next:Int)(w:World)(h:Ei w s p):
 Cq 197 #[Ah s p,.agg (Cn b prev a kind 0 next 0 0 0 ⟨#[]⟩ ⟨#[]⟩ 0 0 ⟨#[]⟩ 0 0 (.slice none 0 0) (.slice none 0 0))] w (K7 (Tx.Xb s (P7 b prev a kind next)) p w):=by
 have N:=Hq (fun W=>Su s.log j.e0 (by have:=j.e1;omega) (by have:=j.n0;omega) (by have:=j.n1;omega) (by have:=j.t0;have:=j.e1;omega) (P7 b prev a kind next) none none 0 0 W (O9 _ _ rfl rfl));have HS:=Hq h;have a6:∃ x,x=Tx.Xb s (P7 b prev a kind next)∧((Lg.As s.log (P7 b prev a kind next)).2.2=0→x=({s with log:=(Lg.As s.log (P7 b prev a kind next)).1,txns:=Tx.El s.txns (P7 (Lg.As s.log (P7 b prev a kind next)).2.1 prev a kind next)},0))∧(¬ (Lg.As s.log (P7 b prev a kind next)).2.2=0→x=(s,(Lg.As s.log (P7 b prev a kind next)).2.2)):=⟨_,rfl,(fun h0=>by unfold Tx.Xb;rw[if_pos h0]),(fun h0=>by unfold Tx.Xb;rw[if_neg h0])⟩;obtain⟨x,hx,q,r⟩:=a6;rw[← hx];clear hx;generalize Lg.As s.log (P7 b prev a kind next)=o at N q r;obtain⟨⟨d,f,ge,gs,gt⟩,n,e⟩:=o;simp only at q r;have t:=Hq (fun W (j:Bw w W)=>kJ s.txns (by omega) p.T p.tc (P7 n prev a kind next) none none 0 0 0 0 W (h.tx.below j));clear h j
 by_cases he:e=0
 ·subst he
  have HX:=Hq (q rfl);clear q r;have K:=Hq (fun(v:Option Addr) (y:Nat) w' (hs:Ei w' {s with log:=⟨d,f,ge,gs,gt⟩,txns:=Tx.El s.txns (P7 n prev a kind next)} ⟨p.A,p.c,p.F,p.fn,p.fc,v,y⟩) (j:Bw w w')=>show K7 x p w (.returned (.tuple #[Ah {s with log:=⟨d,f,ge,gs,gt⟩,txns:=Tx.El s.txns (P7 n prev a kind next)} ⟨p.A,p.c,p.F,p.fn,p.fc,v,y⟩,()])) w' from by rw[HX.out];exact⟨_,rfl,hs,⟨rfl,rfl,rfl⟩,j⟩);generalize K7 x p w=Q at K ⊢;have ag:=Tx.kD s.txns (P7 n prev a kind next);generalize Tx.El s.txns (P7 n prev a kind next)=ts2 at t K ag;obtain⟨z,B,C,⟨L,D,E⟩,⟨fr,ln,en,sf,tl⟩,G,O,H⟩:=s;obtain⟨A,c,I,fn,J,P,R⟩:=p;dsimp only[Ah,D9,D3,Nq,Rc.Jo,Rc.Ce,List.length_nil]at N t K ⊢;clear HX;go_enter Tryz.func197,Tryz.ntmps197;go_upto_region 1 with fail;have k:=Ol w #[z,B,C,.slice A L.length c,D,E,fr,ln,en,sf,tl,.slice I fn J,G,.slice P O.length R,H] 36 (Cn b prev a kind 0 next 0 0 0 ⟨#[]⟩ ⟨#[]⟩ 0 0 ⟨#[]⟩ 0 0 (.slice none 0 0) (.slice none 0 0)) 49 #[(),(),(),"s",(),false,(),(),(),(),"","s",(),"s",()] 36;obtain⟨W0,u⟩:=E0 k;rw[← u]at k ⊢;clear u
  go_upto_region 2 with(first
   |with_reducible refine lP #[fr,ln,en,sf,tl] k.out.Ao Jj ?_
   |with_reducible refine lL k.out.Aq C5 ?_
   |(go_at_call 127;(with_reducible refine(N.out _).mono ?_);rintro e w1 ⟨l,m⟩;dsimp only[Nq]at l;subst l)
   |with_reducible refine sN #[d,f,ge,gs,gt] ?_)
  have H1:=Hq (k.out.step (Aj (o:=.cells #[d,f,ge,gs,gt] 30) m));have HG:=Hq (heap_alloc_new w1 (.cells #[d,f,ge,gs,gt] 30));have ah:w.heap.size+3≤w1.heap.size:=Nat.le_trans (k.out.lt (i:=2) (by simp)) m.size;obtain⟨gb,S⟩:=ex w1.heap.size;obtain⟨W1,g⟩:=ex (w1.alloc (.cells #[d,f,ge,gs,gt] 30));rw[← S]at HG ah;rw[← g]at H1 HG;rw[← g,← S];clear S g m k N;have ai:=Aa H1.out.Aq;have aj:=Ap H1.out.Aq;go_upto_region 5 with fail;have H2:=Hq (H1.out.set 1 0 (.int .i64 n) _ rfl);have U:=Hq (show(W1.setCell ⟨w.heap.size+1,0,none⟩ (.int .i64 n)).heap[gb]? =some (.cells #[d,f,ge,gs,gt] 30 (0,0))from(Below.heap_setCell _ _ _ _ (by show gb≠w.heap.size+1;omega)).trans HG.out);obtain⟨W2,V⟩:=ex (W1.setCell ⟨w.heap.size+1,0,none⟩ (.int .i64 n));rw[← V]at H2 U;rw[← V];clear V ai aj H1 HG
  go_upto_region 6 with(first
   |with_reducible refine lL U.out Jj ?_
   |with_reducible refine lU #[d,f,ge,gs,gt] #[z,B,C,.slice A L.length c,D,E,d,f,ge,gs,gt,.slice I fn J,G,.slice P O.length R,H] H2.out.Ao ?_)
  have X:=Hq (H2.out.row 0 #[z,B,C,.slice A L.length c,D,E,d,f,ge,gs,gt,.slice I fn J,G,.slice P O.length R,H] _ rfl);simp only[Nat.add_zero]at X;obtain⟨W3,Y⟩:=ex (W2.setRow w.heap.size #[z,B,C,.slice A L.length c,D,E,d,f,ge,gs,gt,.slice I fn J,G,.slice P O.length R,H]);rw[← Y]at X;rw[← Y];clear Y H2 U;have ak:=Aa X.out.Ao
  go_upto_region 7 with(first
   |with_reducible refine lL X.out.Aq C5 ?_
   |(go_at_call 242;(with_reducible refine(t.out _ X.out.below).mono ?_);rintro e w4 ⟨v,y,rfl,a7,a8,aa⟩;have M:=Hq (X.out.step aa);have al:=Aa M.out.Ao;have an:=Ap M.out.Ao;clear ak))
  have ad:=Hq (show Ei w4 ⟨z,B,C,⟨L,D,E⟩,⟨d,f,ge,gs,gt⟩,G,ts2,H⟩ ⟨A,c,I,fn,J,v,y⟩from⟨HS.out.dk.below M.out.below,HS.out.dt.below M.out.below,a7,a8.elim (fun e=>by rw[e];exact HS.out.tt.below M.out.below) (fun e=>e.mono (Nat.zero_le _))⟩);have ae:=Hq (ad.out.set M.out.Ao (by decide) (by decide) 13 (.slice v ts2.length y));have Z:=Hq (M.out.set 0 13 (.slice v ts2.length y) _ rfl);simp only[Nat.add_zero]at Z;obtain⟨W5,a1⟩:=ex (w4.setCell ⟨w.heap.size,13,none⟩ (.slice v ts2.length y));rw[← a1]at Z ae;rw[← a1];clear a1 al an M ad a7 a8 aa X HS t
  go_wp2_with(first
   |with_reducible refine lL Z.out.Ao Ar ?_
   |with_reducible refine lS #[z,B,C,.slice A L.length c,D,E,d,f,ge,gs,gt,.slice I fn J,G,.slice v ts2.length y,H] Z.out.Cd ?_)
  refine rT2 () Z.out.Cd Ar ?_;exact K.out v y _ (ae.out.other Z.out.Cd (by decide) (by decide) _) ((Z.out.row 2 _ _ rfl).below)
 ·have HX:=Hq (r he)
  have l:(e==0)=false:=by simpa using he
  have ao:(e != 0)=true:=by simpa using he
  clear q r he t;have K:=Hq (fun w' (j:Bw w w')=>show K7 x p w (.returned (.tuple #[Ah s p,e])) w' from by rw[HX.out];exact⟨_,rfl,HS.out.below j,⟨rfl,rfl,rfl⟩,j⟩);generalize K7 x p w=Q at K ⊢;clear HX HS af;obtain⟨z,B,C,⟨L,D,E⟩,⟨fr,ln,en,sf,tl⟩,G,O,H⟩:=s;obtain⟨A,c,I,fn,J,P,R⟩:=p;dsimp only[Ah,D9,D3,Nq,Rc.Jo,Rc.Ce,List.length_nil]at N K ⊢;go_enter Tryz.func197,Tryz.ntmps197;go_upto_region 1 with fail;have k:=Ol w #[z,B,C,.slice A L.length c,D,E,fr,ln,en,sf,tl,.slice I fn J,G,.slice P O.length R,H] 36 (Cn b prev a kind 0 next 0 0 0 ⟨#[]⟩ ⟨#[]⟩ 0 0 ⟨#[]⟩ 0 0 (.slice none 0 0) (.slice none 0 0)) 49 #[(),(),(),"s",(),false,(),(),(),(),"","s",(),"s",()] 36;obtain⟨W0,u⟩:=E0 k;rw[← u]at k ⊢;clear u
  go_upto_region 2 with(first
   |with_reducible refine lP #[fr,ln,en,sf,tl] k.out.Ao Jj ?_
   |with_reducible refine lL k.out.Aq C5 ?_
   |(go_at_call 127;(with_reducible refine(N.out _).mono ?_);rintro e1 w1 ⟨l,m⟩;dsimp only[Nq]at l;subst l)
   |with_reducible refine sN #[d,f,ge,gs,gt] ?_)
  have H1:=Hq (k.out.step (Aj (o:=.cells #[d,f,ge,gs,gt] 30) m));obtain⟨W1,g⟩:=ex (w1.alloc (.cells #[d,f,ge,gs,gt] 30));rw[← g]at H1;rw[← g];clear g m k N
  go_wp2_with(first
   |with_reducible refine lL H1.out.Ao Ar ?_
   |with_reducible refine lS #[z,B,C,.slice A L.length c,D,E,fr,ln,en,sf,tl,.slice I fn J,G,.slice P O.length R,H] H1.out.Cd ?_)
  refine rT2 e H1.out.Cd Ar ?_;exact K.out _ ((H1.out.row 2 _ _ rfl).below)
end Go.Proofs.YtmfkhdhnbkambaaGreatDoor
namespace Tx
theorem mG {s:St}{n:Int}{a:Bool}{r:Rc.Rec}(h:(Ha s n).2=false):O8 s n a r=(s,21):=by unfold O8;rw[if_pos h]
theorem mH {s:St}{n:Int}{a:Bool}{r:Rc.Rec}(h:(Ha s n).2=true)(b:a=true)(c:(Ha s n).1.done=true):O8 s n a r=(s,17):=by unfold O8;rw[if_neg (by rw[h];simp),if_pos ⟨b,c⟩]
theorem tS {s:St}{n:Int}{a:Bool}{r:Rc.Rec}(h:(Ha s n).2=true)(b:¬ (a=true∧(Ha s n).1.done=true)):O8 s n a r=Xb s {r with txn:=n,prev:=(Ha s n).1.last}:=by unfold O8;rw[if_neg (by rw[h];simp),if_neg b]
end Tx
namespace Go.Proofs.YtmfkhdhnbkambaaGreatDoor
open Go.RowKit
theorem Nn {w:World}{g b j:Nat}{v:Value}{o:Obj}(h:w.heap[g]? =some o)(a:g≠b):(w.setCell ⟨b,j,none⟩ v).heap[g]? =some o:=(Below.heap_setCell _ _ _ _ a).trans h
theorem qR (s:Tx.St)(p:SP)(J:Tx.Z7 s)(ae:s.txns.length≤800000)(n:Int)(r:Bool)(a prev txn kind next:Int)(w:World)(h:Ei w s p):
 Cq 156 #[Ah s p,n,r,.agg (Cn a prev txn kind 0 next 0 0 0 ⟨#[]⟩ ⟨#[]⟩ 0 0 ⟨#[]⟩ 0 0 (.slice none 0 0) (.slice none 0 0))] w (K7 (Tx.O8 s n r (P7 a prev txn kind next)) p w):=by
 have q:=Hq (fun W (J:Bw w W)=>Vc s p n ae W (h.below J));have HS:=Hq h;have hN:= @Tx.mG s n r (P7 a prev txn kind next);have hD:= @Tx.mH s n r (P7 a prev txn kind next);have hG:= @Tx.tS s n r (P7 a prev txn kind next);generalize Tx.Ha s n=x at q hN hD hG;obtain⟨⟨C,m,D,I⟩,ok⟩:=x;simp only at q hN hD hG;have H:=Hq (fun W (hw:Bw w W)=>eQ s p J ae a m n kind next W (h.below hw));have HK:=Hq (fun k w' (hx:Tx.O8 s n r (P7 a prev txn kind next)=(s,k)) (J:Bw w w')=>show K7 (Tx.O8 s n r (P7 a prev txn kind next)) p w (.returned (.tuple #[Ah s p,k])) w' from by rw[hx];exact⟨_,rfl,h.below J,⟨rfl,rfl,rfl⟩,J⟩);have HM:=Hq (fun y (M:SP) w' (hx:Tx.O8 s n r (P7 a prev txn kind next)=y) (hs:Ei w' y.1 M) (hf:M.F=p.F∧M.fn=p.fn∧M.fc=p.fc) (J:Bw w w')=>show K7 (Tx.O8 s n r (P7 a prev txn kind next)) p w (.returned (.tuple #[Ah y.1 M,y.2])) w' from by rw[hx];exact⟨_,rfl,hs,hf,J⟩);generalize Tx.O8 s n r (P7 a prev txn kind next)=R at*;generalize K7 R p w=Q at*;clear h J ae
 cases ok with
 |false=>
  have HX:=Hq (hN rfl);clear hN hD hG H HM HS;obtain⟨zl,zp,zf,⟨L,lf,dn⟩,⟨fr,ln,en,sf,tl⟩,hd,ts,nx⟩:=s;obtain⟨A,c,FA,fn,fc,TA,tc⟩:=p;dsimp only[Ah]at q HK ⊢;go_enter Tryz.func156,Tryz.ntmps156;go_upto_region 1 with fail;have d:=Ol w #[zl,zp,zf,.slice A L.length c,lf,dn,fr,ln,en,sf,tl,.slice FA fn fc,hd,.slice TA ts.length tc,nx] 36 (Cn a prev txn kind 0 next 0 0 0 ⟨#[]⟩ ⟨#[]⟩ 0 0 ⟨#[]⟩ 0 0 (.slice none 0 0) (.slice none 0 0)) 49 #[(),(),(),"s",(),false,(),(),(),(),"","s",(),"s",()] 36;obtain⟨W0,t⟩:=E0 d;rw[← t]at d ⊢;clear t
  go_upto_region 2 with(first
   |with_reducible refine lL d.out.Ao Ar ?_
   |(go_at_call 154;(with_reducible refine(q.out _ d.out.below).mono ?_);rintro e z ⟨rfl,f⟩)
   |with_reducible refine sN #[C,m,D,I] ?_)
  have H1:=Hq (d.out.step (Aj (o:=.cells #[C,m,D,I] 59) f));have B:=Hq (heap_alloc_new z (.cells #[C,m,D,I] 59));have E:w.heap.size+3≤z.heap.size:=Nat.le_trans (d.out.lt (i:=2) (by simp)) f.size;obtain⟨gb,g⟩:=ex z.heap.size;obtain⟨W1,l⟩:=ex (z.alloc (.cells #[C,m,D,I] 59));rw[← g]at B E;rw[← l]at H1 B;rw[← l,← g];clear g l f d q;have N:=Aa B.out
  go_wp2_with(first
   |with_reducible refine lL H1.out.Ao Ar ?_
   |with_reducible refine lS #[zl,zp,zf,.slice A L.length c,lf,dn,fr,ln,en,sf,tl,.slice FA fn fc,hd,.slice TA ts.length tc,nx] H1.out.Cd ?_)
  refine rT2 (.int .i64 21) H1.out.Cd Ar ?_;exact HK.out 21 _ HX.out ((H1.out.row 2 _ _ rfl).below)
 |true=>
  by_cases O:r=true∧I=true
  ·have HX:=Hq (hD rfl O.1 O.2)
   obtain⟨rfl,rfl⟩:=O;clear hN hD hG H HM HS;obtain⟨zl,zp,zf,⟨L,lf,dn⟩,⟨fr,ln,en,sf,tl⟩,hd,ts,nx⟩:=s;obtain⟨A,c,FA,fn,fc,TA,tc⟩:=p;dsimp only[Ah]at q HK ⊢;go_enter Tryz.func156,Tryz.ntmps156;go_upto_region 1 with fail;have d:=Ol w #[zl,zp,zf,.slice A L.length c,lf,dn,fr,ln,en,sf,tl,.slice FA fn fc,hd,.slice TA ts.length tc,nx] 36 (Cn a prev txn kind 0 next 0 0 0 ⟨#[]⟩ ⟨#[]⟩ 0 0 ⟨#[]⟩ 0 0 (.slice none 0 0) (.slice none 0 0)) 49 #[(),(),(),"s",(),false,(),(),(),(),"","s",(),"s",()] 36;obtain⟨W0,t⟩:=E0 d;rw[← t]at d ⊢;clear t
   go_upto_region 2 with(first
    |with_reducible refine lL d.out.Ao Ar ?_
    |(go_at_call 154;(with_reducible refine(q.out _ d.out.below).mono ?_);rintro e z ⟨rfl,f⟩)
    |with_reducible refine sN #[C,m,D,true] ?_)
   have H1:=Hq (d.out.step (Aj (o:=.cells #[C,m,D,true] 59) f));have B:=Hq (heap_alloc_new z (.cells #[C,m,D,true] 59));have E:w.heap.size+3≤z.heap.size:=Nat.le_trans (d.out.lt (i:=2) (by simp)) f.size;obtain⟨gb,g⟩:=ex z.heap.size;obtain⟨W1,l⟩:=ex (z.alloc (.cells #[C,m,D,true] 59));rw[← g]at B E;rw[← l]at H1 B;rw[← l,← g];clear g l f d q;have N:=Aa B.out
   go_wp2_with(first
    |with_reducible refine lL H1.out.Ao Ar ?_
    |with_reducible refine lS #[zl,zp,zf,.slice A L.length c,lf,dn,fr,ln,en,sf,tl,.slice FA fn fc,hd,.slice TA ts.length tc,nx] H1.out.Cd ?_)
   refine rT2 (.int .i64 17) H1.out.Cd Ar ?_;exact HK.out 17 _ HX.out ((H1.out.row 2 _ _ rfl).below)
  ·have hx:=hG rfl O
   clear hN hD hG HK;have hy:({P7 a prev txn kind next with txn:=n,prev:=m}:Rc.Rec)=P7 a m n kind next:=rfl;rw[hy]at hx;generalize Tx.Xb s (P7 a m n kind next)=y at H hx;subst hx;have af:=Hq (fun(M:SP) w' hs hf J=>HM.out R M w' rfl hs hf J);clear hy HM;obtain⟨⟨aj,ak,al,⟨L2,an,ao⟩,⟨aq,ar,au,av,aw⟩,ax,ay,az⟩,e2⟩:=R;obtain⟨zl,zp,zf,⟨L,lf,dn⟩,⟨fr,ln,en,sf,tl⟩,hd,ts,nx⟩:=s;obtain⟨A,c,FA,fn,fc,TA,tc⟩:=p;dsimp only[Ah]at q H af ⊢
   cases r with
   |false=>
    go_enter Tryz.func156,Tryz.ntmps156;go_upto_region 1 with fail;have d:=Ol w #[zl,zp,zf,.slice A L.length c,lf,dn,fr,ln,en,sf,tl,.slice FA fn fc,hd,.slice TA ts.length tc,nx] 36 (Cn a prev txn kind 0 next 0 0 0 ⟨#[]⟩ ⟨#[]⟩ 0 0 ⟨#[]⟩ 0 0 (.slice none 0 0) (.slice none 0 0)) 49 #[(),(),(),"s",(),false,(),(),(),(),"","s",(),"s",()] 36;obtain⟨W0,t⟩:=E0 d;rw[← t]at d ⊢;clear t
    go_upto_region 2 with(first
     |with_reducible refine lL d.out.Ao Ar ?_
     |(go_at_call 154;(with_reducible refine(q.out _ d.out.below).mono ?_);rintro e z ⟨rfl,f⟩)
     |with_reducible refine sN #[C,m,D,I] ?_)
    have H1:=Hq (d.out.step (Aj (o:=.cells #[C,m,D,I] 59) f));have B:=Hq (heap_alloc_new z (.cells #[C,m,D,I] 59));have E:w.heap.size+3≤z.heap.size:=Nat.le_trans (d.out.lt (i:=2) (by simp)) f.size;obtain⟨gb,g⟩:=ex z.heap.size;obtain⟨W1,l⟩:=ex (z.alloc (.cells #[C,m,D,I] 59));rw[← g]at B E;rw[← l]at H1 B;rw[← l,← g];clear g l f d q;have N:=Aa B.out;go_upto_region 6 with fail;have X0:=Af B.out (Below.refl _ W1).drew;have P:=H1.out.drew;refine G7 (S:=(fun u=>u.heap[gb]? =some (.cells #[C,m,D,I] 59 (0,0)))) (fun b=>?_);generalize W1.drew=V0 at b X0 P ⊢;refine Bb 0 ?_;refine Bb 1 ?_;refine Bb 2 ?_;refine Bb 3 ?_;refine Dg 4 fun K T=>?_;have U:=Aa P.Aq;have V:=Ap P.Aq
    go_simp
    have K1:=P.set 1 2 (.int .i64 n) _ rfl;have X1:=Nn (j:=2) (v:=.int .i64 n) X0 (show gb≠w.heap.size+1 by omega)
    try clear hSn
    have hSn:=X1;refine Cw T (fun b=>?_);clear T K;refine Bb 5 ?_;refine Dg 6 fun K T=>?_;have X:=Aa K1.Aq;have Y:=Ap K1.Aq
    go_simp
    have K2:=K1.set 1 1 (.int .i64 m) _ rfl;have X2:=Nn (j:=1) (v:=.int .i64 m) X1 (show gb≠w.heap.size+1 by omega)
    try clear hSn
    have hSn:=X2;refine Cw T (fun b=>?_);clear T K;refine wpAnyH_done Kr ?_ _;clear b hSn;have Z:=Hq (show Eg w.heap.size w [(#[zl,zp,zf,.slice A L.length c,lf,dn,fr,ln,en,sf,tl,.slice FA fn fc,hd,.slice TA ts.length tc,nx],36),((Cn a m n kind 0 next 0 0 0 ⟨#[]⟩ ⟨#[]⟩ 0 0 ⟨#[]⟩ 0 0 (.slice none 0 0) (.slice none 0 0)),49),(#[(),(),(),"s",(),false,(),(),(),(),"","s",(),"s",()],36)] _ from K2);obtain⟨W2,G⟩:=ex ((V0.setCell ⟨w.heap.size+1,2,none⟩ (.int .i64 n)).setCell ⟨w.heap.size+1,1,none⟩ (.int .i64 m));rw[← G]at Z;rw[← G];clear G X0 X1 X2 P K1 K2 U V X Y N H1 B
    go_wp2_with(first
     |with_reducible refine lL Z.out.Ao Ar ?_
     |with_reducible refine lL Z.out.Aq C5 ?_
     |(go_at_call 197;(with_reducible refine(H.out _ Z.out.below).mono ?_);rintro e w5 ⟨M,he,ag,a1,ah⟩;have ai:=Hq a1;clear a1;obtain⟨A2,c2,a6,a7,a8,aa,ad⟩:=M;(try dsimp only[Ah]at he);subst he;have H5:=Hq (Z.out.step ah))
     |with_reducible refine lS #[aj,ak,al,.slice A2 L2.length c2,an,ao,aq,ar,au,av,aw,.slice a6 a7 a8,ax,.slice aa ay.length ad,az] H5.out.Cd ?_)
    refine rT2 e2 H5.out.Cd Ar ?_;exact af.out ⟨A2,c2,a6,a7,a8,aa,ad⟩ _ (ag.other H5.out.Cd (by decide) (by decide) _) ai.out ((H5.out.row 2 _ _ rfl).below)
   |true=>
    have b0:I=false:=by
     cases I with
     |false=>rfl
     |true=>exact absurd ⟨rfl,rfl⟩ O
    subst b0;go_enter Tryz.func156,Tryz.ntmps156;go_upto_region 1 with fail;have d:=Ol w #[zl,zp,zf,.slice A L.length c,lf,dn,fr,ln,en,sf,tl,.slice FA fn fc,hd,.slice TA ts.length tc,nx] 36 (Cn a prev txn kind 0 next 0 0 0 ⟨#[]⟩ ⟨#[]⟩ 0 0 ⟨#[]⟩ 0 0 (.slice none 0 0) (.slice none 0 0)) 49 #[(),(),(),"s",(),false,(),(),(),(),"","s",(),"s",()] 36;obtain⟨W0,t⟩:=E0 d;rw[← t]at d ⊢;clear t
    go_upto_region 2 with(first
     |with_reducible refine lL d.out.Ao Ar ?_
     |(go_at_call 154;(with_reducible refine(q.out _ d.out.below).mono ?_);rintro e z ⟨rfl,f⟩)
     |with_reducible refine sN #[C,m,D,false] ?_)
    have H1:=Hq (d.out.step (Aj (o:=.cells #[C,m,D,false] 59) f));have B:=Hq (heap_alloc_new z (.cells #[C,m,D,false] 59));have E:w.heap.size+3≤z.heap.size:=Nat.le_trans (d.out.lt (i:=2) (by simp)) f.size;obtain⟨gb,g⟩:=ex z.heap.size;obtain⟨W1,l⟩:=ex (z.alloc (.cells #[C,m,D,false] 59));rw[← g]at B E;rw[← l]at H1 B;rw[← l,← g];clear g l f d q;have N:=Aa B.out;go_upto_region 6 with fail;have X0:=Af B.out (Below.refl _ W1).drew;have P:=H1.out.drew;refine G7 (S:=(fun u=>u.heap[gb]? =some (.cells #[C,m,D,false] 59 (0,0)))) (fun b=>?_);generalize W1.drew=V0 at b X0 P ⊢;refine Bb 0 ?_;refine Bb 1 ?_;refine Bb 2 ?_;refine Bb 3 ?_;refine Dg 4 fun K T=>?_;have U:=Aa P.Aq;have V:=Ap P.Aq
    go_simp
    have K1:=P.set 1 2 (.int .i64 n) _ rfl;have X1:=Nn (j:=2) (v:=.int .i64 n) X0 (show gb≠w.heap.size+1 by omega)
    try clear hSn
    have hSn:=X1;refine Cw T (fun b=>?_);clear T K;refine Bb 5 ?_;refine Dg 6 fun K T=>?_;have X:=Aa K1.Aq;have Y:=Ap K1.Aq
    go_simp
    have K2:=K1.set 1 1 (.int .i64 m) _ rfl;have X2:=Nn (j:=1) (v:=.int .i64 m) X1 (show gb≠w.heap.size+1 by omega)
    try clear hSn
    have hSn:=X2;refine Cw T (fun b=>?_);clear T K;refine wpAnyH_done Kr ?_ _;clear b hSn;have Z:=Hq (show Eg w.heap.size w [(#[zl,zp,zf,.slice A L.length c,lf,dn,fr,ln,en,sf,tl,.slice FA fn fc,hd,.slice TA ts.length tc,nx],36),((Cn a m n kind 0 next 0 0 0 ⟨#[]⟩ ⟨#[]⟩ 0 0 ⟨#[]⟩ 0 0 (.slice none 0 0) (.slice none 0 0)),49),(#[(),(),(),"s",(),false,(),(),(),(),"","s",(),"s",()],36)] _ from K2);obtain⟨W2,G⟩:=ex ((V0.setCell ⟨w.heap.size+1,2,none⟩ (.int .i64 n)).setCell ⟨w.heap.size+1,1,none⟩ (.int .i64 m));rw[← G]at Z;rw[← G];clear G X0 X1 X2 P K1 K2 U V X Y N H1 B
    go_wp2_with(first
     |with_reducible refine lL Z.out.Ao Ar ?_
     |with_reducible refine lL Z.out.Aq C5 ?_
     |(go_at_call 197;(with_reducible refine(H.out _ Z.out.below).mono ?_);rintro e w5 ⟨M,he,ag,a1,ah⟩;have ai:=Hq a1;clear a1;obtain⟨A2,c2,a6,a7,a8,aa,ad⟩:=M;(try dsimp only[Ah]at he);subst he;have H5:=Hq (Z.out.step ah))
     |with_reducible refine lS #[aj,ak,al,.slice A2 L2.length c2,an,ao,aq,ar,au,av,aw,.slice a6 a7 a8,ax,.slice aa ay.length ad,az] H5.out.Cd ?_)
    refine rT2 e2 H5.out.Cd Ar ?_;exact af.out ⟨A2,c2,a6,a7,a8,aa,ad⟩ _ (ag.other H5.out.Cd (by decide) (by decide) _) ai.out ((H5.out.row 2 _ _ rfl).below)
end Go.Proofs.YtmfkhdhnbkambaaGreatDoor
namespace Tx
end Tx
namespace Go.Proofs.YtmfkhdhnbkambaaGreatDoor
open Go.RowKit
theorem mI (s:Tx.St)(p:SP)(b:Tx.Z7 s)(d:s.txns.length≤800000)(n m:Int)(w:World)(h:Ei w s p):
 Cq 114 #[Ah s p,n,m] w (K7 (Tx.Tb s n m) p w):=by
 have v:=Hq (fun W (X:Bw w W)=>show Cq 156 #[Ah s p,n,true,.agg (Cn 0 0 0 4 0 m 0 0 0 ⟨#[]⟩ ⟨#[]⟩ 0 0 ⟨#[]⟩ 0 0 (.slice none 0 0) (.slice none 0 0))] W (K7 (Tx.Tb s n m) p W)from qR s p b d n true 0 0 0 4 m W (h.below X));have t:=Hq (fun y (a:SP) w' (Y:Tx.Tb s n m=y) (x:Ei w' y.1 a) (z:a.F=p.F∧a.fn=p.fn∧a.fc=p.fc) (b:Bw w w')=>show K7 (Tx.Tb s n m) p w (.returned (.tuple #[Ah y.1 a,y.2])) w' from by rw[Y];exact⟨_,rfl,x,z,b⟩);generalize Tx.Tb s n m=y at v t ⊢;generalize K7 y p w=Q at t ⊢;have f:=Hq (fun(a:SP) w' x z b=>t.out y a w' rfl x z b);clear h b d t;obtain⟨⟨B,C,D,⟨Z,E,G⟩,⟨H,I,J,K,M⟩,N,O,P⟩,e2⟩:=y;obtain⟨zl,zp,zf,⟨L,lf,dn⟩,⟨fr,ln,en,sf,tl⟩,hd,ts,nx⟩:=s;obtain⟨A,c,FA,fn,fc,TA,tc⟩:=p;dsimp only[Ah]at v f ⊢;go_enter Tryz.func114,Tryz.ntmps114;go_upto_region 1 with fail;have g:=Lx w #[zl,zp,zf,.slice A L.length c,lf,dn,fr,ln,en,sf,tl,.slice FA fn fc,hd,.slice TA ts.length tc,nx] 36 #[(),(),(),"s",(),false,(),(),(),(),"","s",(),"s",()] 36;obtain⟨W0,i⟩:=E0 g;rw[← i]at g ⊢;clear i
 go_wp2_with(first
  |with_reducible refine lL g.out.Ao Ar ?_
  |(go_at_call 156;(with_reducible refine(v.out _ g.out.below).mono ?_);rintro e w5 ⟨a,U,R,j,S⟩;have T:=Hq j;clear j;obtain⟨V,c2,k,l,o,q,r⟩:=a;(try dsimp only[Ah]at U);subst U;have u:=Hq (g.out.step S))
  |with_reducible refine lS #[B,C,D,.slice V Z.length c2,E,G,H,I,J,K,M,.slice k l o,N,.slice q O.length r,P] u.out.Aq ?_)
 refine rT2 e2 u.out.Aq Ar ?_;exact f.out ⟨V,c2,k,l,o,q,r⟩ _ (R.other u.out.Aq (by decide) (by decide) _) T.out ((u.out.row 1 _ _ rfl).below)
end Go.Proofs.YtmfkhdhnbkambaaGreatDoor
