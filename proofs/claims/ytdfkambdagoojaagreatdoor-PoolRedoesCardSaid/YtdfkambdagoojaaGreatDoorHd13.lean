import Derived.Test.YtdfkambdagoojaaGreatDoorHd00
import Derived.Test.YtdfkambdagoojaaGreatDoorHd11
import Derived.Lib.ConvBytes
import Derived.Lib.AppendStr
import Derived.Lib.FrozenHead
import Derived.Deep.MidRow
import Derived.Lib.LazyBuf
import Derived.Test.YtdfkambdagoojaaGreatDoorHd01
import Derived.Test.YtdfkambdagoojaaGreatDoorHd12
import Derived.BigRegion
import Derived.Test.YtdfkambdagoojaaGreatDoorHd06
import Derived.Test.YtdfkambdagoojaaGreatDoorHd09
import Derived.Test.YtdfkambdagoojaaGreatDoorHd08
import Derived.BigQuiet
set_option maxRecDepth 100000
set_option maxHeartbeats 16000000
set_option linter.unusedSimpArgs false
namespace Go.Proofs.YtdfkambdagoojaaGreatDoor
open Go.RowKit
theorem sO {P:Program}{w:World}(t u ty e:TypeId)(i:TypeInfo)(Q:P.underlying t=some (.slice e))(R:P.underlying u=some .string)(hi:P.info? e=some i)(T:i.zero=some (.int .u8 0))(p:i.size=1)(I:i.bytes=1)
 {B:Nat} {v:Value} {l:List UInt8} (h:M8 B w v l) (s:ByteArray) (hlen:l.length+s.size≤140737488355328) (S:B≤w.heap.size):
 ∃ v' w',(Builtin.append_ #[t,u] ty #[v,s]).run P w= .ok v' w'∧M8 B w' v' (l++s.data.toList)∧Below B w w':=by
 obtain⟨g,cap,rfl,C,U,V,J,q,r⟩:=h;have b:s.data.toList.length=s.size:=by simp
 have D:(Lib.strCells s).length=s.size:=Lib.strCells_length s;have y:∀ (j:Nat) (c:j<s.size),(Lib.strCells s)[j]? =some (.int .u8 ((s.data.toList[j]'(by rw[b];exact c)).toNat:Int)):=fun j c=>by
  unfold Lib.strCells;rw[List.getElem?_map,List.getElem?_eq_getElem (by rw[b];exact c)]
  rfl
 by_cases z:l.length+s.size≤cap
 ·have W:=Lib.run_firstCells_string (P:=P) w 1 s
  have E:=run_storeCells_cells (P:=P) g l.length (Lib.strCells s) 0 w (fun j c=>(q _ (by omega)).1) (fun j c=>(q _ (by omega)).2) (Lib.strCells_oneCell s);simp only[Nat.add_zero]at E;refine⟨.slice (some ⟨g,0,none⟩) (l.length+s.size) cap,w.setCells g l.length (Lib.strCells s),?_,⟨g,cap,by rw[List.length_append,b],C,?_,by rw[List.length_append,b];exact z,J,fun j c=>⟨?_,?_⟩,fun j c=>?_⟩,?_⟩
  ·simp[Builtin.append_,run_underlying Q,run_underlying R,sizeOf,typeInfo,hi,p,Builtin.lenOf,z,W,Addr.add_lit,E]
  ·exact Nat.lt_of_lt_of_le U (below_setCells (B:=B) (a:=w) C _ _ _ (Below.refl _ _)).size
  ·exact World.isSome_setCells g _ _ _ _ (q j c).1
  ·rw[World.frozen?_setCells];exact(q j c).2
  ·rw[List.length_append,b]at c
   by_cases n:j<l.length
   ·rw[World.cell?_setCells_out g _ _ _ _ (fun _ _=>.inl n),List.getElem_append_left n]
    exact r j n
   ·obtain⟨m,rfl⟩:∃ m,j=l.length+m:=⟨j-l.length,by omega⟩
    have K:m<s.size:=(by omega);rw[World.cell?_setCells_in g _ _ _ (fun k Z=>(q _ (by omega)).1) m (by omega)];have H:=y m K;rw[List.getElem?_eq_getElem (by omega)]at H;rw[List.getElem_append_right (by omega)]
    simpa using H
  ·exact below_setCells (B:=B) (a:=w) C _ _ _ (Below.refl _ _)
 ·obtain⟨o,L⟩:=ex (Lib.byteCells l)
  have d:o.length=l.length:=by rw[L];exact Lib.byteCells_length l
  have X:=Lib.run_append_grow_string (P:=P) w t u ty e i (.int .u8 0) Q R hi T ⟨g,0,none⟩ l.length cap o (by rw[p,d,Nat.mul_one]) (fun j x F=>by
   have c:j<l.length:=(by rw[← d];exact(List.getElem?_eq_some_iff.1 F).1);have Y:(⟨g,0,none⟩:Addr).add j=⟨g,j,none⟩:=(by rw[Addr.add_mid,Nat.zero_add]);rw[Y,r j c];rw[L]at F;unfold Lib.byteCells at F;rw[List.getElem?_map,List.getElem?_eq_getElem c]at F
   simpa using F) s (by omega) (by omega) (by rw[I];exact growslice_fits (by omega) (by omega))
  have M:=grownCap_ge w (l.length+s.size) cap e;have G:=grownCap_le_maxLen w (l.length+s.size) cap e (by simp only[maxLen];omega);have N:(Builtin.zeroCells (Value.int IntKind.u8 0).cells (grownCap w (l.length+s.size) cap e-(l.length+s.size))).size=grownCap w (l.length+s.size) cap e-(l.length+s.size):=by
   rw[size_zeroCells];show _*1=_;omega
  have f:=heap_alloc_new w.drew (.cells (o.toArray++(Lib.strCells s).toArray++Builtin.zeroCells (Value.int IntKind.u8 0).cells (grownCap w (l.length+s.size) cap e-(l.length+s.size))) e);have A:(o.toArray++(Lib.strCells s).toArray++Builtin.zeroCells (Value.int IntKind.u8 0).cells (grownCap w (l.length+s.size) cap e-(l.length+s.size))).size=grownCap w (l.length+s.size) cap e:=by
   rw[Array.size_append,Array.size_append,N,List.size_toArray,List.size_toArray,d,D];omega
  have O:w.drew.heap.size=w.heap.size:=rfl;rw[O]at f;refine⟨_,_,X,⟨w.heap.size,_,by rw[List.length_append,b],S,?_,by rw[List.length_append,b];exact M,G,fun j c=>⟨?_,?_⟩,fun j c=>?_⟩,?_⟩
  ·exact C8 f
  ·rw[Aa f,Array.getElem?_eq_getElem (by rw[A];exact c)];rfl
  ·exact Aj f j
  ·rw[List.length_append,b]at c
   rw[Aa f]
   by_cases n:j<l.length
   ·rw[List.getElem_append_left n,Array.getElem?_append_left (by rw[Array.size_append,List.size_toArray,List.size_toArray,d];omega),Array.getElem?_append_left (by rw[List.size_toArray,d];exact n),List.getElem?_toArray,L]
    unfold Lib.byteCells;rw[List.getElem?_map,List.getElem?_eq_getElem n];rfl
   ·obtain⟨m,rfl⟩:∃ m,j=l.length+m:=⟨j-l.length,by omega⟩
    have K:m<s.size:=(by omega);rw[Array.getElem?_append_left (by rw[Array.size_append,List.size_toArray,List.size_toArray,d,D];omega),Array.getElem?_append_right (by rw[List.size_toArray,d];omega),List.size_toArray,d,List.getElem?_toArray,List.getElem_append_right (by omega)];have H:=y m K;simp only[Nat.add_sub_cancel_left];rw[H]
  ·exact((Below.refl B w).drew).alloc (by show B≤w.heap.size;exact S) _
theorem Tt {P:Program}{o:Oper}{a:Act}{K:Act→World→Prop}{Q:Exit→Act→World→Prop}(w:World)(s x:Operand)(t u e:TypeId)
 (j:P.underlying t=some (.slice e)) (k:P.underlying u=some .string) (hi:(P.info? e).map (fun i=>(i.zero,i.size,i.bytes))=some (some (.int .u8 0),1,1))
 (m:o.op= .call {callee:=.builtin .append,args:=#[s,x],argTypes:=#[t,u]})
 (B:Nat) (v:Value) (l:List UInt8) (n:a.eval s=v) (c:M8 B w v l) (b:ByteArray) (p:a.eval x= .string b) (hlen:l.length+b.size≤140737488355328) (q:B≤w.heap.size)
 (h:∀ v' w',M8 B w' v' (l++b.data.toList)→Below B w w'→K (a.put o.dst v') w'):o.wp P a w K Q:=by
 obtain⟨i0,hi,d,f,g⟩:=info_parts hi;obtain⟨v',w',r,y,z⟩:=sO (P:=P) (w:=w) t u o.type e i0 j k hi d f g c b hlen q;unfold Oper.wp execOp;simp only[m,resolve,invoke,builtin,Sem.run_bind,Sem.run_pure,Result.andThen_ok,List.map_toArray,List.map_cons,List.map_nil,n,p,r];exact h v' w' y z
theorem dA {P:Program}{ops:Array Oper}{rest:List Oper}{o:Oper}{a:Act}{Q:Exit→Act→World→Prop}{w:World}(d:Region.wanted o (yielded ops a.tmps)=true)(s x:Operand)(t u e:TypeId)
 (f:P.underlying t=some (.slice e)) (g:P.underlying u=some .string) (hi:(P.info? e).map (fun i=>(i.zero,i.size,i.bytes))=some (some (.int .u8 0),1,1))
 (j:o.op= .call {callee:=.builtin .append,args:=#[s,x],argTypes:=#[t,u]})
 (B:Nat) (v:Value) (l:List UInt8) (k:a.eval s=v) (c:M8 B w v l) (b:ByteArray) (m:a.eval x= .string b) (hlen:l.length+b.size≤140737488355328) (n:B≤w.heap.size)
 (h:∀ v' w',M8 B w' v' (l++b.data.toList)→Below B w w'→wpList P ops Q rest (a.put o.dst v') w'):wpList P ops Q (o::rest) a w:=
 Dr d fun _ p=>Tt w s x t u e f g hi j B v l k c b m hlen n (fun v' w' a b=>p _ _ (h v' w' a b))
end Go.Proofs.YtdfkambdagoojaaGreatDoor
namespace Rc
theorem nW (a b c:Int):Mq ⟨a,b,c,true⟩=p a 6++(p b 6++(p c 6++p 1 1)):=rfl
theorem gX (a b c:Int):Mq ⟨a,b,c,false⟩=p a 6++(p b 6++(p c 6++p 0 1)):=rfl
theorem Om (l:List UInt8):(mk l).data.toList=l:=by unfold mk;rfl
theorem Rp {α:Type}(f:α→List UInt8)(l:List α)(k:Nat)(h:k<l.length):(l.take (k+1)).flatMap f=(l.take k).flatMap f++f l[k]:=by
 rw[List.take_add_one,List.getElem?_eq_getElem h,List.flatMap_append]
 simp
end Rc
namespace Go.Proofs.YtdfkambdagoojaaGreatDoor
open Go.RowKit
theorem gY (r:Rc.Rec)(A B:Option Addr)(c d:Nat)(cm:r.txns.length≤1000)(cn:r.dirty.length≤2000)(w:World)(hr:Hc w r A c B d):
 Cr 161 #[Dp r (.slice A r.txns.length c) (.slice B r.dirty.length d)] w (.string (Rc.mk (Rc.Ia r))):=by
 obtain⟨a7,prev,a8,kind,Ab,next,O,⟨ok,os,oo,on⟩,aa,root,⟨ek,ep,es⟩,q,G⟩:=r;dsimp only[Dp,Ec]at cm cn ⊢;obtain⟨R,hR⟩:=ex (Rc.mk (Rc.Ia ⟨a7,prev,a8,kind,Ab,next,O,⟨ok,os,oo,on⟩,aa,root,⟨ek,ep,es⟩,q,G⟩));rw[← hR];obtain⟨N,aq⟩:=ex (w.alloc (.cells (Bt a7 prev a8 kind Ab next O ok os oo on aa root ek ep es (.slice A q.length c) (.slice B G.length d)) 47));have ar:=Hq (show Bw w N from by rw[aq];exact Ag _ _);have a1:=Hq (show N.heap[w.heap.size]? =some (.cells (Bt a7 prev a8 kind Ab next O ok os oo on aa root ek ep es (.slice A q.length c) (.slice B G.length d)) 47 (0,0))from by rw[aq];exact heap_alloc_new _ _);have HT:=Hq (show tY N A c q from hr.txns.below ar.out);have HD:=Hq (show tZ N B d G from hr.dirty.below ar.out);have du:w.heap.size≤N.heap.size:=ar.out.size;clear hr;obtain⟨B1,b0⟩:=ex (Rc.mk (Rc.p O 6));have cp:=Hq (show ∀ W,Cr 83 #[O,.int .i64 6] W (.string B1) from fun W=>by rw[b0];exact Di O 6 (by omega) W);obtain⟨B2,b2⟩:=ex (Rc.mk (Rc.p (q.length:Int) 2));have cq:=Hq (show ∀ W,Cr 83 #[.int .i64 (q.length:Int),.int .i64 2] W (.string B2) from fun W=>by rw[b2];exact Di (q.length:Int) 2 (by omega) W);obtain⟨S2,au⟩:=ex (Rc.mk (Rc.p O 6++Rc.p (q.length:Int) 2));have cr:∀ W:World,(Op.stringOp .add B1 B2).run Tryz.prog W= .ok (.string S2) W:=fun W=>by rw[b0,b2,au];exact Eg _ _ (by simp only[Rc.Ax];omega) W
 have c8:=Hq au;have dv:S2.size=8:=by rw[au,Rc.J8,List.length_append,Rc.Ax,Rc.Ax]
 have ct:∀ W:World,(convert 9 141 (.string S2)).run Tryz.prog W= .ok (.slice (some ⟨W.heap.size,0,none⟩) S2.size (grownCap W S2.size 0 5)) (Lib.bytesWorld W 5 S2):=fun W=>Lib.run_convert_string_bytes W 9 141 5 S2 Ua Io pG;have ca:=Hq (fun W:World=>nU W S2 (by omega));clear b0 b2 au;go_enter Tryz.func161,Tryz.ntmps161;go_upto_region 1 with fail;rw[← aq];clear aq;obtain⟨g,hg⟩:=ex w.heap.size;rw[← hg]at a1;rw[← hg];have dw:g<N.heap.size:=C8 a1.out;clear hg;have cb:=Ae a1.out (Below.refl _ N).drew;have cc:=(Below.refl N.heap.size N).drew;refine Hw (S:=(fun u=>u.heap[g]? =some (.cells (Bt a7 prev a8 kind Ab next O ok os oo on aa root ek ep es (.slice A q.length c) (.slice B G.length d)) 47 (0,0)))) (fun a=>?_);refine Be 0 ?_;refine Be 1 ?_;refine Be 3 ?_;refine Be 4 ?_;refine Be 5 ?_;refine D3 2 fun K j=>?_
 go_simp
 refine(cp.out _).mono ?_;rintro e dx ⟨rfl,f⟩;have b3:=Ae cb f;have cd:=Af cc f;try clear hSn
 have hSn:=b3;clear f;refine Db j (fun a=>?_);clear j K;refine D3 6 fun K j=>?_
 go_simp
 refine(cq.out _).mono ?_;rintro e ad ⟨rfl,f⟩;have b4:=Ae b3 f;have b5:=Af cd f;try clear hSn
 have hSn:=b4;clear f;refine Db j (fun a=>?_);clear j K;refine Be 7 ?_;refine D3 8 fun K j=>?_
 go_simp
 have cf:=Ae b4 (Le ad 5 S2);have cg:=Af b5 (Le ad 5 S2);have ch:=(ca.out ad).mono b5.size
 try clear hSn
 have hSn:=cf;refine Db j (fun a=>?_);clear j K;refine Be 9 ?_;refine wpAnyH_done Kr ?_ _;have ae:=Hq (show M8 N.heap.size (Lib.bytesWorld ad 5 S2) _ (Rc.p O 6++Rc.p (q.length:Int) 2)from by(have h:=ch);rw[c8.out,Rc.Om]at h;rw[c8.out];exact h);have b6:=Hq cg;obtain⟨W1,b7⟩:=ex (Lib.bytesWorld ad 5 S2);rw[← b7]at ae b6;rw[← b7];clear a hSn b7 cb b3 b4 cf cc cd b5 cg ch ca ct cr;go_wp2_with fail
 go_loopw [3,4] (fun v i wr=>∃ k:Nat,k≤q.length∧i= .int .i64 (k:Int)∧M8 N.heap.size wr v (Rc.p O 6++Rc.p (q.length:Int) 2++(q.take k).flatMap Rc.Mq)∧Bw N wr) (fun _ i _=>q.length-(intOf i).toNat)
 case atStart=>exact⟨0,Nat.zero_le _,rfl,by rw[List.take_zero,List.flatMap_nil,List.append_nil];exact ae.out,b6.out⟩
 case round=>
  obtain⟨k,hk,rfl,E,af⟩:=hrel;have F:=Hq af;obtain⟨L,hL⟩:=ex (Rc.p O 6++Rc.p (q.length:Int) 2++(q.take k).flatMap Rc.Mq);rw[← hL]at E;have dy:L.length≤20000:=by
   rw[hL,List.length_append,List.length_append,Rc.Ax,Rc.Ax,Rc.Dc Rc.Mq 19 Rc.P9,List.length_take];omega
  have HL:=Hq hL;have HO:=Hq E;clear hL af E ae b6;have b8:=Aa (Ae a1.out F.out)
  by_cases ag:k<q.length
  ·have cu:(k:Int)<(q.length:Int):=by omega
   have dz:(0:Int)≤(k:Int):=(by omega);have e0:IntKind.i64.wrap ((k:Int)+1)=(k:Int)+1:=IntWalk.i64_in _ (by omega);obtain⟨b1,off,rfl,hc,b9,n⟩:=Cv Ic (HT.out.below F.out) ag;have a6:=Hq (Rc.Rp Rc.Mq q k ag);generalize q[k]=x at n a6;obtain⟨s,y,H,x4⟩:=x;have HC:=Hq (show wr.rangeAt b1 (off+k*4) [.int .i64 s,.int .i64 y,.int .i64 H,.bool x4]from n);clear n hc
   go_upto_region 6 with(first
    |with_reducible refine wpList_load_mid rfl 83 (.tmp 27) rfl b1 (off+k*4) rfl [.int .i64 s,.int .i64 y,.int .i64 H,.bool x4] _ HC.out lR Kr Kr ?_
    |with_reducible refine sN #[s,y,H,x4] ?_)
   have HG:=Hq (heap_alloc_new wr (.cells #[s,y,H,x4] 83));have ba:=Hq (Af F.out (Ag wr (.cells #[s,y,H,x4] 83)));have bb:=Hq (HO.out.below (Ag wr (.cells #[s,y,H,x4] 83)));obtain⟨gx,bc⟩:=ex wr.heap.size;obtain⟨W2,av⟩:=ex (wr.alloc (.cells #[s,y,H,x4] 83));rw[← bc,← av]at HG;rw[← av]at ba bb;rw[← bc,← av];clear bc av b8 HC b9 HO;have e1:=Aa HG.out
   cases x4 with
   |true=>
    obtain⟨B3,Q⟩:=ex (Rc.mk (Rc.p s 6));have bd:=Hq (show ∀ W,Cr 83 #[s,.int .i64 6] W (.string B3) from fun W=>by rw[Q];exact Di s 6 (by omega) W);obtain⟨B4,T⟩:=ex (Rc.mk (Rc.p y 6));have bf:=Hq (show ∀ W,Cr 83 #[y,.int .i64 6] W (.string B4) from fun W=>by rw[T];exact Di y 6 (by omega) W);obtain⟨B5,U⟩:=ex (Rc.mk (Rc.p H 6));have bg:=Hq (show ∀ W,Cr 83 #[H,.int .i64 6] W (.string B5) from fun W=>by rw[U];exact Di H 6 (by omega) W);obtain⟨B6,V⟩:=ex (Rc.mk (Rc.p 1 1));have bh:=Hq (show ∀ W,Cr 83 #[.int .i64 1,.int .i64 1] W (.string B6) from fun W=>by rw[V];exact Di 1 1 (by omega) W);obtain⟨S4,X⟩:=ex (Rc.mk (Rc.p s 6++Rc.p y 6));have cv:∀ W:World,(Op.stringOp .add B3 B4).run Tryz.prog W= .ok (.string S4) W:=fun W=>by rw[Q,T,X];exact Eg _ _ (by simp only[Rc.Ax];omega) W
    obtain⟨S5,Y⟩:=ex (Rc.mk ((Rc.p s 6++Rc.p y 6)++Rc.p H 6));have cw:∀ W:World,(Op.stringOp .add S4 B5).run Tryz.prog W= .ok (.string S5) W:=fun W=>by rw[X,U,Y];exact Eg _ _ (by simp only[List.length_append,Rc.Ax];omega) W
    obtain⟨S6,I⟩:=ex (Rc.mk ((Rc.p s 6++Rc.p y 6++Rc.p H 6)++Rc.p 1 1));have cx:∀ W:World,(Op.stringOp .add S5 B6).run Tryz.prog W= .ok (.string S6) W:=fun W=>by rw[Y,V,I];exact Eg _ _ (by simp only[List.length_append,Rc.Ax];omega) W
    have HN:=Hq (show L++S6.data.toList=Rc.p O 6++Rc.p (q.length:Int) 2++(q.take (k+1)).flatMap Rc.Mq from by rw[a6.out,HL.out,I,Rc.Om,Rc.nW];simp only[List.append_assoc]);have cy:S6.size≤100:=(by rw[I,Rc.J8];simp only[List.length_append,Rc.Ax];omega);clear Q T U V X Y I;go_upto_region 9 with fail;have ah:=Ae HG.out (Below.refl _ W2).drew;have bj:=Af ba.out (Below.refl _ W2).drew;have bk:=bb.out.below (Below.refl _ W2).drew;refine Gh (S:=(fun u=>u.heap[gx]? =some (.cells #[s,y,H,true] 83 (0,0)))) 15 Kr ?_ (fun a=>?_)
    ·first|exact hSn|exact ah
    refine Oo 0 [15] ?_;refine Oo 1 [2,3,6,10,13,15] ?_;refine Oo 2 [3,6,10,13,15] ?_;refine Oo 4 [5,6,10,13,15] ?_;refine Oo 5 [6,10,13,15] ?_;refine Oo 8 [9,10,13,15] ?_;refine Oo 9 [10,13,15] ?_;refine Oo 12 [13,15] ?_;refine Bg (rs:=[3]) Kr (by simp) ?_;refine Ap.cons (o:={dst:=some 34,op:=_,type:=_,pos:=_,after:=_,guard:=_}) rfl (fun K j=>?_) ?_
    rotate_left
    ·exact Ap.nil
    go_simp
    refine(bd.out _).mono ?_;rintro e cz ⟨rfl,f⟩;have ai:=Ae ah f;have bl:=Af bj f;have bm:=bk.below f;try clear hSn
    have hSn:=ai;clear f;refine Db j (fun a=>?_);clear j K;refine Bg (rs:=[6]) Kr (by simp) ?_;refine Ap.cons (o:={dst:=some 37,op:=_,type:=_,pos:=_,after:=_,guard:=_}) rfl (fun K j=>?_) ?_
    rotate_left
    ·exact Ap.nil
    go_simp
    refine(bf.out _).mono ?_;rintro e da ⟨rfl,f⟩;have aj:=Ae ai f;have bn:=Af bl f;have bo:=bm.below f;try clear hSn
    have hSn:=aj;clear f;refine Db j (fun a=>?_);clear j K;refine Oo 7 [11,14,15] ?_;refine Bg (rs:=[10]) Kr (by simp) ?_;refine Ap.cons (o:={dst:=some 41,op:=_,type:=_,pos:=_,after:=_,guard:=_}) rfl (fun K j=>?_) ?_
    rotate_left
    ·exact Ap.nil
    go_simp
    refine(bg.out _).mono ?_;rintro e db ⟨rfl,f⟩;have ak:=Ae aj f;have bp:=Af bn f;have bq:=bo.below f;try clear hSn
    have hSn:=ak;clear f;refine Db j (fun a=>?_);clear j K;refine Oo 11 [14,15] ?_;refine Bg (rs:=[13]) Kr (by simp) ?_;refine Ap.cons (o:={dst:=some 44,op:=_,type:=_,pos:=_,after:=_,guard:=_}) rfl (fun K j=>?_) ?_
    rotate_left
    ·exact Ap.nil
    go_simp
    refine(bh.out _).mono ?_;rintro e dc ⟨rfl,f⟩;have br:=Ae ak f;have an:=Af bp f;have bs:=bq.below f;try clear hSn
    have hSn:=br;clear f;refine Db j (fun a=>?_);clear j K;refine Oo 14 [15] ?_;refine Bg (rs:=[15]) Kr (by simp) ?_;refine Ap.last (o:={dst:=some 46,op:=_,type:=_,pos:=_,after:=_,guard:=_}) rfl Kr (fun K j=>?_) ?_
    rotate_left
    ·exact Ap.nil
    refine Cp (by rfl) ?_;refine Tt _ (.tmp 31) (.tmp 45) 141 9 5 Io Ua Ir rfl N.heap.size _ L rfl bs S6 rfl (by omega) an.size ?_;intro v9 w9 ho f;have bt:=an.trans f;refine j.out _ _ ?_;clear j K
    try simp only[Act.put,pS]
    refine Bg (rs:=[16]) Kr (by simp) ?_;refine Ap.last (o:={dst:=some 3,op:=_,type:=_,pos:=_,after:=_,guard:=_}) rfl Kr (fun K j=>?_) ?_
    rotate_left
    ·exact Ap.nil
    go_simp
    refine j.out _ _ ?_;clear j K
    try simp only[Act.put,pS]
    refine Gg Kr ?_ _;rw[HN.out]at ho;clear a hSn;go_wp2_with fail;go_roundw
    case rel=>exact⟨k+1,by omega,by go_num,ho,bt⟩
    case measure=>simp[intOf];omega
   |false=>
    obtain⟨B3,Q⟩:=ex (Rc.mk (Rc.p s 6));have bd:=Hq (show ∀ W,Cr 83 #[s,.int .i64 6] W (.string B3) from fun W=>by rw[Q];exact Di s 6 (by omega) W);obtain⟨B4,T⟩:=ex (Rc.mk (Rc.p y 6));have bf:=Hq (show ∀ W,Cr 83 #[y,.int .i64 6] W (.string B4) from fun W=>by rw[T];exact Di y 6 (by omega) W);obtain⟨B5,U⟩:=ex (Rc.mk (Rc.p H 6));have bg:=Hq (show ∀ W,Cr 83 #[H,.int .i64 6] W (.string B5) from fun W=>by rw[U];exact Di H 6 (by omega) W);obtain⟨B6,V⟩:=ex (Rc.mk (Rc.p 0 1));have bh:=Hq (show ∀ W,Cr 83 #[(),.int .i64 1] W (.string B6) from fun W=>by rw[V];exact Di 0 1 (by omega) W);obtain⟨S4,X⟩:=ex (Rc.mk (Rc.p s 6++Rc.p y 6));have cv:∀ W:World,(Op.stringOp .add B3 B4).run Tryz.prog W= .ok (.string S4) W:=fun W=>by rw[Q,T,X];exact Eg _ _ (by simp only[Rc.Ax];omega) W
    obtain⟨S5,Y⟩:=ex (Rc.mk ((Rc.p s 6++Rc.p y 6)++Rc.p H 6));have cw:∀ W:World,(Op.stringOp .add S4 B5).run Tryz.prog W= .ok (.string S5) W:=fun W=>by rw[X,U,Y];exact Eg _ _ (by simp only[List.length_append,Rc.Ax];omega) W
    obtain⟨S6,I⟩:=ex (Rc.mk ((Rc.p s 6++Rc.p y 6++Rc.p H 6)++Rc.p 0 1));have cx:∀ W:World,(Op.stringOp .add S5 B6).run Tryz.prog W= .ok (.string S6) W:=fun W=>by rw[Y,V,I];exact Eg _ _ (by simp only[List.length_append,Rc.Ax];omega) W
    have HN:=Hq (show L++S6.data.toList=Rc.p O 6++Rc.p (q.length:Int) 2++(q.take (k+1)).flatMap Rc.Mq from by rw[a6.out,HL.out,I,Rc.Om,Rc.gX];simp only[List.append_assoc]);have cy:S6.size≤100:=(by rw[I,Rc.J8];simp only[List.length_append,Rc.Ax];omega);clear Q T U V X Y I;go_upto_region 9 with fail;have ah:=Ae HG.out (Below.refl _ W2).drew;have bj:=Af ba.out (Below.refl _ W2).drew;have bk:=bb.out.below (Below.refl _ W2).drew;refine Gh (S:=(fun u=>u.heap[gx]? =some (.cells #[s,y,H,false] 83 (0,0)))) 15 Kr ?_ (fun a=>?_)
    ·first|exact hSn|exact ah
    refine Oo 0 [15] ?_;refine Oo 1 [2,3,6,10,13,15] ?_;refine Oo 2 [3,6,10,13,15] ?_;refine Oo 4 [5,6,10,13,15] ?_;refine Oo 5 [6,10,13,15] ?_;refine Oo 8 [9,10,13,15] ?_;refine Oo 9 [10,13,15] ?_;refine Oo 12 [13,15] ?_;refine Bg (rs:=[3]) Kr (by simp) ?_;refine Ap.cons (o:={dst:=some 34,op:=_,type:=_,pos:=_,after:=_,guard:=_}) rfl (fun K j=>?_) ?_
    rotate_left
    ·exact Ap.nil
    go_simp
    refine(bd.out _).mono ?_;rintro e cz ⟨rfl,f⟩;have ai:=Ae ah f;have bl:=Af bj f;have bm:=bk.below f;try clear hSn
    have hSn:=ai;clear f;refine Db j (fun a=>?_);clear j K;refine Bg (rs:=[6]) Kr (by simp) ?_;refine Ap.cons (o:={dst:=some 37,op:=_,type:=_,pos:=_,after:=_,guard:=_}) rfl (fun K j=>?_) ?_
    rotate_left
    ·exact Ap.nil
    go_simp
    refine(bf.out _).mono ?_;rintro e da ⟨rfl,f⟩;have aj:=Ae ai f;have bn:=Af bl f;have bo:=bm.below f;try clear hSn
    have hSn:=aj;clear f;refine Db j (fun a=>?_);clear j K;refine Oo 7 [11,14,15] ?_;refine Bg (rs:=[10]) Kr (by simp) ?_;refine Ap.cons (o:={dst:=some 41,op:=_,type:=_,pos:=_,after:=_,guard:=_}) rfl (fun K j=>?_) ?_
    rotate_left
    ·exact Ap.nil
    go_simp
    refine(bg.out _).mono ?_;rintro e db ⟨rfl,f⟩;have ak:=Ae aj f;have bp:=Af bn f;have bq:=bo.below f;try clear hSn
    have hSn:=ak;clear f;refine Db j (fun a=>?_);clear j K;refine Oo 11 [14,15] ?_;refine Bg (rs:=[13]) Kr (by simp) ?_;refine Ap.cons (o:={dst:=some 44,op:=_,type:=_,pos:=_,after:=_,guard:=_}) rfl (fun K j=>?_) ?_
    rotate_left
    ·exact Ap.nil
    go_simp
    refine(bh.out _).mono ?_;rintro e dc ⟨rfl,f⟩;have br:=Ae ak f;have an:=Af bp f;have bs:=bq.below f;try clear hSn
    have hSn:=br;clear f;refine Db j (fun a=>?_);clear j K;refine Oo 14 [15] ?_;refine Bg (rs:=[15]) Kr (by simp) ?_;refine Ap.last (o:={dst:=some 46,op:=_,type:=_,pos:=_,after:=_,guard:=_}) rfl Kr (fun K j=>?_) ?_
    rotate_left
    ·exact Ap.nil
    refine Cp (by rfl) ?_;refine Tt _ (.tmp 31) (.tmp 45) 141 9 5 Io Ua Ir rfl N.heap.size _ L rfl bs S6 rfl (by omega) an.size ?_;intro v9 w9 ho f;have bt:=an.trans f;refine j.out _ _ ?_;clear j K
    try simp only[Act.put,pS]
    refine Bg (rs:=[16]) Kr (by simp) ?_;refine Ap.last (o:={dst:=some 3,op:=_,type:=_,pos:=_,after:=_,guard:=_}) rfl Kr (fun K j=>?_) ?_
    rotate_left
    ·exact Ap.nil
    go_simp
    refine j.out _ _ ?_;clear j K
    try simp only[Act.put,pS]
    refine Gg Kr ?_ _;rw[HN.out]at ho;clear a hSn;go_wp2_with fail;go_roundw
    case rel=>exact⟨k+1,by omega,by go_num,ho,bt⟩
    case measure=>simp[intOf];omega
  ·have cu:¬ (k:Int)<(q.length:Int):=by omega
   obtain rfl:k=q.length:=(by omega);rw[List.take_length]at HL;obtain⟨B7,aw⟩:=ex (Rc.mk (Rc.p (G.length:Int) 2));have dd:=Hq (show ∀ W,Cr 83 #[.int .i64 (G.length:Int),.int .i64 2] W (.string B7) from fun W=>by rw[aw];exact Di (G.length:Int) 2 (by omega) W);have cj:=Hq (show L++B7.data.toList=Rc.p O 6++Rc.p (q.length:Int) 2++q.flatMap Rc.Mq++Rc.p (G.length:Int) 2 from by rw[HL.out,aw,Rc.Om]);have e2:B7.size=2:=(by rw[aw,Rc.J8,Rc.Ax]);clear aw;obtain⟨wo,rfl⟩:=ex wr
   go_upto_region 11 with(first
    |(go_at_call 83;(with_reducible refine(dd.out _).mono ?_);rintro e w3 ⟨rfl,bu⟩;have O3:=HO.out.below bu;have Y3:=Af F.out bu)
    |(at_builtin;refine dA Kr (.tmp 47) (.tmp 51) 141 9 5 Io Ua Ir rfl N.heap.size _ L rfl O3 B7 rfl (by omega) Y3.size ?_;intro v8 w8 ho f;have Y8:=Hq (Y3.trans f);rw[cj.out]at ho;have O8:=Hq ho;clear ho f))
   obtain⟨base,J⟩:=ex (Rc.p O 6++Rc.p (q.length:Int) 2++q.flatMap Rc.Mq++Rc.p (G.length:Int) 2);rw[← J]at O8;have dt:base.length≤20010:=(by rw[J,List.length_append,List.length_append,List.length_append,Rc.Ax,Rc.Ax,Rc.Ax,Rc.Dc Rc.Mq 19 Rc.P9];omega);have bw:=Hq J;clear J O3 Y3 bu HO F HL cj b8;go_wp2_with fail
   go_loopw [3,7] (fun v i wr=>∃ m:Nat,m≤G.length∧i= .int .i64 (m:Int)∧M8 N.heap.size wr v (base++(G.take m).flatMap Rc.Iw)∧Bw N wr) (fun _ i _=>G.length-(intOf i).toNat)
   case atStart=>exact⟨0,Nat.zero_le _,rfl,by rw[List.take_zero,List.flatMap_nil,List.append_nil];exact O8.out,Y8.out⟩
   case round=>
    obtain⟨m,hm,rfl,E,af⟩:=hrel;have F:=Hq af;obtain⟨M,hM⟩:=ex (base++(G.take m).flatMap Rc.Iw);rw[← hM]at E;have e3:M.length≤40000:=by
     rw[hM,List.length_append,Rc.Dc Rc.Iw 9 Rc.Ph,List.length_take];omega
    have bx:=Hq hM;have HO:=Hq E;clear hM af E O8 Y8;have b8:=Aa (Ae a1.out F.out)
    by_cases ag:m<G.length
    ·have de:(m:Int)<(G.length:Int):=by omega
     have e4:(0:Int)≤(m:Int):=(by omega);have e5:IntKind.i64.wrap ((m:Int)+1)=(m:Int)+1:=IntWalk.i64_in _ (by omega);obtain⟨b1,off,rfl,hc,b9,n⟩:=Cv Ms (HD.out.below F.out) ag;have a6:=Hq (Rc.Rp Rc.Iw G m ag);generalize G[m]=x at n a6;obtain⟨s,y⟩:=x;have q0:=n 0 _ rfl;have q1:=n 1 _ rfl;simp only[Nat.add_zero]at q0;clear n hc;obtain⟨B8,bz⟩:=ex (Rc.mk (Rc.p s 3));have df:=Hq (show ∀ W,Cr 83 #[s,.int .i64 3] W (.string B8) from fun W=>by rw[bz];exact Di s 3 (by omega) W);obtain⟨B9,c6⟩:=ex (Rc.mk (Rc.p y 6));have dh:=Hq (show ∀ W,Cr 83 #[y,.int .i64 6] W (.string B9) from fun W=>by rw[c6];exact Di y 6 (by omega) W);obtain⟨S9,ax⟩:=ex (Rc.mk (Rc.p s 3++Rc.p y 6));have e6:∀ W:World,(Op.stringOp .add B8 B9).run Tryz.prog W= .ok (.string S9) W:=fun W=>by rw[bz,c6,ax];exact Eg _ _ (by simp only[Rc.Ax];omega) W
     have HN:=Hq (show M++S9.data.toList=base++(G.take (m+1)).flatMap Rc.Iw from by rw[a6.out,bx.out,ax,Rc.Om];simp only[List.append_assoc];rfl);have e7:S9.size=9:=(by rw[ax,Rc.J8];simp only[List.length_append,Rc.Ax]);clear bz c6 ax;go_upto_region 14 with fail;have ay:=And.intro (Ae (Ae a1.out F.out) (Below.refl _ wr).drew) (And.intro (show wr.drew.cell? ⟨b1,off+m*2,none⟩=_ from q0) (show wr.drew.cell? ⟨b1,off+m*2+1,none⟩=_ from q1));have di:=Af F.out (Below.refl _ wr).drew;have dj:=HO.out.below (Below.refl _ wr).drew;have ao:b1<wr.drew.heap.size:=b9;refine Gh (S:=(fun u=>u.heap[g]? =some (.cells (Bt a7 prev a8 kind Ab next O ok os oo on aa root ek ep es (.slice A q.length c) (.slice (some ⟨b1,off,none⟩) G.length d)) 47 (0,0))∧u.cell? ⟨b1,off+m*2,none⟩=some (.int .i64 s)∧u.cell? ⟨b1,off+m*2+1,none⟩=some (.int .i64 y))) 16 Kr ?_ (fun a=>?_)
     ·first|exact hSn|exact ay
     refine Bu (i:=0) (oi:={dst:=some 60,op:=_,type:=_,pos:=_,after:=_,guard:=_}) (v:=?_) (p:=[16]) rfl Kr Kr Kr Kr Kr Kr (fun _ _ _ h=>h) (Or.inl ⟨by rfl,?_⟩) (by assumption) ?_
     rotate_left
     ·intro u l;obtain⟨b,z,C⟩:=l;have D:=Aa b;clear b;go_simp;(try with_reducible rfl)
     try simp only[Act.put,pS]
     refine Bu (i:=1) (oi:={dst:=some 61,op:=_,type:=_,pos:=_,after:=_,guard:=_}) (v:=?_) (p:=[2,4,5,6,7,14,16]) rfl Kr Kr Kr Kr Kr Kr (fun _ _ _ h=>h) (Or.inl ⟨by rfl,?_⟩) (by assumption) ?_
     rotate_left
     ·intro u l;obtain⟨b,z,C⟩:=l;have D:=Aa b;clear b;go_simp;(try with_reducible rfl)
     try simp only[Act.put,pS]
     refine Bu (i:=2) (oi:={dst:=some 62,op:=_,type:=_,pos:=_,after:=_,guard:=_}) (v:=?_) (p:=[4,5,6,7,14,16]) rfl Kr Kr Kr Kr Kr Kr (fun _ _ _ h=>h) (Or.inl ⟨by rfl,?_⟩) (by assumption) ?_
     rotate_left
     ·intro u l;obtain⟨b,z,C⟩:=l;have D:=Aa b;clear b;go_simp;(try with_reducible rfl)
     try simp only[Act.put,pS]
     refine Bu (i:=3) (oi:={dst:=some 63,op:=_,type:=_,pos:=_,after:=_,guard:=_}) (v:=?_) (p:=[4,5,6,7,14,16]) rfl Kr Kr Kr Kr Kr Kr (fun _ _ _ h=>h) (Or.inl ⟨by rfl,?_⟩) (by assumption) ?_
     rotate_left
     ·intro u l;obtain⟨b,z,C⟩:=l;have D:=Aa b;clear b;go_simp;(try with_reducible rfl)
     try simp only[Act.put,pS]
     refine Bu (i:=4) (oi:={dst:=some 64,op:=_,type:=_,pos:=_,after:=_,guard:=_}) (v:=?_) (p:=[5,6,7,14,16]) rfl Kr Kr Kr Kr Kr Kr (fun _ _ _ h=>h) (Or.inl ⟨by rfl,?_⟩) (by assumption) ?_
     rotate_left
     ·intro u l;obtain⟨b,z,C⟩:=l;have D:=Aa b;clear b;go_simp;(try with_reducible rfl)
     try simp only[Act.put,pS]
     refine Bu (i:=5) (oi:={dst:=some 65,op:=_,type:=_,pos:=_,after:=_,guard:=_}) (v:=?_) (p:=[6,7,14,16]) rfl Kr Kr Kr Kr Kr Kr (fun _ _ _ h=>h) (Or.inl ⟨by rfl,?_⟩) (by assumption) ?_
     rotate_left
     ·intro u l;obtain⟨b,z,C⟩:=l;have D:=Aa b;clear b;go_simp;(try with_reducible rfl)
     try simp only[Act.put,pS]
     refine Bu (i:=6) (oi:={dst:=some 66,op:=_,type:=_,pos:=_,after:=_,guard:=_}) (v:=?_) (p:=[7,14,16]) rfl Kr Kr Kr Kr Kr Kr (fun _ _ _ h=>h) (Or.inl ⟨by rfl,?_⟩) (by assumption) ?_
     rotate_left
     ·intro u l;obtain⟨b,z,C⟩:=l;have D:=Aa b;clear b;go_simp;(try with_reducible rfl)
     try simp only[Act.put,pS]
     refine Bu (i:=8) (oi:={dst:=some 68,op:=_,type:=_,pos:=_,after:=_,guard:=_}) (v:=?_) (p:=[9,11,12,13,14,16]) rfl Kr Kr Kr Kr Kr Kr (fun _ _ _ h=>h) (Or.inl ⟨by rfl,?_⟩) (by assumption) ?_
     rotate_left
     ·intro u l;obtain⟨b,z,C⟩:=l;have D:=Aa b;clear b;go_simp;(try with_reducible rfl)
     try simp only[Act.put,pS]
     refine Bu (i:=9) (oi:={dst:=some 69,op:=_,type:=_,pos:=_,after:=_,guard:=_}) (v:=?_) (p:=[11,12,13,14,16]) rfl Kr Kr Kr Kr Kr Kr (fun _ _ _ h=>h) (Or.inl ⟨by rfl,?_⟩) (by assumption) ?_
     rotate_left
     ·intro u l;obtain⟨b,z,C⟩:=l;have D:=Aa b;clear b;go_simp;(try with_reducible rfl)
     try simp only[Act.put,pS]
     refine Bu (i:=10) (oi:={dst:=some 70,op:=_,type:=_,pos:=_,after:=_,guard:=_}) (v:=?_) (p:=[11,12,13,14,16]) rfl Kr Kr Kr Kr Kr Kr (fun _ _ _ h=>h) (Or.inl ⟨by rfl,?_⟩) (by assumption) ?_
     rotate_left
     ·intro u l;obtain⟨b,z,C⟩:=l;have D:=Aa b;clear b;go_simp;(try with_reducible rfl)
     try simp only[Act.put,pS]
     refine Bu (i:=11) (oi:={dst:=some 71,op:=_,type:=_,pos:=_,after:=_,guard:=_}) (v:=?_) (p:=[12,13,14,16]) rfl Kr Kr Kr Kr Kr Kr (fun _ _ _ h=>h) (Or.inl ⟨by rfl,?_⟩) (by assumption) ?_
     rotate_left
     ·intro u l;obtain⟨b,z,C⟩:=l;have D:=Aa b;clear b;go_simp;(try with_reducible rfl)
     try simp only[Act.put,pS]
     refine Bu (i:=12) (oi:={dst:=some 72,op:=_,type:=_,pos:=_,after:=_,guard:=_}) (v:=?_) (p:=[13,14,16]) rfl Kr Kr Kr Kr Kr Kr (fun _ _ _ h=>h) (Or.inl ⟨by rfl,?_⟩) (by assumption) ?_
     rotate_left
     ·intro u l;obtain⟨b,z,C⟩:=l;have D:=Aa b;clear b;go_simp;(try with_reducible rfl)
     try simp only[Act.put,pS]
     refine Bu (i:=13) (oi:={dst:=some 73,op:=_,type:=_,pos:=_,after:=_,guard:=_}) (v:=?_) (p:=[14,16]) rfl Kr Kr Kr Kr Kr Kr (fun _ _ _ h=>h) (Or.inl ⟨by rfl,?_⟩) (by assumption) ?_
     rotate_left
     ·intro u l;obtain⟨b,z,C⟩:=l;have D:=Aa b;clear b;go_simp;(try with_reducible rfl)
     try simp only[Act.put,pS]
     refine Bg (rs:=[7]) Kr (by simp) ?_;refine Ap.cons (o:={dst:=some 67,op:=_,type:=_,pos:=_,after:=_,guard:=_}) rfl (fun K j=>?_) ?_
     rotate_left
     ·exact Ap.nil
     go_simp
     refine(df.out _).mono ?_;rintro e e8 ⟨rfl,f⟩;have az:=And.intro (Ae ay.1 f) (And.intro ((f.cell (p:=⟨b1,off+m*2,none⟩) ao).trans ay.2.1) ((f.cell (p:=⟨b1,off+m*2+1,none⟩) ao).trans ay.2.2));have Z:=Nat.lt_of_lt_of_le ao f.size;have dk:=Af di f;have dm:=dj.below f;try clear hSn
     have hSn:=az;clear f;refine Db j (fun a=>?_);clear j K;refine Bg (rs:=[14]) Kr (by simp) ?_;refine Ap.cons (o:={dst:=some 74,op:=_,type:=_,pos:=_,after:=_,guard:=_}) rfl (fun K j=>?_) ?_
     rotate_left
     ·exact Ap.nil
     go_simp
     refine(dh.out _).mono ?_;rintro e e9 ⟨rfl,f⟩;have dn:=And.intro (Ae az.1 f) (And.intro ((f.cell (p:=⟨b1,off+m*2,none⟩) Z).trans az.2.1) ((f.cell (p:=⟨b1,off+m*2+1,none⟩) Z).trans az.2.2));have dp:=Nat.lt_of_lt_of_le Z f.size;have ck:=Af dk f;have dq:=dm.below f;try clear hSn
     have hSn:=dn;clear f;refine Db j (fun a=>?_);clear j K;refine Bu (i:=15) (oi:={dst:=some 75,op:=_,type:=_,pos:=_,after:=_,guard:=_}) (v:=?_) (p:=[16]) rfl Kr Kr Kr Kr Kr Kr (fun _ _ _ h=>h) (Or.inl ⟨by rfl,?_⟩) (by assumption) ?_
     rotate_left
     ·intro u l;obtain⟨b,z,C⟩:=l;have D:=Aa b;clear b;go_simp;(try with_reducible rfl)
     try simp only[Act.put,pS]
     refine Bg (rs:=[16]) Kr (by simp) ?_;refine Ap.last (o:={dst:=some 76,op:=_,type:=_,pos:=_,after:=_,guard:=_}) rfl Kr (fun K j=>?_) ?_
     rotate_left
     ·exact Ap.nil
     refine Cp (by rfl) ?_;refine Tt _ (.tmp 60) (.tmp 75) 141 9 5 Io Ua Ir rfl N.heap.size _ M rfl dq S9 rfl (by omega) ck.size ?_;intro v9 w9 ho f;have dr:=ck.trans f;refine j.out _ _ ?_;clear j K
     try simp only[Act.put,pS]
     refine Bg (rs:=[17]) Kr (by simp) ?_;refine Ap.last (o:={dst:=some 3,op:=_,type:=_,pos:=_,after:=_,guard:=_}) rfl Kr (fun K j=>?_) ?_
     rotate_left
     ·exact Ap.nil
     go_simp
     refine j.out _ _ ?_;clear j K
     try simp only[Act.put,pS]
     refine Gg Kr ?_ _;rw[HN.out]at ho;clear a hSn;go_wp2_with fail;go_roundw
     case rel=>exact⟨m+1,by omega,by go_num,ho,dr⟩
     case measure=>simp[intOf];omega
    ·have de:¬ (m:Int)<(G.length:Int):=by omega
     obtain rfl:m=G.length:=(by omega);rw[List.take_length]at bx;have HE:=Hq (show(⟨M.toArray⟩:ByteArray)=R from by rw[hR,bx.out,bw.out];unfold Rc.Ia Rc.mk;simp only[List.append_assoc]);have c7:=HO.out.back (P:=Tryz.prog) (t:=141) (u:=9) (e:=5) Io pG Ua;rw[HE.out]at c7;go_wp2_with fail;go_ret;exact⟨rfl,Af ar.out F.out⟩
theorem Rv (r:Rc.Rec)(bf:Rc.Bz r)(A B:Option Addr)(c d:Nat)(w:World)(hr:Hc w r A c B d):
 Cr 103 #[Dp r (.slice A r.txns.length c) (.slice B r.dirty.length d)] w (.string (Rc.mk (Rc.Bl r))):=by
 have HF:=Hq (Rc.Hh bf);have cp:=Hq hr;clear bf hr;obtain⟨b,prev,i,kind,Ab,next,T,⟨ok,os,n,on⟩,k,root,⟨I,H,es⟩,U,V⟩:=r;have hk:=HF.out.kind;dsimp only at hk;have h9:(kind=1∨kind=5∨kind=6∨kind=7)∨kind=2∨kind=3∨kind=4∨kind=8∨kind=9:=by omega
 have HK:=Hq h9;clear hk h9;dsimp only[Dp,Ec];obtain⟨w0,ai⟩:=ex (w.alloc (.cells (Bt b prev i kind Ab next T ok os n on k root I H es (.slice A U.length c) (.slice B V.length d)) 47));have bg:=Hq (show Bw w w0 from by rw[ai];exact Ag _ _);have aq:=Hq (show w0.heap[w.heap.size]? =some (.cells (Bt b prev i kind Ab next T ok os n on k root I H es (.slice A U.length c) (.slice B V.length d)) 47 (0,0))from by rw[ai];exact heap_alloc_new _ _);obtain⟨R,hR⟩:=ex (Rc.mk (Rc.Bl ⟨b,prev,i,kind,Ab,next,T,⟨ok,os,n,on⟩,k,root,⟨I,H,es⟩,U,V⟩));rw[← hR];have HR:=Hq hR;clear hR;obtain⟨B1,ar⟩:=ex (Rc.mk (Rc.p kind 1));have cq:((Rc.p kind 1)).length=1:=Rc.Ax _ _;have bh:=Hq (show ∀ W,Cr 83 #[kind,.int .i64 1] W (.string B1) from fun W=>by rw[ar];exact Di kind 1 (by omega) W);obtain⟨B2,au⟩:=ex (Rc.mk (Rc.p b 6));have cr:((Rc.p b 6)).length=6:=Rc.Ax _ _;have bj:=Hq (show ∀ W,Cr 83 #[b,.int .i64 6] W (.string B2) from fun W=>by rw[au];exact Di b 6 (by omega) W);obtain⟨S2,av⟩:=ex (Rc.mk ((Rc.p kind 1)++(Rc.p b 6)));have ct:∀ W:World,(Op.stringOp .add B1 B2).run Tryz.prog W= .ok (.string S2) W:=fun W=>by rw[ar,au,av];exact Eg _ _ (by(try simp only[Rc.Ax]);omega) W
 obtain⟨B3,aw⟩:=ex (Rc.mk (Rc.p prev 6));have cu:((Rc.p prev 6)).length=6:=Rc.Ax _ _;have bk:=Hq (show ∀ W,Cr 83 #[prev,.int .i64 6] W (.string B3) from fun W=>by rw[aw];exact Di prev 6 (by omega) W);obtain⟨S3,ax⟩:=ex (Rc.mk (((Rc.p kind 1)++(Rc.p b 6))++(Rc.p prev 6)));have cv:∀ W:World,(Op.stringOp .add S2 B3).run Tryz.prog W= .ok (.string S3) W:=fun W=>by rw[av,aw,ax];exact Eg _ _ (by(try simp only[List.length_append,Rc.Ax]);omega) W
 obtain⟨B4,ay⟩:=ex (Rc.mk (Rc.p i 6));have cw:((Rc.p i 6)).length=6:=Rc.Ax _ _;have bl:=Hq (show ∀ W,Cr 83 #[i,.int .i64 6] W (.string B4) from fun W=>by rw[ay];exact Di i 6 (by omega) W);obtain⟨S4,l⟩:=ex (Rc.mk ((((Rc.p kind 1)++(Rc.p b 6))++(Rc.p prev 6))++(Rc.p i 6)));have cx:∀ W:World,(Op.stringOp .add S3 B4).run Tryz.prog W= .ok (.string S4) W:=fun W=>by rw[ax,ay,l];exact Eg _ _ (by(try simp only[List.length_append,Rc.Ax]);omega) W
 have Y:=Hq l;have v:((((Rc.p kind 1)++(Rc.p b 6))++(Rc.p prev 6))++(Rc.p i 6)).length=19:=by simp only[List.length_append];omega
 have a8:=Hq v;clear ar cq;clear au cr;clear aw cu;clear ay cw;clear av;clear ax;clear l;clear v;go_enter Tryz.func103,Tryz.ntmps103;go_upto_region 1 with fail;rw[← ai];clear ai;obtain⟨g,hg⟩:=ex w.heap.size;rw[← hg]at aq;rw[← hg];have cy:w.heap.size≤g:=Nat.le_of_eq hg.symm;clear hg
 go_cut [3] (fun s3 wc=>s3= .string S4∧wc.heap[g]? =some (.cells (Bt b prev i kind Ab next T ok os n on k root I H es (.slice A U.length c) (.slice B V.length d)) 47 (0,0))∧Bw w wc)
 case first=>
  go_upto_region 1 with fail;have bm:=Ae aq.out (Below.refl _ w0).drew;have bn:=Af bg.out (Below.refl _ w0).drew;refine Hw (S:=(fun u=>u.heap[g]? =some (.cells (Bt b prev i kind Ab next T ok os n on k root I H es (.slice A U.length c) (.slice B V.length d)) 47 (0,0)))) (fun a=>?_);refine Be 0 ?_;refine Be 1 ?_;refine Be 3 ?_;refine Be 4 ?_;refine Be 7 ?_;refine Be 8 ?_;refine Be 11 ?_;refine Be 12 ?_;refine D3 2 fun K j=>?_
  go_simp
  refine(bh.out _).mono ?_;rintro e dj ⟨rfl,f⟩;have az:=Ae bm f;have bo:=Af bn f;try clear hSn
  have hSn:=az;clear f;refine Db j (fun a=>?_);clear j K;refine D3 5 fun K j=>?_
  go_simp
  refine(bj.out _).mono ?_;rintro e dk ⟨rfl,f⟩;have b0:=Ae az f;have bp:=Af bo f;try clear hSn
  have hSn:=b0;clear f;refine Db j (fun a=>?_);clear j K;refine Be 6 ?_;refine D3 9 fun K j=>?_
  go_simp
  refine(bk.out _).mono ?_;rintro e dm ⟨rfl,f⟩;have b1:=Ae b0 f;have bq:=Af bp f;try clear hSn
  have hSn:=b1;clear f;refine Db j (fun a=>?_);clear j K;refine Be 10 ?_;refine D3 13 fun K j=>?_
  go_simp
  refine(bl.out _).mono ?_;rintro e dn ⟨rfl,f⟩;have b2:=Ae b1 f;have br:=Af bq f;try clear hSn
  have hSn:=b2;clear f;refine Db j (fun a=>?_);clear j K;refine Be 14 ?_;refine Be 15 ?_;refine wpAnyH_done Kr ?_ _;have x:=Hq b2;have J:=Hq br;clear a hSn bm bn az bo b0 bp b1 bq b2 br;go_wp2_with fail;go_meet
  case rel=>exact⟨rfl,x.out,J.out⟩
 case rest=>
  obtain⟨rfl,bs,bt⟩:=hcut;obtain⟨w1,rfl⟩:=ex wc;have x:=Hq bs;have J:=Hq bt;clear bs bt aq bg bh bj bk bl ct cv cx cy;rcases HK.out with h9|rfl|rfl|rfl|rfl|rfl
  ·rcases h9 with rfl|rfl|rfl|rfl<;>(
   have l:=Y.out;have HE:=Hq (show S4=R from by rw[l,HR.out];(congr 1)<;>(unfold Rc.Bl;rw[show Rc.Fm _=[]from by unfold Rc.Fm;rfl];unfold Rc.Hm;simp only[List.append_assoc,List.append_nil]));have N:=Aa x.out;clear l;go_wp2_with fail;go_ret;exact⟨by rw[← HE.out];rfl,J.out⟩)
  ·have l:=Y.out
   have v:=a8.out;have N:=Aa x.out;obtain⟨-,-,-,h4,h5⟩:=(HF.out.change (by unfold Rc.E8;simp)).2;dsimp only at h4 h5;have aa:n.size≤65535:=(by omega);have ad:on.size≤65535:=(by omega);clear h4 h5;obtain⟨Z,m⟩:=ex (Rc.mk (Rc.p Ab 3));have L:((Rc.p Ab 3)).length=3:=Rc.Ax _ _;have O:=Hq (show ∀ W,Cr 83 #[Ab,.int .i64 3] W (.string Z) from fun W=>by rw[m];exact Di Ab 3 (by omega) W);obtain⟨S5,o⟩:=ex (Rc.mk (((((Rc.p 2 1)++(Rc.p b 6))++(Rc.p prev 6))++(Rc.p i 6))++(Rc.p Ab 3)));have aj:∀ W:World,(Op.stringOp .add S4 Z).run Tryz.prog W= .ok (.string S5) W:=fun W=>by rw[l,m,o];exact Eg _ _ (by(try simp only[List.length_append,Rc.Ax]);omega) W
   obtain⟨B6,y⟩:=ex (Rc.mk (Rc.Np ⟨ok,os,n,on⟩));have a1:((Rc.Np ⟨ok,os,n,on⟩)).length≤140000:=(by unfold Rc.Np;simp only[List.length_append,Rc.Ax,Rc.Uv];omega);have a6:=Hq (show ∀ W,Cr 159 #[.agg #[ok,os,n,on]] W (.string B6) from fun W=>by rw[y];exact Vn ⟨ok,os,n,on⟩ aa ad W);obtain⟨S6,z⟩:=ex (Rc.mk ((((((Rc.p 2 1)++(Rc.p b 6))++(Rc.p prev 6))++(Rc.p i 6))++(Rc.p Ab 3))++(Rc.Np ⟨ok,os,n,on⟩)));have bu:∀ W:World,(Op.stringOp .add S5 B6).run Tryz.prog W= .ok (.string S6) W:=fun W=>by rw[o,y,z];exact Eg _ _ (by(try simp only[List.length_append,Rc.Ax]);omega) W
   obtain⟨B7,P⟩:=ex (Rc.mk (Rc.p k 1));have ak:((Rc.p k 1)).length=1:=Rc.Ax _ _;have an:=Hq (show ∀ W,Cr 83 #[k,.int .i64 1] W (.string B7) from fun W=>by rw[P];exact Di k 1 (by omega) W);obtain⟨S7,M⟩:=ex (Rc.mk (((((((Rc.p 2 1)++(Rc.p b 6))++(Rc.p prev 6))++(Rc.p i 6))++(Rc.p Ab 3))++(Rc.Np ⟨ok,os,n,on⟩))++(Rc.p k 1)));have cz:∀ W:World,(Op.stringOp .add S6 B7).run Tryz.prog W= .ok (.string S7) W:=fun W=>by rw[z,P,M];exact Eg _ _ (by(try simp only[List.length_append,Rc.Ax]);omega) W
   by_cases hh:k=1
   ·have da:(k==1)=true:=by simpa using hh
    have HE:=Hq (show S7=R from by rw[M,HR.out];(congr 1)<;>(unfold Rc.Bl;rw[Rc.Ob rfl];unfold Rc.Hm;unfold Rc.M5;rw[if_pos hh];simp only[List.append_assoc,List.append_nil]));clear hh m L o y a1 z P ak M l v;go_upto_region 4 with fail;have C:=Ae x.out (Below.refl _ w1).drew;have D:=Af J.out (Below.refl _ w1).drew;refine Hw (S:=(fun u=>u.heap[g]? =some (.cells (Bt b prev i 2 Ab next T ok os n on k root I H es (.slice A U.length c) (.slice B V.length d)) 47 (0,0)))) (fun a=>?_);refine Be 0 ?_;refine Be 1 ?_;refine Be 2 ?_;refine Be 5 ?_;refine Be 6 ?_;refine Be 9 ?_;refine Be 10 ?_;refine D3 3 fun K j=>?_
    go_simp
    refine(O.out _).mono ?_;rintro e b3 ⟨rfl,f⟩;have q:=Ae C f;have E:=Af D f;try clear hSn
    have hSn:=q;clear f;refine Db j (fun a=>?_);clear j K;refine Be 4 ?_;refine D3 7 fun K j=>?_
    go_simp
    refine(a6.out _).mono ?_;rintro e b4 ⟨rfl,f⟩;have s:=Ae q f;have F:=Af E f;try clear hSn
    have hSn:=s;clear f;refine Db j (fun a=>?_);clear j K;refine Be 8 ?_;refine D3 11 fun K j=>?_
    go_simp
    refine(an.out _).mono ?_;rintro e ao ⟨rfl,f⟩;have G:=Ae s f;have Q:=Af F f;try clear hSn
    have hSn:=G;clear f;refine Db j (fun a=>?_);clear j K;refine Be 12 ?_;refine Be 13 ?_;refine wpAnyH_done Kr ?_ _;have a7:=Hq G;have X:=Hq Q;clear a hSn C D q E s F G Q;have bw:=Aa a7.out;go_wp2_with fail;go_ret;exact⟨by rw[← HE.out];rfl,X.out⟩
   ·have da:(k==1)=false:=by simpa using hh
    have bx:I.size≤65535:=by
     rcases HF.out.tree rfl with⟨h7,_⟩|⟨_,_,_,_,h8⟩
     ·exact absurd h7 hh
     ·dsimp only at h8;omega
    obtain⟨B8,b5⟩:=ex (Rc.mk (Rc.p root 3));have db:((Rc.p root 3)).length=3:=Rc.Ax _ _;have dc:=Hq (show ∀ W,Cr 83 #[root,.int .i64 3] W (.string B8) from fun W=>by rw[b5];exact Di root 3 (by omega) W);obtain⟨S8,b6⟩:=ex (Rc.mk ((((((((Rc.p 2 1)++(Rc.p b 6))++(Rc.p prev 6))++(Rc.p i 6))++(Rc.p Ab 3))++(Rc.Np ⟨ok,os,n,on⟩))++(Rc.p k 1))++(Rc.p root 3)));have dp:∀ W:World,(Op.stringOp .add S7 B8).run Tryz.prog W= .ok (.string S8) W:=fun W=>by rw[M,b5,b6];exact Eg _ _ (by(try simp only[List.length_append,Rc.Ax]);omega) W
    obtain⟨B9,b7⟩:=ex (Rc.mk (Rc.p H 3));have dd:((Rc.p H 3)).length=3:=Rc.Ax _ _;have de:=Hq (show ∀ W,Cr 83 #[H,.int .i64 3] W (.string B9) from fun W=>by rw[b7];exact Di H 3 (by omega) W);obtain⟨S9,b8⟩:=ex (Rc.mk (((((((((Rc.p 2 1)++(Rc.p b 6))++(Rc.p prev 6))++(Rc.p i 6))++(Rc.p Ab 3))++(Rc.Np ⟨ok,os,n,on⟩))++(Rc.p k 1))++(Rc.p root 3))++(Rc.p H 3)));have dq:∀ W:World,(Op.stringOp .add S8 B9).run Tryz.prog W= .ok (.string S9) W:=fun W=>by rw[b6,b7,b8];exact Eg _ _ (by(try simp only[List.length_append,Rc.Ax]);omega) W
    obtain⟨bz,ae⟩:=ex (Rc.mk (Rc.p es 2));have c6:((Rc.p es 2)).length=2:=Rc.Ax _ _;have c7:=Hq (show ∀ W,Cr 83 #[es,.int .i64 2] W (.string bz) from fun W=>by rw[ae];exact Di es 2 (by omega) W);obtain⟨c8,af⟩:=ex (Rc.mk ((((((((((Rc.p 2 1)++(Rc.p b 6))++(Rc.p prev 6))++(Rc.p i 6))++(Rc.p Ab 3))++(Rc.Np ⟨ok,os,n,on⟩))++(Rc.p k 1))++(Rc.p root 3))++(Rc.p H 3))++(Rc.p es 2)));have dh:∀ W:World,(Op.stringOp .add S9 bz).run Tryz.prog W= .ok (.string c8) W:=fun W=>by rw[b8,ae,af];exact Eg _ _ (by(try simp only[List.length_append,Rc.Ax]);omega) W
    obtain⟨ca,ag⟩:=ex (Rc.mk (Rc.t I));have cb:((Rc.t I)).length≤70000:=(by rw[Rc.Uv];omega);have cc:=Hq (show ∀ W,Cr 160 #[I] W (.string ca) from fun W=>by rw[ag];exact M1 I bx W);obtain⟨cd,ah⟩:=ex (Rc.mk (((((((((((Rc.p 2 1)++(Rc.p b 6))++(Rc.p prev 6))++(Rc.p i 6))++(Rc.p Ab 3))++(Rc.Np ⟨ok,os,n,on⟩))++(Rc.p k 1))++(Rc.p root 3))++(Rc.p H 3))++(Rc.p es 2))++(Rc.t I)));have di:∀ W:World,(Op.stringOp .add c8 ca).run Tryz.prog W= .ok (.string cd) W:=fun W=>by rw[af,ag,ah];exact Eg _ _ (by(try simp only[List.length_append,Rc.Ax]);omega) W
    have HE:=Hq (show cd=R from by rw[ah,HR.out];(congr 1)<;>(unfold Rc.Bl;rw[Rc.Ob rfl];unfold Rc.Hm;unfold Rc.M5;rw[if_neg hh];simp only[List.append_assoc]));clear hh bx;clear m L o;clear y a1 z;clear P ak M;clear b5 db b6;clear b7 dd b8;clear ae c6 af;clear ag cb ah;clear l v;go_upto_region 4 with fail;have C:=Ae x.out (Below.refl _ w1).drew;have D:=Af J.out (Below.refl _ w1).drew;refine Hw (S:=(fun u=>u.heap[g]? =some (.cells (Bt b prev i 2 Ab next T ok os n on k root I H es (.slice A U.length c) (.slice B V.length d)) 47 (0,0)))) (fun a=>?_);refine Be 0 ?_;refine Be 1 ?_;refine Be 2 ?_;refine Be 5 ?_;refine Be 6 ?_;refine Be 9 ?_;refine Be 10 ?_;refine D3 3 fun K j=>?_
    go_simp
    refine(O.out _).mono ?_;rintro e b3 ⟨rfl,f⟩;have q:=Ae C f;have E:=Af D f;try clear hSn
    have hSn:=q;clear f;refine Db j (fun a=>?_);clear j K;refine Be 4 ?_;refine D3 7 fun K j=>?_
    go_simp
    refine(a6.out _).mono ?_;rintro e b4 ⟨rfl,f⟩;have s:=Ae q f;have F:=Af E f;try clear hSn
    have hSn:=s;clear f;refine Db j (fun a=>?_);clear j K;refine Be 8 ?_;refine D3 11 fun K j=>?_
    go_simp
    refine(an.out _).mono ?_;rintro e ao ⟨rfl,f⟩;have G:=Ae s f;have Q:=Af F f;try clear hSn
    have hSn:=G;clear f;refine Db j (fun a=>?_);clear j K;refine Be 12 ?_;refine Be 13 ?_;refine wpAnyH_done Kr ?_ _;have a7:=Hq G;have X:=Hq Q;clear a hSn C D q E s F G Q;have bw:=Aa a7.out;go_upto_region 7 with fail;have cf:=Ae a7.out (Below.refl _ ao).drew;have cg:=Af X.out (Below.refl _ ao).drew;refine Hw (S:=(fun u=>u.heap[g]? =some (.cells (Bt b prev i 2 Ab next T ok os n on k root I H es (.slice A U.length c) (.slice B V.length d)) 47 (0,0)))) (fun a=>?_);refine Be 0 ?_;refine Be 1 ?_;refine Be 2 ?_;refine Be 5 ?_;refine Be 6 ?_;refine Be 7 ?_;refine Be 8 ?_;refine Be 11 ?_;refine Be 12 ?_;refine Be 13 ?_;refine Be 14 ?_;refine Be 17 ?_;refine Be 18 ?_;refine Be 19 ?_;refine D3 3 fun K j=>?_
    go_simp
    refine(dc.out _).mono ?_;rintro e dr ⟨rfl,f⟩;have b9:=Ae cf f;have ch:=Af cg f;try clear hSn
    have hSn:=b9;clear f;refine Db j (fun a=>?_);clear j K;refine Be 4 ?_;refine D3 9 fun K j=>?_
    go_simp
    refine(de.out _).mono ?_;rintro e dt ⟨rfl,f⟩;have ba:=Ae b9 f;have cj:=Af ch f;try clear hSn
    have hSn:=ba;clear f;refine Db j (fun a=>?_);clear j K;refine Be 10 ?_;refine D3 15 fun K j=>?_
    go_simp
    refine(c7.out _).mono ?_;rintro e du ⟨rfl,f⟩;have bb:=Ae ba f;have ck:=Af cj f;try clear hSn
    have hSn:=bb;clear f;refine Db j (fun a=>?_);clear j K;refine Be 16 ?_;refine D3 20 fun K j=>?_
    go_simp
    refine(cc.out _).mono ?_;rintro e dv ⟨rfl,f⟩;have bc:=Ae bb f;have cm:=Af ck f;try clear hSn
    have hSn:=bc;clear f;refine Db j (fun a=>?_);clear j K;refine Be 21 ?_;refine Be 22 ?_;refine wpAnyH_done Kr ?_ _;have dw:=Hq bc;have df:=Hq cm;clear a hSn cf cg b9 ch ba cj bb ck bc cm;go_wp2_with fail;go_ret;exact⟨by rw[← HE.out];rfl,df.out⟩
  ·have l:=Y.out
   have v:=a8.out;have N:=Aa x.out;obtain⟨-,-,-,h4,h5⟩:=(HF.out.change (by unfold Rc.E8;simp)).2;dsimp only at h4 h5;have aa:n.size≤65535:=(by omega);have ad:on.size≤65535:=(by omega);clear h4 h5;obtain⟨Z,m⟩:=ex (Rc.mk (Rc.p Ab 3));have L:((Rc.p Ab 3)).length=3:=Rc.Ax _ _;have O:=Hq (show ∀ W,Cr 83 #[Ab,.int .i64 3] W (.string Z) from fun W=>by rw[m];exact Di Ab 3 (by omega) W);obtain⟨S5,o⟩:=ex (Rc.mk (((((Rc.p 3 1)++(Rc.p b 6))++(Rc.p prev 6))++(Rc.p i 6))++(Rc.p Ab 3)));have aj:∀ W:World,(Op.stringOp .add S4 Z).run Tryz.prog W= .ok (.string S5) W:=fun W=>by rw[l,m,o];exact Eg _ _ (by(try simp only[List.length_append,Rc.Ax]);omega) W
   obtain⟨B6,y⟩:=ex (Rc.mk (Rc.Np ⟨ok,os,n,on⟩));have a1:((Rc.Np ⟨ok,os,n,on⟩)).length≤140000:=(by unfold Rc.Np;simp only[List.length_append,Rc.Ax,Rc.Uv];omega);have a6:=Hq (show ∀ W,Cr 159 #[.agg #[ok,os,n,on]] W (.string B6) from fun W=>by rw[y];exact Vn ⟨ok,os,n,on⟩ aa ad W);obtain⟨S6,z⟩:=ex (Rc.mk ((((((Rc.p 3 1)++(Rc.p b 6))++(Rc.p prev 6))++(Rc.p i 6))++(Rc.p Ab 3))++(Rc.Np ⟨ok,os,n,on⟩)));have bu:∀ W:World,(Op.stringOp .add S5 B6).run Tryz.prog W= .ok (.string S6) W:=fun W=>by rw[o,y,z];exact Eg _ _ (by(try simp only[List.length_append,Rc.Ax]);omega) W
   obtain⟨B7,P⟩:=ex (Rc.mk (Rc.p next 6));have ak:((Rc.p next 6)).length=6:=Rc.Ax _ _;have an:=Hq (show ∀ W,Cr 83 #[next,.int .i64 6] W (.string B7) from fun W=>by rw[P];exact Di next 6 (by omega) W);obtain⟨S7,M⟩:=ex (Rc.mk (((((((Rc.p 3 1)++(Rc.p b 6))++(Rc.p prev 6))++(Rc.p i 6))++(Rc.p Ab 3))++(Rc.Np ⟨ok,os,n,on⟩))++(Rc.p next 6)));have cz:∀ W:World,(Op.stringOp .add S6 B7).run Tryz.prog W= .ok (.string S7) W:=fun W=>by rw[z,P,M];exact Eg _ _ (by(try simp only[List.length_append,Rc.Ax]);omega) W
   have HE:=Hq (show S7=R from by rw[M,HR.out];(congr 1)<;>(unfold Rc.Bl;rw[Rc.P6 rfl];unfold Rc.Hm;simp only[List.append_assoc]));clear m L o;clear y a1 z;clear P ak M;clear l v;go_upto_region 9 with fail;have C:=Ae x.out (Below.refl _ w1).drew;have D:=Af J.out (Below.refl _ w1).drew;refine Hw (S:=(fun u=>u.heap[g]? =some (.cells (Bt b prev i 3 Ab next T ok os n on k root I H es (.slice A U.length c) (.slice B V.length d)) 47 (0,0)))) (fun a=>?_);refine Be 0 ?_;refine Be 1 ?_;refine Be 2 ?_;refine Be 5 ?_;refine Be 6 ?_;refine Be 9 ?_;refine Be 10 ?_;refine D3 3 fun K j=>?_
   go_simp
   refine(O.out _).mono ?_;rintro e b3 ⟨rfl,f⟩;have q:=Ae C f;have E:=Af D f;try clear hSn
   have hSn:=q;clear f;refine Db j (fun a=>?_);clear j K;refine Be 4 ?_;refine D3 7 fun K j=>?_
   go_simp
   refine(a6.out _).mono ?_;rintro e b4 ⟨rfl,f⟩;have s:=Ae q f;have F:=Af E f;try clear hSn
   have hSn:=s;clear f;refine Db j (fun a=>?_);clear j K;refine Be 8 ?_;refine D3 11 fun K j=>?_
   go_simp
   refine(an.out _).mono ?_;rintro e ao ⟨rfl,f⟩;have G:=Ae s f;have Q:=Af F f;try clear hSn
   have hSn:=G;clear f;refine Db j (fun a=>?_);clear j K;refine Be 12 ?_;refine Be 13 ?_;refine wpAnyH_done Kr ?_ _;have a7:=Hq G;have X:=Hq Q;clear a hSn C D q E s F G Q;go_wp2_with fail;go_ret;exact⟨by rw[← HE.out];rfl,X.out⟩
  ·have l:=Y.out
   have v:=a8.out;have N:=Aa x.out;obtain⟨Z,m⟩:=ex (Rc.mk (Rc.p next 6));have L:((Rc.p next 6)).length=6:=Rc.Ax _ _;have O:=Hq (show ∀ W,Cr 83 #[next,.int .i64 6] W (.string Z) from fun W=>by rw[m];exact Di next 6 (by omega) W);obtain⟨S5,o⟩:=ex (Rc.mk (((((Rc.p 4 1)++(Rc.p b 6))++(Rc.p prev 6))++(Rc.p i 6))++(Rc.p next 6)));have aj:∀ W:World,(Op.stringOp .add S4 Z).run Tryz.prog W= .ok (.string S5) W:=fun W=>by rw[l,m,o];exact Eg _ _ (by(try simp only[List.length_append,Rc.Ax]);omega) W
   have HE:=Hq (show S5=R from by rw[o,HR.out];(congr 1)<;>(unfold Rc.Bl;rw[Rc.Tm rfl];unfold Rc.Hm;simp only[List.append_assoc]));clear m L o;clear l v
   go_wp2_with(go_at_call 83;(with_reducible refine(O.out _).mono ?_);rintro e w9 ⟨rfl,bd⟩)
   go_ret;exact⟨by rw[← HE.out];rfl,Af J.out bd⟩
  ·have l:=Y.out
   have v:=a8.out;have N:=Aa x.out;obtain⟨-,-,-,h4,h5⟩:=(HF.out.change (by unfold Rc.E8;simp)).2;dsimp only at h4 h5;have aa:n.size≤65535:=(by omega);have ad:on.size≤65535:=(by omega);clear h4 h5;obtain⟨Z,m⟩:=ex (Rc.mk (Rc.p Ab 3));have L:((Rc.p Ab 3)).length=3:=Rc.Ax _ _;have O:=Hq (show ∀ W,Cr 83 #[Ab,.int .i64 3] W (.string Z) from fun W=>by rw[m];exact Di Ab 3 (by omega) W);obtain⟨S5,o⟩:=ex (Rc.mk (((((Rc.p 8 1)++(Rc.p b 6))++(Rc.p prev 6))++(Rc.p i 6))++(Rc.p Ab 3)));have aj:∀ W:World,(Op.stringOp .add S4 Z).run Tryz.prog W= .ok (.string S5) W:=fun W=>by rw[l,m,o];exact Eg _ _ (by(try simp only[List.length_append,Rc.Ax]);omega) W
   obtain⟨B6,y⟩:=ex (Rc.mk (Rc.Np ⟨ok,os,n,on⟩));have a1:((Rc.Np ⟨ok,os,n,on⟩)).length≤140000:=(by unfold Rc.Np;simp only[List.length_append,Rc.Ax,Rc.Uv];omega);have a6:=Hq (show ∀ W,Cr 159 #[.agg #[ok,os,n,on]] W (.string B6) from fun W=>by rw[y];exact Vn ⟨ok,os,n,on⟩ aa ad W);obtain⟨S6,z⟩:=ex (Rc.mk ((((((Rc.p 8 1)++(Rc.p b 6))++(Rc.p prev 6))++(Rc.p i 6))++(Rc.p Ab 3))++(Rc.Np ⟨ok,os,n,on⟩)));have bu:∀ W:World,(Op.stringOp .add S5 B6).run Tryz.prog W= .ok (.string S6) W:=fun W=>by rw[o,y,z];exact Eg _ _ (by(try simp only[List.length_append,Rc.Ax]);omega) W
   have HE:=Hq (show S6=R from by rw[z,HR.out];(congr 1)<;>(unfold Rc.Bl;rw[Rc.P7 rfl];unfold Rc.Hm;simp only[List.append_assoc]));clear m L o;clear y a1 z;clear l v;go_upto_region 13 with fail;have C:=Ae x.out (Below.refl _ w1).drew;have D:=Af J.out (Below.refl _ w1).drew;refine Hw (S:=(fun u=>u.heap[g]? =some (.cells (Bt b prev i 8 Ab next T ok os n on k root I H es (.slice A U.length c) (.slice B V.length d)) 47 (0,0)))) (fun a=>?_);refine Be 0 ?_;refine Be 1 ?_;refine Be 2 ?_;refine Be 5 ?_;refine Be 6 ?_;refine D3 3 fun K j=>?_
   go_simp
   refine(O.out _).mono ?_;rintro e b3 ⟨rfl,f⟩;have q:=Ae C f;have E:=Af D f;try clear hSn
   have hSn:=q;clear f;refine Db j (fun a=>?_);clear j K;refine Be 4 ?_;refine D3 7 fun K j=>?_
   go_simp
   refine(a6.out _).mono ?_;rintro e b4 ⟨rfl,f⟩;have s:=Ae q f;have F:=Af E f;try clear hSn
   have hSn:=s;clear f;refine Db j (fun a=>?_);clear j K;refine Be 8 ?_;refine Be 9 ?_;refine wpAnyH_done Kr ?_ _;have a7:=Hq s;have X:=Hq F;clear a hSn C D q E s F;go_wp2_with fail;go_ret;exact⟨by rw[← HE.out];rfl,X.out⟩
  ·have l:=Y.out
   have v:=a8.out;have N:=Aa x.out;have h6:=(HF.out.lists rfl).2;obtain⟨Z,m⟩:=ex (Rc.mk (Rc.Ia ⟨b,prev,i,9,Ab,next,T,⟨ok,os,n,on⟩,k,root,⟨I,H,es⟩,U,V⟩));have L:(Rc.Ia ⟨b,prev,i,9,Ab,next,T,⟨ok,os,n,on⟩,k,root,⟨I,H,es⟩,U,V⟩).length≤40000:=(by have h7:=h6.1;have h8:=h6.2.1;dsimp only at h7 h8;unfold Rc.Ia;simp only[List.length_append,Rc.Ax,Rc.Dc Rc.Mq 19 Rc.P9,Rc.Dc Rc.Iw 9 Rc.Ph];omega);have cn:=Hq (fun W (f:Bw w W)=>by have h:=gY ⟨b,prev,i,9,Ab,next,T,⟨ok,os,n,on⟩,k,root,⟨I,H,es⟩,U,V⟩ A B c d h6.1 h6.2.1 W (cp.out.below f);rw[← m]at h;exact h);dsimp only[Dp,Ec]at cn;have aj:∀ W:World,(Op.stringOp .add S4 Z).run Tryz.prog W= .ok (.string R) W:=fun W=>by
    have h1:=Eg ((((Rc.p 9 1)++(Rc.p b 6))++(Rc.p prev 6))++(Rc.p i 6)) (Rc.Ia ⟨b,prev,i,9,Ab,next,T,⟨ok,os,n,on⟩,k,root,⟨I,H,es⟩,U,V⟩) (by omega) W;rw[← l,← m]at h1;have h2:Rc.mk (((((Rc.p 9 1)++(Rc.p b 6))++(Rc.p prev 6))++(Rc.p i 6))++Rc.Ia ⟨b,prev,i,9,Ab,next,T,⟨ok,os,n,on⟩,k,root,⟨I,H,es⟩,U,V⟩)=R:=(by rw[HR.out];(congr 1)<;>(unfold Rc.Bl;rw[Rc.Yn rfl];unfold Rc.Hm;simp only[List.append_assoc]));rw[h2]at h1;exact h1
   clear m L l v h6
   go_wp2_with(first|with_reducible refine lL x.out Ca ?_|(go_at_call 161;(with_reducible refine(cn.out _ J.out).mono ?_);rintro e w9 ⟨rfl,bd⟩))
   go_ret;exact⟨rfl,Af J.out bd⟩
theorem nX (r:Rc.Rec)(f:¬ Rc.Bz r)(A D:Option Addr)(c d:Nat)(w:World)(g:Hc w r A c D d):
 Cr 73 #[Dp r (.slice A r.txns.length c) (.slice D r.dirty.length d)] w (.tuple #["",.int .i64 1]):=by
 have a:=Hq (fun W (h:Bw w W)=>Kw r A D c d W (g.below h));have i:Rc.Et r=false:=by
  cases h:Rc.Et r with
  |false=>rfl
  |true=>exact absurd (Rc.Kn.1 h) f
 rw[i]at a;have j:=Hq (heap_alloc_new w (.cells (Ec r (.slice A r.txns.length c) (.slice D r.dirty.length d)) 47));clear f i g;obtain⟨k,prev,l,kind,Ab,next,n,⟨ok,os,o,on⟩,m,root,⟨p,q,es⟩,s,t⟩:=r;dsimp only[Dp,Ec]at a j ⊢;go_enter Tryz.func73,Tryz.ntmps73
 go_wp2_with(first
  |with_reducible refine lL j.out Ca ?_
  |(go_at_call 102;(with_reducible refine(a.out _ (Ag _ _)).mono ?_);rintro e u ⟨rfl,b⟩))
 go_ret2;exact⟨rfl,Af (Ag _ _) b⟩
theorem gZ (r:Rc.Rec)(t:Rc.Bz r)(A D:Option Addr)(c d:Nat)(w:World)(C:Hc w r A c D d):
 Cr 73 #[Dp r (.slice A r.txns.length c) (.slice D r.dirty.length d)] w (.tuple #[.string ⟨(Lg.Co r).toArray⟩,()]):=by
 have u:=Hq (fun W (h:Bw w W)=>Kw r A D c d W (C.below h));rw[Rc.I0 t]at u;have v:=Hq (fun W (h:Bw w W)=>Rv r t A D c d W (C.below h));have hlen:=Rc.I1 t;obtain⟨L,x⟩:=ex (Rc.Bl r);have f:(⟨(Lg.Co r).toArray⟩:ByteArray)=Rc.mk (Rc.p (L.length:Int) 4++Rc.p ((Oct.Fg L:Nat):Int) 4++L):=by
  have P:L.length≤40000:=by rw[x];exact hlen.2
  have J:Oct.word (L.length:Int)=L.length:=Oct.El _ (by omega);have K:Oct.word ((Oct.Fg L:Nat):Int)=Oct.Fg L:=Oct.El _ (by have:=Oct.Xy L;omega);unfold Lg.Co Rc.mk Rc.p;rw[J,K,← x,List.append_assoc]
 rw[f];rw[← x]at v hlen;clear f;have E:L.length≤40000:=by omega
 have z:=Hq (fun W=>Nc (Rc.mk L) (by rw[Rc.J8];omega) W);rw[show(Rc.mk L).data.toList=L from rfl]at z;have g:=Hq (fun W=>show Cr 83 #[.int .i64 (L.length:Int),.int .i64 4] W (.string (Rc.mk (Rc.p (L.length:Int) 4))) from Di (L.length:Int) 4 (by omega) W);have i:=Hq (fun W=>show Cr 83 #[.int .i64 ((Oct.Fg L:Nat):Int),.int .i64 4] W (.string (Rc.mk (Rc.p ((Oct.Fg L:Nat):Int) 4))) from Di ((Oct.Fg L:Nat):Int) 4 (by omega) W);have l:∀ n,(Rc.p n 4).length=4:=fun n=>Oct.A0 _ _;have a:=fun W=>Eg (Rc.p (L.length:Int) 4) (Rc.p ((Oct.Fg L:Nat):Int) 4) (by rw[l,l];omega) W;have b:=fun W=>Eg (Rc.p (L.length:Int) 4++Rc.p ((Oct.Fg L:Nat):Int) 4) L (by rw[List.length_append,l,l];omega) W;have j:(Rc.mk L).size=L.length:=Rc.J8 L;generalize ((Oct.Fg L:Nat):Int)=q at z i a b ⊢;obtain⟨z3,m⟩:=ex (Rc.mk (Rc.p (L.length:Int) 4++Rc.p q 4++L));rw[← m]at b ⊢;obtain⟨z2,o⟩:=ex (Rc.mk (Rc.p (L.length:Int) 4++Rc.p q 4));rw[← o]at a b;clear o m;generalize Rc.mk (Rc.p (L.length:Int) 4)=x1 at g a;generalize Rc.mk (Rc.p q 4)=x2 at i a;generalize Rc.mk L=y at v z b j;rw[← j]at g;clear x t hlen E j l;have B:=Hq (heap_alloc_new w (.cells (Ec r (.slice A r.txns.length c) (.slice D r.dirty.length d)) 47));clear C;obtain⟨M,prev,N,kind,Ab,next,Q,⟨ok,os,R,on⟩,O,root,⟨S,T,es⟩,U,V⟩:=r;dsimp only[Dp,Ec]at u B v ⊢;go_enter Tryz.func73,Tryz.ntmps73
 go_upto_region 3 with(first
  |with_reducible refine lL B.out Ca ?_
  |(go_at_call 102;(with_reducible refine(u.out _ (Ag _ _)).mono ?_);rintro e X ⟨rfl,k⟩))
 have s:=Hq (Af (Ag w _) k);have F:=Hq (Ae B.out k);clear k B u
 go_wp2_with(first
  |with_reducible refine lL F.out Ca ?_
  |(go_at_call 103;(with_reducible refine(v.out _ s.out).mono ?_);rintro e Y ⟨rfl,G⟩)
  |(go_at_call 83;(with_reducible refine(g.out _).mono ?_);rintro e Z ⟨rfl,H⟩)
  |(go_at_call 84;(with_reducible refine(z.out _).mono ?_);rintro e w4 ⟨rfl,rfl⟩)
  |(go_at_call 83;(with_reducible refine(i.out _).mono ?_);rintro e w5 ⟨rfl,I⟩))
 go_ret2;exact⟨rfl,Af (Af (Af s.out G) H) I⟩
theorem nY (a n:Int)(w:World):
 Cr 31 #[a,n] w (Qc ⟨a,n,0,0,⟨#[]⟩⟩):=by
 have b:=Hq (heap_alloc_new w (.cells #[(),(),(),(),""] 30));go_enter Tryz.func31,Tryz.ntmps31
 go_wp2_with(with_reducible refine lS #[a,n,(),(),""] b.out ?_)
 refine rT1 b.out Ks ?_;exact⟨rfl,((Fc.nil (Below.refl w.heap.size w)).new (by simp) #[(),(),(),(),""] 30).row 0 _ _ rfl|>.below⟩
def Lg.Qw (n:Int):Int:=if n<0∨1099511627776<n then 0 else n*128
theorem nZ (f n e s:Int)(t:ByteArray)(w:World):
 Cr 74 #[.agg #[f,n,e,s,t]] w (.int .i64 (Lg.Qw n)):=by
 by_cases a:n<0
 ·rw[show Lg.Qw n=0 by unfold Lg.Qw;rw[if_pos (.inl a)]]
  go_enter Tryz.func74,Tryz.ntmps74;go_wp2_with fail;go_ret;exact⟨by simp,Ag _ _⟩
 ·by_cases b:1099511627776<n
  ·rw[show Lg.Qw n=0 by unfold Lg.Qw;rw[if_pos (.inr b)]]
   go_enter Tryz.func74,Tryz.ntmps74;go_wp2_with fail;go_ret;exact⟨by simp,Ag _ _⟩
  ·rw[show Lg.Qw n=n*128 by unfold Lg.Qw;rw[if_neg (by omega)]]
   have c:IntKind.i64.wrap (n*128)=n*128:=IntWalk.i64_in _ (by omega);go_enter Tryz.func74,Tryz.ntmps74;go_wp2_with fail;go_ret;exact⟨by simp,Ag _ _⟩
theorem dB (l:Lg.Lo)(ag:0≤l.end_)(ah:l.end_≤1000000000)(ai:0≤l.n)(aj:l.n≤1000000000)(ht:l.tail.size≤1000000000)(r:Rc.Rec)(A D:Option Addr)(c d:Nat)(w:World)(R:Hc w r A c D d):
 Cq 30 #[Qc l,Dp r (.slice A r.txns.length c) (.slice D r.dirty.length d)] w (Yx (Lg.Bf l r) w):=by
 have O:=Hq (fun y W (hb:Bw w W)=>gZ {r with lsn:=l.end_+1} y A D c d W ⟨R.txns.below hb,R.dirty.below hb,R.small⟩);have P:=Hq (fun y W (hb:Bw w W)=>nX {r with lsn:=l.end_+1} y A D c d W ⟨R.txns.below hb,R.dirty.below hb,R.small⟩);have HN:=Hq (@Lg.Qd l r);have H:=Hq (@Lg.Sl l r);have I:=Hq (@Lg.Xa l r);generalize Lg.Bf l r=o at HN H I ⊢;clear R;obtain⟨i,n,en,j,f⟩:=l;obtain⟨lsn,prev,a,kind,Ab,next,z,⟨ok,os,B,on⟩,b,root,⟨C,E,es⟩,F,G⟩:=r;dsimp only[Dp,Ec,Qc]at O P HN H I ag ah ai aj ht ⊢;have ar:IntKind.i64.wrap (en+1)=en+1:=IntWalk.i64_in _ (by omega)
 by_cases y:Rc.Bz ⟨en+1,prev,a,kind,Ab,next,z,⟨ok,os,B,on⟩,b,root,⟨C,E,es⟩,F,G⟩
 ·have HP:=Hq (O.out y)
  have v:=Hq (H.out y);have k:=Hq (I.out y);have J:(Lg.Co ⟨en+1,prev,a,kind,Ab,next,z,⟨ok,os,B,on⟩,b,root,⟨C,E,es⟩,F,G⟩).length≤40008:=by rw[Lg.Fp];have:=(Rc.I1 y).2;omega
  obtain⟨x,hx⟩:=ex (⟨(Lg.Co ⟨en+1,prev,a,kind,Ab,next,z,⟨ok,os,B,on⟩,b,root,⟨C,E,es⟩,F,G⟩).toArray⟩:ByteArray);have a6:(Lg.Co ⟨en+1,prev,a,kind,Ab,next,z,⟨ok,os,B,on⟩,b,root,⟨C,E,es⟩,F,G⟩).length=x.size:=by rw[hx];show _=((Lg.Co ⟨en+1,prev,a,kind,Ab,next,z,⟨ok,os,B,on⟩,b,root,⟨C,E,es⟩,F,G⟩).toArray).size;simp
  rw[a6]at v k J;rw[← hx]at HP k;have au:=J;clear O P HN H I y hx a6 J;go_enter Tryz.func30,Tryz.ntmps30;go_upto_region 1 with fail;have q:=Ti w #[i,n,en,j,f] 30 (Bt lsn prev a kind Ab next z ok os B on b root C E es (.slice A F.length c) (.slice D G.length d)) 47 #[(),(),(),(),""] 30;obtain⟨T,s⟩:=Gz q;have U:T.heap.size=w.heap.size+3:=by rw[s];simp
  rw[← s]at q ⊢;have V:=Aa q.out.Am;have X:=Aa q.out.As;have Y:=Aj q.out.As;clear s;go_upto_region 2 with fail;have H1:=Hq (show Fc w.heap.size w [(#[i,n,en,j,f],30),((Bt (en+1) prev a kind Ab next z ok os B on b root C E es (.slice A F.length c) (.slice D G.length d)),47),(#[(),(),(),(),""],30)] (T.setCell ⟨w.heap.size+1,0,none⟩ (.int .i64 (en+1)))from by have h:=q.out.set 1 0 (.int .i64 (en+1)) _ rfl;simpa using h);obtain⟨W1,L⟩:=ex (T.setCell ⟨w.heap.size+1,0,none⟩ (.int .i64 (en+1)));rw[← L]at H1 ⊢;clear L V X Y q U;have M:=Hq H1.out.As
  go_upto_region 3 with(first
   |with_reducible refine lL M.out Ca ?_
   |(go_at_call 73;(with_reducible refine(HP.out _ H1.out.below).mono ?_);rintro e w2 ⟨rfl,N⟩))
  have p:=Hq (H1.out.step N);clear N H1 M HP;have Q:=Hq (show w2.drew.heap[w.heap.size]? =some (.cells #[i,n,en,j,f] 30 (0,0))from by have h:=p.out.drew.get 0 _ rfl;simpa using h);have a7:=Hq (fun W=>show Cr 74 #[.agg #[i,n,en,j,f]] W (.int .i64 (n*128)) from by
   have h9:=nZ i n en j f W;rw[show Lg.Qw n=n*128 from by unfold Lg.Qw;rw[if_neg (by omega)]]at h9;exact h9)
  go_upto_region 5 with fail;refine Hw (S:=(fun u=>u.heap[w.heap.size]? =some (.cells #[i,n,en,j,f] 30 (0,0)))) (fun g=>?_) (by first|exact hSn|exact Q.out);refine Be 0 ?_;refine Be 1 ?_;refine tkL 2 Ks ?_;refine Be 4 ?_;refine Be 5 ?_;refine D3 3 fun K hK=>?_
  go_simp
  refine(a7.out _).mono ?_;rintro e w3 ⟨rfl,Z⟩;have hSn:=Ae Q.out Z;refine Db hK (fun g=>?_) (by first|exact hSn|exact Q.out);clear hK K;refine Be 6 ?_;refine Be 7 ?_;refine wpAnyH_done Kr ?_ _;clear g hSn a7 Q;have a8:=Hq (p.out.drew.step Z);clear Z p;have p:=a8;clear a8;have hm:IntKind.i64.wrap (n*128)=n*128:=IntWalk.i64_in _ (by omega);have av:IntKind.i64.wrap (n*128-en)=n*128-en:=IntWalk.i64_in _ (by omega);have aw:IntKind.i64.wrap (en+(x.size:Int))=en+(x.size:Int):=IntWalk.i64_in _ (by omega);have ax:n*128-en<(x.size:Int)↔n*128-(x.size:Int)<en:=by omega
  by_cases ak:n*128-en<(x.size:Int)
  ·have HO:=Hq (v.out (by omega))
   have m:=Hq (show w3.heap[w.heap.size]? =some (.cells #[i,n,en,j,f] 30 (0,0))from by have h:=p.out.Am;simpa using h);have aa:=Aa m.out;clear v k
   go_wp2_with(first
    |with_reducible refine lL m.out Ks ?_
    |with_reducible refine lS #[i,n,en,j,f] p.out.Cc ?_)
   refine rT3 () (.int .i64 18) p.out.Cc Ks ?_;rw[HO.out];exact⟨rfl,(p.out.row 2 _ _ rfl).below⟩
  ·have HO:=Hq (k.out (by omega))
   have ad:∀ W:World,(Op.stringOp .add f x).run Tryz.prog W= .ok (.string (f++x)) W:=fun W=>run_string_add_sum W _ _ (by omega);have m:=Hq (show w3.heap[w.heap.size]? =some (.cells #[i,n,en,j,f] 30 (0,0))from by have h:=p.out.Am;simpa using h);have aa:=Aa m.out;have an:=Aj m.out;clear v k;go_upto_region 8 with fail;have H3:=Hq (show Fc w.heap.size w [(#[i,n,en,j,.string (f++x)],30),((Bt (en+1) prev a kind Ab next z ok os B on b root C E es (.slice A F.length c) (.slice D G.length d)),47),(#[(),(),(),(),""],30)] (w3.setCell ⟨w.heap.size,4,none⟩ (.string (f++x)))from by have h:=p.out.set 0 4 (.string (f++x)) _ rfl;simpa using h);obtain⟨W3,ae⟩:=ex (w3.setCell ⟨w.heap.size,4,none⟩ (.string (f++x)));rw[← ae]at H3 ⊢;clear ae aa an m p;have ao:=Aa H3.out.Am;have aq:=Aj H3.out.Am;go_upto_region 9 with fail;have H4:=Hq (show Fc w.heap.size w [(#[i,n,.int .i64 (en+(x.size:Int)),j,.string (f++x)],30),((Bt (en+1) prev a kind Ab next z ok os B on b root C E es (.slice A F.length c) (.slice D G.length d)),47),(#[(),(),(),(),""],30)] (W3.setCell ⟨w.heap.size,2,none⟩ (.int .i64 (en+(x.size:Int))))from by have h:=H3.out.set 0 2 (.int .i64 (en+(x.size:Int))) _ rfl;simpa using h);obtain⟨W4,af⟩:=ex (W3.setCell ⟨w.heap.size,2,none⟩ (.int .i64 (en+(x.size:Int))));rw[← af]at H4 ⊢;clear af ao aq H3 ad;have t:=Hq H4.out.drew;refine Hw (S:=(fun u=>u.heap[w.heap.size]? =some (.cells #[i,n,.int .i64 (en+(x.size:Int)),j,.string (f++x)] 30 (0,0))∧u.heap[w.heap.size+1]? =some (.cells (Bt (en+1) prev a kind Ab next z ok os B on b root C E es (.slice A F.length c) (.slice D G.length d)) 47 (0,0)))) (fun g=>?_) (by first|exact hSn|exact⟨(by have h:=t.out.Am;simpa using h),t.out.As⟩);refine Be 0 ?_;refine Be 1 ?_;refine Be 2 ?_;refine D3 3 fun K hK=>?_;refine Cp (by rfl) ?_;refine sW #[i,n,.int .i64 (en+(x.size:Int)),j,.string (f++x)] t.out.Cc ?_;have a1:=t.out.row 2 #[i,n,.int .i64 (en+(x.size:Int)),j,.string (f++x)] _ rfl;have hSn:=And.intro (show _=some (Obj.cells #[i,n,.int .i64 (en+(x.size:Int)),j,.string (f++x)] 30 (0,0))from by have h:=a1.get 0 _ rfl;simpa using h) (a1.get 1 _ rfl);refine Db hK (fun g=>?_) (by first|exact hSn|exact⟨(by have h:=t.out.Am;simpa using h),t.out.As⟩);clear hK K
   try simp only[Act.put]
   refine Be 4 ?_;refine Be 5 ?_;refine wpAnyH_done Kr ?_ _;clear g;go_wp2_with fail;refine rT3 (.int .i64 (en+1)) () t.out.Cc Ks ?_;rw[HO.out];exact⟨rfl,a1.below⟩
 ·have HO:=Hq (HN.out y)
  have HP:=Hq (P.out y);clear O P HN H I y;go_enter Tryz.func30,Tryz.ntmps30;go_upto_region 1 with fail;have q:=Ti w #[i,n,en,j,f] 30 (Bt lsn prev a kind Ab next z ok os B on b root C E es (.slice A F.length c) (.slice D G.length d)) 47 #[(),(),(),(),""] 30;obtain⟨T,s⟩:=Gz q;have U:T.heap.size=w.heap.size+3:=by rw[s];simp
  rw[← s]at q ⊢;have V:=Aa q.out.Am;have X:=Aa q.out.As;have Y:=Aj q.out.As;clear s;go_upto_region 2 with fail;have H1:=Hq (show Fc w.heap.size w [(#[i,n,en,j,f],30),((Bt (en+1) prev a kind Ab next z ok os B on b root C E es (.slice A F.length c) (.slice D G.length d)),47),(#[(),(),(),(),""],30)] (T.setCell ⟨w.heap.size+1,0,none⟩ (.int .i64 (en+1)))from by have h:=q.out.set 1 0 (.int .i64 (en+1)) _ rfl;simpa using h);obtain⟨W1,L⟩:=ex (T.setCell ⟨w.heap.size+1,0,none⟩ (.int .i64 (en+1)));rw[← L]at H1 ⊢;clear L V X Y q U;have M:=Hq H1.out.As
  go_upto_region 3 with(first
   |with_reducible refine lL M.out Ca ?_
   |(go_at_call 73;(with_reducible refine(HP.out _ H1.out.below).mono ?_);rintro e w3 ⟨rfl,N⟩))
  have p:=Hq (H1.out.step N);clear N H1 M HP;have m:=Hq (show w3.heap[w.heap.size]? =some (.cells #[i,n,en,j,f] 30 (0,0))from by have h:=p.out.Am;simpa using h)
  go_wp2_with(first
   |with_reducible refine lL m.out Ks ?_
   |with_reducible refine lS #[i,n,en,j,f] p.out.Cc ?_)
  refine rT3 () (.int .i64 1) p.out.Cc Ks ?_;rw[HO.out];exact⟨rfl,(p.out.row 2 _ _ rfl).below⟩
open Sc
theorem vY (z:Array Value)(n i:Nat)(hi:i<n):(madeCells z n)[i]? =some (z[i%z.size]!):=by
 unfold madeCells;rw[Array.getElem?_map,Array.getElem?_range,if_pos hi];rfl
theorem oA (k:Nat):madeCells (Value.agg #[(),"",(),false,()]).cells (k*5)=((Ed k).flatMap Me).toArray:=by
 have g:((Ed k).flatMap Me).length=k*5:=by rw[Dc E3,Hu]
 apply Array.ext_getElem?
 intro i;have c:((Ed k).flatMap Me).toArray[i]? =((Ed k).flatMap Me)[i]? :=by simp
 rw[c]
 by_cases d:i<k*5
 ·have e:i=i/5*5+i%5:=by omega
  have a:i/5<(Ed k).length:=by rw[Hu];omega
  have b:=Ju E3 (Ed k) (i/5) (i%5) a (by omega);rw[← e,Es a]at b;rw[vY _ _ _ d,b];have f:i%5=0∨i%5=1∨i%5=2∨i%5=3∨i%5=4:=by omega
  show some (#[Value.int .i64 0,"",(),false,()][i%5]!)=_
  rcases f with h|h|h|h|h<;>rw[h]<;>rfl
 ·rw[Array.getElem?_eq_none (by rw[size_madeCells];omega),List.getElem?_eq_none (by omega)]
theorem Xn (k:Nat)(e:k≤64)(W:World):(Instr.makeSlice 31 (.int .i64 (k:Int)) (.int .i64 (k:Int))).run Tryz.prog W= .ok (.slice (some ⟨W.heap.size,0,none⟩) k k) (W.alloc (.cells ((Ed k).flatMap Me).toArray 95)):=by
 obtain⟨i0,d,a,b,c⟩:=info_parts kD;have h:=run_make (P:=Tryz.prog) W 31 95 i0 (.agg #[(),"",(),false,()]) yZ d a .i64 .i64 (k:Int) (k:Int) (by omega) (by omega) (by rw[c];omega) (by omega);rw[b,Int.toNat_natCast,oA]at h;exact h
def yH (k:Nat)(w:World)(e:Ending)(w':World):Prop:=
 ∃ b,e= .returned (.tuple #[.agg #[.slice (some ⟨b,0,none⟩) k k,()],()])∧Reads w' (some ⟨b,0,none⟩) k k ((Ed k).flatMap Me)∧Df w.heap.size w' 95 (some ⟨b,0,none⟩)∧Bw w w'
theorem oB (k:Nat)(j:1≤k∧k≤64)(w:World):
 Cq 16 #[.int .i64 (k:Int)] w (yH k w):=by
 have f:=fun W=>Xn k j.2 W;have l:¬ (k:Int)<1:=by omega
 have m:¬ (64:Int)<(k:Int):=by omega
 generalize b:((Ed k).flatMap Me).toArray=fr at f;have g:=Hq b;clear b;go_enter Tryz.func16,Tryz.ntmps16;go_upto_region 1 with fail;have d:=yB w #['s',()] 33;obtain⟨a,c⟩:=Gz d;rw[← c]at d ⊢;clear c;go_upto_region 3 with fail;have H1:=Hq (d.out.step (Ag a (.cells fr 95)));have n:=Hq (heap_alloc_new a (.cells fr 95))
 go_wp2_with(with_reducible refine lS #[.slice (some ⟨a.heap.size,0,none⟩) k k,()] H1.out.Am ?_)
 refine rT2 () H1.out.Am zI ?_;have o:w.heap.size<a.heap.size:=by have:=d.out.lt (i:=0) (by simp);omega
 have h:=(Aw (a.alloc (.cells fr 95)) w.heap.size #[.slice (some ⟨a.heap.size,0,none⟩) k k,()] a.heap.size (by omega)).trans n.out;refine⟨a.heap.size,rfl,Gr (T:=95) (by rw[h,← g.out]) (Nat.le_refl _),fun p e=>?_,(H1.out.row 0 _ _ rfl).below⟩
 injection e with e
 subst e;exact⟨by show w.heap.size≤a.heap.size;omega,_,_,h⟩
noncomputable def Gp (N:Nat):Lg.Lo×Int×Int:=Lg.Bf ⟨1,(N:Int),0,0,⟨#[]⟩⟩ (Rc.bare 1 0 0 1)
noncomputable def By (N n k:Nat):Tx.St:={sF N n k with log:=(Gp N).1,txns:=[⟨1,(Gp N).2.1,(Gp N).2.1,false⟩],next:=2}
theorem Rw {N n k:Nat}(a:1≤n∧n≤60∧N≤3000)(f:10≤N)(b:1≤k∧k≤64):∃ g:Lg.Lo,Gp N=(g,1,0)∧PI N n {sF N n k with log:=g} (Ed k) (fun _=>Gj (0:Nat)):=by
 have c:PI N n (sF N n k) (Ed k) (fun _=>Gj (0:Nat)):=zC a b;obtain⟨g2,e,d,_,_⟩:=c.log (Rc.bare 1 0 0 1) (.small 1 _ 0 1 (.inl rfl) ⟨by show(0:Int)≤0+1;decide,by show(0:Int)+1<_;decide⟩ Rc.Aax ⟨by decide,by decide⟩) (by show(1:Int)≠9;decide) (by show(0:Int)+1262≤(N:Int)*128;omega);exact⟨g2,e,d⟩
theorem oC (N:Nat):Zc N (Gp N).1:=by
 refine Zc.append (l:=⟨1,(N:Int),0,0,⟨#[]⟩⟩) ⟨Int.le_refl _,?_,Int.le_refl _,Int.le_refl _,rfl,rfl,⟨Int.le_refl _,Int.le_refl _,rfl⟩⟩ _
 show(0:Int)≤(N:Int)*128
 omega
theorem Zh:Rc.num 1:=⟨by decide,by decide⟩
theorem Vo {N n k:Nat}(d:1≤n∧n≤60∧N≤3000)(o:10≤N)(l:1≤k∧k≤64):Wf N n 0 (By N n k) (Ed k):=by
 have a:=oC N;obtain⟨g,e,_⟩:=Rw d o l;have s:=a.ef;have p:=a.n;refine⟨rfl,rfl,d,⟨a.e0,by show(Gp N).1.end_≤_;omega,a.t0,a.t1,a.f,by show 0≤(Gp N).1.n;omega,by show(Gp N).1.n≤_;omega,a.al.s0,a.al.se⟩,a.al,a.n,a.ef,
  ⟨fun x q=>?_,⟨by show _≤(-1:Int);decide,by show(-1:Int)≤_;decide⟩,List.length_replicate⟩,by rw[Hu];exact l,⟨Int.le_refl _,(by decide:(0:Int)≤64)⟩,fun i b=>?_,fun i j b u _ m _=>?_,by show 1≤800000;omega,fun t r=>?_⟩
 ·rw[(List.mem_replicate.1 q).2];exact Lg.J1
 ·rw[Es b]
  exact⟨by decide,⟨Int.le_refl _,Int.le_refl _⟩,Jj,⟨Int.le_refl _,by show(0:Int)<(n:Int);omega⟩,fun h=>absurd rfl h,fun h=>absurd rfl h⟩
 ·rw[Full,Es b]at m;exact absurd rfl m
 ·have c:t=⟨1,(Gp N).2.1,(Gp N).2.1,false⟩:=by simpa[By]using r
  rw[c,e];exact⟨Zh,Zh,Zh⟩
theorem dC {N n k:Nat}(a:1≤n∧n≤60∧N≤3000)(b:10≤N)(c:1≤k∧k≤64):PQ N n (By N n k) (Ed k) (fun _=>Gj (0:Nat)):=by
 obtain⟨g,e,h⟩:=Rw a b c;exact⟨rfl,rfl,by show Pw _ _ (sF N n k).Ai (Gp N).1;rw[e];exact h.pw,⟨h.fr.at_,h.fr.ds⟩,h.nm,h.dk⟩
theorem Vp (N n k:Nat)(hn:1≤n∧n≤60∧N≤3000)(hk:1≤k∧k≤64)(w:World):
 Cq 7 #[.agg #[.int .i64 (N:Int),.int .i64 (n:Int),.int .i64 (k:Int)]] w fun e w'=>∃ q:SP,e= .returned (Ar (By N n k) q)∧Ba w' (By N n k) q (Ed k)∧Bw w w':=by
 have r:=Hq (fun W=>show Cq 29 #[.int .i64 ((1+N+4*n:Nat):Int)] W (Yv (Lg.Kp (1+N+4*n)) W)from qX (1+N+4*n) (by omega) (by omega) W);have a1:=Hq (fun W=>oB k hk W);have a6:=Hq (fun W=>nY 1 (N:Int) W);have v:=Hq (fun W=>show Cq 30 #[Qc ⟨1,(N:Int),0,0,⟨#[]⟩⟩,.agg #[(),(),.int .i64 1,.int .i64 1,(),(),(),(),(),"","",(),(),"",(),(),'s','s']] W (Yx (Gp N) W)from by
  have h0:=dB ⟨1,(N:Int),0,0,⟨#[]⟩⟩ (Int.le_refl _) (by show(0:Int)≤1000000000;decide) (by show(0:Int)≤(N:Int);omega) (by show(N:Int)≤_;omega) (by show(0:Nat)≤1000000000;omega) (Rc.bare 1 0 0 1) none none 0 0 W (cN (Rc.bare 1 0 0 1) W rfl rfl);exact h0)
 have az:IntKind.i64.wrap (1+(N:Int))=1+(N:Int):=IntWalk.i64_in _ (by omega);have b0:IntKind.i64.wrap (4*(n:Int))=4*(n:Int):=IntWalk.i64_in _ (by omega);have ar:IntKind.i64.wrap (1+(N:Int)+4*(n:Int))=((1+N+4*n:Nat):Int):=(IntWalk.i64_in _ (by omega)).trans (by omega);have HS:=Hq (show By N n k=⟨(N:Int),(n:Int),(k:Int),Lg.Kp (1+N+4*n),(Gp N).1,0,[⟨1,(Gp N).2.1,(Gp N).2.1,false⟩],2⟩from rfl);generalize By N n k=S at HS ⊢;have x:(Lg.Kp (1+N+4*n)).left= -1∧(Lg.Kp (1+N+4*n)).down=false:=⟨rfl,rfl⟩;have HQ:=Hq (fun(w':World) (q:SP) (hp:Ba w' S q (Ed k)) (hb:Bw w w')=>show(fun(e:Ending) (w':World)=>∃ q:SP,e= .returned (Ar S q)∧Ba w' S q (Ed k)∧Bw w w') (.returned (Ar S q)) w' from⟨q,rfl,hp,hb⟩);generalize (fun(e:Ending) (w':World)=>∃ q:SP,e= .returned (Ar S q)∧Ba w' S q (Ed k)∧Bw w w')=Q at HQ ⊢;generalize Lg.Kp (1+N+4*n)=d at r HS x;obtain⟨L,dl,dd⟩:=d;simp only at x;obtain⟨rfl,rfl⟩:=x;generalize Gp N=a at v HS;obtain⟨l,b,le⟩:=a;simp only at HS;generalize hM:((1+N+4*n:Nat):Int)=M at r ar;clear hM;go_enter Tryz.func7,Tryz.ntmps7;go_upto_region 1 with fail;have X:=O2 w #[.int .i64 (N:Int),.int .i64 (n:Int),.int .i64 (k:Int)] 25 #[(),(),(),'s',(),false,(),(),(),(),"",'s',(),'s',()] 36;obtain⟨W0,a7⟩:=Gz X;rw[← a7]at X ⊢;clear a7;have y:=show W0.cell? ⟨w.heap.size,0,none⟩=some (.int .i64 (N:Int))from by rw[Aa X.out.Am];rfl
 have au:=show W0.cell? ⟨w.heap.size,1,none⟩=some (.int .i64 (n:Int))from by rw[Aa X.out.Am];rfl
 go_upto_region 2 with(first
  |(go_at_call 29;refine(r.out _).mono ?_;rintro e Y ⟨A,c,rfl,a8,aa,z⟩)
  |with_reducible refine sN #[.slice A L.length c,.int .i64 (-1),false] ?_)
 have ae:=z.trans ((Ag Y (.cells #[.slice A L.length c,.int .i64 (-1),false] 28)).mono z.size);have H2:=Hq (X.out.step ae);have B:=Hq (heap_alloc_new Y (.cells #[.slice A L.length c,.int .i64 (-1),false] 28));have C:=Hq (a8.below (Ag Y (.cells #[.slice A L.length c,.int .i64 (-1),false] 28)));have D:=Hq (aa.below (Ag Y (.cells #[.slice A L.length c,.int .i64 (-1),false] 28)));obtain⟨g1,E⟩:=ex Y.heap.size;obtain⟨w2,h⟩:=ex (Y.alloc (.cells #[.slice A L.length c,.int .i64 (-1),false] 28));rw[← E,← h]at B;rw[← h]at H2 C D;rw[← h,← E];clear h E z ae X a8 aa y au
 try simp only[Act.put]
 have av:=show w2.cell? ⟨w.heap.size,2,none⟩=some (.int .i64 (k:Int))from by rw[Aa H2.out.Am];rfl
 go_upto_region 3 with(first
  |(go_at_call 16;refine(a1.out _).mono ?_;rintro e Z ⟨m,rfl,af,ag,F⟩)
  |with_reducible refine sN #[.slice (some ⟨m,0,none⟩) k k,()] ?_)
 have o:=F.trans ((Ag Z (.cells #[.slice (some ⟨m,0,none⟩) k k,()] 33)).mono F.size);have H4:=Hq (H2.out.step o);have G:=Hq (Ae B.out o);have H:=Hq (heap_alloc_new Z (.cells #[.slice (some ⟨m,0,none⟩) k k,()] 33));have I:=Hq (C.out.below o);have J:=Hq (D.out.below o);have K:=Hq (af.below (Ag Z (.cells #[.slice (some ⟨m,0,none⟩) k k,()] 33)));have p:=Hq (ag.below (Ag Z (.cells #[.slice (some ⟨m,0,none⟩) k k,()] 33)));obtain⟨g2,O⟩:=ex Z.heap.size;obtain⟨w4,i⟩:=ex (Z.alloc (.cells #[.slice (some ⟨m,0,none⟩) k k,()] 33));rw[← O,← i]at H;rw[← i]at H4 G I J K p;rw[← i,← O];clear i O F o H2 B C D af ag av r a1
 try simp only[Act.put]
 have y:=show w4.cell? ⟨w.heap.size,0,none⟩=some (.int .i64 (N:Int))from by rw[Aa H4.out.Am];rfl
 go_upto_region 4 with(first
  |(go_at_call 31;refine(a6.out _).mono ?_;rintro e w5 ⟨rfl,ah⟩)
  |(go_at_call 30;refine(v.out _).mono ?_;rintro e w6 ⟨rfl,ai⟩)
  |with_reducible refine sN #[l.from_,l.n,l.end_,l.safe,l.tail] ?_)
 have f:=Af ah (Af ai (Ag w6 (.cells #[l.from_,l.n,l.end_,l.safe,l.tail] 30)));have H7:=Hq (H4.out.step f);have P:=Hq (Ae G.out f);have R:=Hq (Ae H.out f);have U:=Hq (heap_alloc_new w6 (.cells #[l.from_,l.n,l.end_,l.safe,l.tail] 30));have aj:=Hq (I.out.below f);have ak:=Hq (J.out.below f);have an:=Hq (K.out.below f);have s:=Hq (p.out.below f);obtain⟨g3,V⟩:=ex w6.heap.size;obtain⟨u,j⟩:=ex (w6.alloc (.cells #[l.from_,l.n,l.end_,l.safe,l.tail] 30));rw[← V,← j]at U;rw[← j]at H7 P R aj ak an s;rw[← j,← V];clear j V ah ai f H4 G H I J K p y a6 v
 try simp only[Act.put]
 have g:=Ag u (.cells #[.int .i64 1,b,b,false] 83);have H8:=Hq (H7.out.step g);have ao:=Hq (heap_alloc_new u (.cells #[.int .i64 1,b,b,false] 83));have b1:=Hq (Ae P.out g);have b2:=Hq (Ae R.out g);have b3:=Hq (Ae U.out g);have aw:=Hq (aj.out.below g);have ax:=Hq (ak.out.below g);have ay:=Hq (an.out.below g);have aq:=Hq (s.out.below g)
 go_wp2_with(first
  |with_reducible refine lL H7.out.Am Abd ?_
  |with_reducible refine lL P.out Ej ?_
  |with_reducible refine lL U.out Ks ?_
  |with_reducible refine lL R.out zI ?_
  |with_reducible refine lS (Au ⟨(N:Int),(n:Int),(k:Int),⟨L,-1,false⟩,l,0,[⟨1,b,b,false⟩],2⟩ ⟨A,c,some ⟨m,0,none⟩,k,k,some ⟨u.heap.size,0,none⟩,1⟩) H8.out.As ?_)
 refine rT1 H8.out.As Az ?_;have hs:=HS.out;subst hs;have hp:Ba (u.alloc (.cells #[.int .i64 1,b,b,false] 83)) ⟨(N:Int),(n:Int),(k:Int),⟨L,-1,false⟩,l,0,[⟨1,b,b,false⟩],2⟩ ⟨A,c,some ⟨m,0,none⟩,k,k,some ⟨u.heap.size,0,none⟩,1⟩ (Ed k):=⟨⟨aw.out,ax.out.mono (Nat.zero_le _),Gr (T:=83) (by rw[ao.out];rfl) (Nat.le_refl _),fun ad e=>by
  injection e with e
  subst e;exact⟨Nat.zero_le _,_,_,ao.out⟩⟩,(Hu k).symm,by rw[Hu];exact ay.out,aq.out.mono (Nat.zero_le _)⟩
 exact HQ.out _ ⟨A,c,some ⟨m,0,none⟩,k,k,some ⟨u.heap.size,0,none⟩,1⟩ (hp.other (t:=36) H8.out.As (by decide) (by decide) (by decide) (Au ⟨(N:Int),(n:Int),(k:Int),⟨L,-1,false⟩,l,0,[⟨1,b,b,false⟩],2⟩ ⟨A,c,some ⟨m,0,none⟩,k,k,some ⟨u.heap.size,0,none⟩,1⟩)) (H8.out.row 1 (Au ⟨(N:Int),(n:Int),(k:Int),⟨L,-1,false⟩,l,0,[⟨1,b,b,false⟩],2⟩ ⟨A,c,some ⟨m,0,none⟩,k,k,some ⟨u.heap.size,0,none⟩,1⟩) _ rfl).below
end Go.Proofs.YtdfkambdagoojaaGreatDoor
