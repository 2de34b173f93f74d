import Derived.Test.YtmfkhdhnbkambaaGreatDoorHw00
import Derived.Test.YtmfkhdhnbkambaaGreatDoorHw30
import Derived.Test.YtmfkhdhnbkambaaGreatDoorHw31
set_option maxRecDepth 100000
set_option maxHeartbeats 16000000
set_option linter.unusedSimpArgs false
namespace Go.Proofs.YtmfkhdhnbkambaaGreatDoor
open Go.RowKit Sc
abbrev Up (l:List ByteArray)(cap:Nat):List Value:=l.map Value.string++List.replicate (cap-l.length) (Value.string ⟨#[]⟩)
def Io (B:Nat)(w:World)(v:Value)(l:List ByteArray):Prop:=
 (v= .slice none 0 0∧l=[])∨∃ g cap,v= .slice (some ⟨g,0,none⟩) l.length cap∧B≤g∧l.length≤cap∧cap≤maxLen∧w.heap[g]? =some (.cells (Up l cap).toArray 9 (0,0))
theorem Io.nil (B:Nat)(w:World):Io B w (.slice none 0 0) []:=.inl ⟨rfl,rfl⟩
theorem bJ {l:List ByteArray}{cap:Nat}(h:l.length≤cap):(Up l cap).length=cap:=by
 rw[List.length_append,List.length_map,List.length_replicate];omega
theorem Io.own {B:Nat}{w:World}{v:Value}{l:List ByteArray}(h:Io B w v l):Kd B w v l:=by
 refine⟨by rw[List.length_map,Nat.mul_one],?_⟩;rcases h with⟨rfl,rfl⟩|⟨g,cap,rfl,b,a,c,d⟩
 ·exact .inl ⟨rfl,rfl⟩
 ·refine .inr ⟨g,cap,_,rfl,b,d,a,c,?_,?_⟩
  ·rw[List.size_toArray,bJ a,Nat.mul_one]
  ·rw[Nat.mul_one]
   exact List.take_left' (by rw[List.length_map])
theorem Io.below {B:Nat}{w w':World}{v:Value}{l:List ByteArray}(h:Io B w v l)(a:Bw w w'):Io B w' v l:=by
 rcases h with h|⟨g,cap,b,c,d,e,f⟩
 ·exact .inl h
 ·exact .inr ⟨g,cap,b,c,d,e,Af f a⟩
theorem Io.other {B:Nat}{w:World}{v:Value}{l:List ByteArray}(h:Io B w v l){g:Nat}{cs:Array Value}{t:TypeId}{fr:Nat×Nat}(b:w.heap[g]? =some (.cells cs t fr))(c:9≠t)(cs':Array Value):Io B (w.setRow g cs') v l:=by
 rcases h with h|⟨k,cap,d,f,i,j,a⟩
 ·exact .inl h
 ·refine .inr ⟨k,cap,d,f,i,j,(Ae _ _ _ _ (fun e=>?_)).trans a⟩
  rw[e,b]at a;injection a with a;injection a with _ a;exact c a.symm
theorem Io.grown {B c size n:Nat}{w w':World}{v b:Value}{l:List ByteArray}{e:TypeId}{xs:List Value}(h:Io B w v l)(d:w.ownsRow c e size b n xs)(f:e≠9)(g:w.grownBy w' b.ownBlock):Io B w' v l:=by
 rcases h with h|⟨k,cap,i,j,m,o,a⟩
 ·exact .inl h
 ·exact .inr ⟨k,cap,i,j,m,o,(g.block k (Bt a) (fun p=>Gs d a f p.symm)).trans a⟩
theorem xR (n:Nat):Builtin.zeroCells (Value.string ⟨#[]⟩).cells n=(List.replicate n (Value.string ⟨#[]⟩)).toArray:=by
 apply Array.ext'
 simp[Builtin.zeroCells,Value.cells,Nat.mod_one]
 exact List.eq_replicate_iff.2 ⟨by simp,fun b a=>by simp at a;exact a.2.symm⟩
theorem uS {B g:Nat}{w:World}{l a:List ByteArray}{cap:Nat}(b:B≤g)(c:l.length+a.length≤cap)(d:cap≤maxLen)(h:w.heap[g]? =some (.cells (l.map Value.string++a.map Value.string++List.replicate (cap-(l.length+a.length)) (Value.string ⟨#[]⟩)).toArray 9 (0,0))):Io B w (.slice (some ⟨g,0,none⟩) (l.length+a.length) cap) (l++a):=by
 refine .inr ⟨g,cap,by rw[List.length_append],b,by rw[List.length_append];exact c,d,?_⟩;rw[h];unfold Up;rw[List.map_append,List.length_append]
theorem rB {P:Program}(w:World)(t ty:TypeId)(i:TypeInfo)(r:P.underlying t=some (.slice 9))(hi:P.info? 9=some i)(O:i.zero=some (.string ⟨#[]⟩))(q:i.size=1)(K:i.bytes≤1024)
 (B:Nat) (v:Value) (l d:List ByteArray) (n:Io B w v l) (A:Option Addr) (c:Nat) (hy:Reads w A c d.length (d.map Value.string)) (hlen:l.length+d.length≤1048576) (g:B≤w.heap.size):
 ∃ v' w',(Builtin.append_ #[t,t] ty #[v,.slice A d.length c]).run P w= .ok v' w'∧Io B w' v' (l++d)∧w.grownBy w' v.ownBlock∧Cl B w w':=by
 rcases Nat.eq_zero_or_pos d.length with S|hpos
 ·obtain rfl:d=[]:=List.eq_nil_of_length_eq_zero S
  have L:(Builtin.append_ #[t,t] ty #[v,.slice A 0 c]).run P w= .ok v w:=by
   rcases A with _|a
   ·exact Qd r hi n.own c
   ·rcases n with⟨rfl,rfl⟩|⟨b,cap,rfl,M,N,Q,s⟩
    ·simp[Builtin.append_,run_underlying r,sizeOf,typeInfo,hi,Builtin.lenOf,Builtin.firstCells,loadCells,loadCellsFrom]
    ·simp[Builtin.append_,run_underlying r,sizeOf,typeInfo,hi,Builtin.lenOf,Builtin.firstCells,loadCells,loadCellsFrom,N,storeCells]
  refine⟨v,w,L,by rw[List.append_nil];exact n,World.grownBy.refl w _,Cl.of (B:=B) (Below.refl _ _) g⟩
 obtain⟨ab,y,rfl,T,-,z⟩:=hy hpos;have m:∀ j u,(d.map Value.string)[j]? =some u→w.cell? ((⟨ab,y,none⟩:Addr).add j)=some u:=fun j u F=>by
  rw[show(⟨ab,y,none⟩:Addr).add j=⟨ab,y+j,none⟩from Addr.add_mid ab y j];exact z j u F
 have G:∀ u∈d.map Value.string,u.oneCell'=true:=fun u F=>by
  obtain⟨x,-,rfl⟩:=List.mem_map.1 F
  rfl
 have H:(l.length+d.length)*i.bytes≤140737488355328:=by
  have:(l.length+d.length)*i.bytes≤1048576*1024:=Nat.mul_le_mul hlen K;omega
 have C:l.length+d.length≤maxLen:=by simp only[maxLen];omega
 have D:(d.map Value.string).length=d.length*i.size:=by rw[q,List.length_map,Nat.mul_one]
 -- a new block
 have grown:∀ By,By<l.length+d.length→∀ row,Io B (w.drew.alloc (.cells ((l.map Value.string).toArray++(d.map Value.string).toArray++Builtin.zeroCells (Value.string ⟨#[]⟩).cells (grownCap w (l.length+d.length) By 9-(l.length+d.length))) 9)) (.slice (some ⟨w.heap.size,0,none⟩) (l.length+d.length) (grownCap w (l.length+d.length) By 9)) (l++d)∧
  w.grownBy (w.drew.alloc (.cells ((l.map Value.string).toArray++(d.map Value.string).toArray++Builtin.zeroCells (Value.string ⟨#[]⟩).cells (grownCap w (l.length+d.length) By 9-(l.length+d.length))) 9)) row∧Cl B w (w.drew.alloc (.cells ((l.map Value.string).toArray++(d.map Value.string).toArray++Builtin.zeroCells (Value.string ⟨#[]⟩).cells (grownCap w (l.length+d.length) By 9-(l.length+d.length))) 9)):=fun By Z row=>by
  refine⟨uS g (grownCap_ge w (l.length+d.length) By 9) (grownCap_le_maxLen w (l.length+d.length) By 9 C) ?_,⟨rfl,rfl,rfl,by simp,fun k hk _=>heap_alloc_old w.drew _ hk⟩,Cl.of (B:=B) ((Below.refl w.heap.size w).drew.alloc (Nat.le_refl _) _) g⟩;rw[xR,List.append_toArray,List.append_toArray];exact heap_alloc_new w.drew _
 rcases n with⟨rfl,rfl⟩|⟨b,cap,rfl,M,N,Q,s⟩
 ·have E:=run_append_nil (P:=P) w t ty 9 i (.string ⟨#[]⟩) r hi O ⟨ab,y,none⟩ d.length c (d.map Value.string) D m hpos (by simp only[maxLen,List.length_nil]at C;omega) (by simp only[List.length_nil,Nat.zero_add]at H;omega)
  have I:=grown 0 (by simp;exact hpos) (Value.ownBlock (.slice none 0 0));simp only[List.length_nil,Nat.zero_add,List.map_nil,List.nil_append,Array.empty_append]at I;exact⟨_,_,E,I⟩
 ·by_cases p:l.length+d.length≤cap
  ·have E:=run_append_room (P:=P) w t ty 9 i r hi b l.length cap _ s ⟨ab,y,none⟩ d.length c (d.map Value.string) D m G p (by rw[q,List.size_toArray,bJ N,List.length_map];omega)
   rw[q,Nat.mul_one]at E;have U:(Up l cap).toArray.toList.take l.length++d.map Value.string++(Up l cap).toArray.toList.drop (l.length+(d.map Value.string).length)=l.map Value.string++d.map Value.string++List.replicate (cap-(l.length+d.length)) (Value.string ⟨#[]⟩):=by
    have V:(Up l cap).take l.length=l.map Value.string:=List.take_left' (by rw[List.length_map]);have W:(Up l cap).drop (l.length+(d.map Value.string).length)=List.replicate (cap-(l.length+d.length)) (Value.string ⟨#[]⟩):=by
     unfold Up;rw[List.drop_append,List.length_map,List.length_map,List.drop_of_length_le (by rw[List.length_map];omega),List.nil_append,List.drop_replicate]
     congr 1
     omega
    show(Up l cap).take l.length++d.map Value.string++(Up l cap).drop (l.length+(d.map Value.string).length)=_
    rw[V,W]
   rw[U]at E;refine⟨_,_,E,uS M p Q (setRow_heap _ _ _ _ _ _ s),⟨rfl,rfl,rfl,by simp,fun k _ hk=>setRow_other w b k _ (fun e=>hk (by simp[Value.ownBlock,e]))⟩,⟨Gx M (Below.refl _ _) _,fun k cs t' f a r X=>?_,fun k cs f a=>?_⟩⟩
   ·refine(Ae _ _ _ _ (fun e=>?_)).trans a
    rw[e,s]at a;injection a with a;injection a with _ a;exact X a.symm
   ·by_cases e:k=b
    ·subst e
     rw[s]at a;injection a with a;injection a with Y a2 a3
     subst Y a3;refine⟨_,setRow_heap _ _ _ _ _ _ s,fun j x R o=>?_⟩;rw[List.getElem?_toArray]at o ⊢
     by_cases J:j<l.length
     ·rw[List.append_assoc,List.getElem?_append_left (by rw[List.length_map];exact J)]
      rwa[List.getElem?_append_left (by rw[List.length_map];exact J)]at o
     ·rw[List.getElem?_append_right (by rw[List.length_map];omega),List.getElem?_replicate]at o
      split at o
      ·injection o with o;injection o with o;rw[← o]at R;exact absurd rfl R
      ·cases o
    ·exact⟨cs,(Ae _ _ _ _ e).trans a,fun _ _ _ h=>h⟩
  ·have holds:∀ j u,(l.map Value.string)[j]? =some u→w.cell? ((⟨b,0,none⟩:Addr).add j)=some u:=fun j u F=>by
    rw[show(⟨b,0,none⟩:Addr).add j=⟨b,0+j,none⟩from Addr.add_mid b 0 j,Aa s,Nat.zero_add,List.getElem?_toArray];have o:j<(l.map Value.string).length:=(List.getElem?_eq_some_iff.1 F).1;rw[List.getElem?_append_left o];exact F
   have E:=run_append_grow (P:=P) w t ty 9 i (.string ⟨#[]⟩) r hi O ⟨b,0,none⟩ l.length cap (l.map Value.string) (by rw[q,List.length_map,Nat.mul_one]) holds ⟨ab,y,none⟩ d.length c (d.map Value.string) D m (by omega) (by simp only[maxLen]at C;omega) (growslice_fits (by omega) H);exact⟨_,_,E,grown cap (by omega) _⟩
theorem rC {P:Program}{o:Oper}{a:Act}{K:Act→World→Prop}{Q:Exit→Act→World→Prop}(w:World)(s x:Operand)(t:TypeId)
 (j:P.underlying t=some (.slice 9)) (hi:(P.info? 9).map (fun i=>(i.zero,i.size,i.bytes))=some (some (.string ⟨#[]⟩),1,16))
 (k:o.op= .call {callee:=.builtin .append,args:=#[s,x],argTypes:=#[t,t]})
 (B:Nat) (v:Value) (l:List ByteArray) (n:a.eval s=v) (d:Io B w v l) (A:Option Addr) (m c:Nat) (e:List ByteArray) (p:e.length=m) (q:a.eval x= .slice A m c) (hy:Reads w A c m (e.map Value.string)) (hlen:l.length+m≤1048576) (b:B≤w.heap.size)
 (h:∀ v' w',Io B w' v' (l++e)→w.grownBy w' v.ownBlock→Cl B w w'→K (a.put o.dst v') w'):o.wp P a w K Q:=by
 subst p;obtain⟨i0,hi,f,g,r⟩:=info_parts hi;obtain⟨v',w',u,y,z,C⟩:=rB (P:=P) w t o.type i0 j hi f g (by omega) B v l e d A c hy hlen b;unfold Oper.wp execOp;simp only[k,resolve,invoke,builtin,Sem.run_bind,Sem.run_pure,Result.andThen_ok,List.map_toArray,List.map_cons,List.map_nil,n,q,u];exact h v' w' y z C
theorem Xw {P:Program}{ops:Array Oper}{Q:Exit→Act→World→Prop}{a:Act}{w:World}{rest:List Oper}{o:Oper}(f:Region.wanted o (yielded ops a.tmps)=true)(s x:Operand)(t:TypeId)
 (j:P.underlying t=some (.slice 9)) (hi:(P.info? 9).map (fun i=>(i.zero,i.size,i.bytes))=some (some (.string ⟨#[]⟩),1,16))
 (k:o.op= .call {callee:=.builtin .append,args:=#[s,x],argTypes:=#[t,t]})
 (B:Nat) (v:Value) (l:List ByteArray) (m:a.eval s=v) (e:Io B w v l) (g:Nat) (r:ByteArray) (n:a.eval x= .slice (some ⟨g,0,none⟩) 1 1) (p:w.heap[g]? =some (.cells #[r] 9 (0,0))) (hlen:l.length+1≤1048576) (d:B≤w.heap.size)
 (h:∀ v' w',Io B w' v' (l++[r])→w.grownBy w' v.ownBlock→Cl B w w'→wpList P ops Q rest (a.put o.dst v') w'):wpList P ops Q (o::rest) a w:=
 Da f fun _ q=>rC w s x t j hi k B v l m e _ 1 1 [r] rfl n (F7 (cs:=[.string r]) p (Nat.le_refl _)) hlen d (fun v' w' a b c=>q _ _ (h v' w' a b c))
theorem rD:(Tryz.prog.info? 44).map (fun i=>(i.zero,i.size,i.bytes))=some (some (.agg #[(),()]),2,16):=by kernel_rfl
theorem rE:(Tryz.prog.info? 9).map (fun i=>(i.zero,i.size,i.bytes))=some (some (.string ⟨#[]⟩),1,16):=by kernel_rfl
def X6 (G H B:Nat)(kv:List Kv)(u:World):Prop:=
 ∃ v x,u.heap[G]? =some (.cells #[v] 67 (0,0))∧u.heap[H]? =some (.cells #[x] 26 (0,0))∧Dt Jr 2 44 B u v kv∧Io B u x (kv.map (·.r))
theorem X6.below {G H B:Nat}{c:List Kv}{u v:World}(h:X6 G H B c u)(b:Bw u v):X6 G H B c v:=by
 obtain⟨a,x,d,e,f,g⟩:=h;exact⟨a,x,Af d b,Af e b,Bg f b,g.below b⟩
theorem X6.other {G H B:Nat}{f:List Kv}{u:World}(h:X6 G H B f u){g:Nat}{cs:Array Value}(d:u.heap[g]? =some (.cells cs 36 (0,0)))(cs':Array Value):X6 G H B f (u.setRow g cs'):=by
 obtain⟨a,x,b,c,i,j⟩:=h;refine⟨a,x,(Ae _ _ _ _ (fun e=>?_)).trans b,(Ae _ _ _ _ (fun e=>?_)).trans c,I0 i d (by decide),j.other d (by decide) _⟩
 ·rw[e,d]at b;injection b with b;injection b with _ b;exact absurd b (by decide)
 ·rw[e,d]at c;injection c with c;injection c with _ c;exact absurd c (by decide)
theorem bK (G H B:Nat)(b0:B≤G)(b1:B≤H)(q:List Kv)(b9:q.length≤100000)(pg:Nat)(k:ByteArray)(Y:k.size≤140737488355328)(u:World)(h:X6 G H B q u)(l:B≤u.heap.size):
 Cq 60 #[.int .i64 (pg:Int),k,.pointer (some ⟨G,0,none⟩),.pointer (some ⟨H,0,none⟩)] u fun e u'=>e= .returned (.bool true)∧X6 G H B (q++Q1 pg (Ab k).Ai (Ab k).Ai.length) u'∧Cl B u u':=by
 have b2:=(Cj k).fine.len;have F:=Hq (fun W=>Uw k Y W);have Z:=Hq (fun(j:Nat) W=>show Cr 62 #[k,.int .i64 (j:Int)] W (.tuple #[.string (Pg.Cy (Ab k).Ai j),.bool (!decide ((Pg.Cy (Ab k).Ai j).size=0))]) from by
  have h9:=Fw k (j:Int) Y W
  rwa[Pg.C7]at h9)
 generalize (Ab k).Ai=rs at b2 F Z ⊢;have HQ:=Hq (fun u' (h1:X6 G H B (q++Q1 pg rs rs.length) u') (h2:Cl B u u')=>show(fun(e:Ending) (u':World)=>e= .returned (.bool true)∧X6 G H B (q++Q1 pg rs rs.length) u'∧Cl B u u') (.returned (.bool true)) u' from⟨rfl,h1,h2⟩);generalize (fun(e:Ending) (u':World)=>e= .returned (.bool true)∧X6 G H B (q++Q1 pg rs rs.length) u'∧Cl B u u')=Q at HQ ⊢;have a1:∀ j,(Q1 pg rs j).length≤j:=fun j=>by
  induction j with
  |zero=>exact Nat.le_refl _
  |succ j ih=>
   unfold Q1
   split
   ·omega
   ·rw[List.length_append,List.length_singleton];omega
 have b3:=Hq a1;have I:=Hq h;clear h a1;go_enter Tryz.func60,Tryz.ntmps60
 go_wp2_with(go_at_call 61;refine(F.out _).mono ?_;rintro e w1 ⟨rfl,J⟩)
 have a6:=Hq (I.out.below J);have a7:=Hq (Cl.of (B:=B) J l);clear I J
 go_loopw [12] (fun x wr=>∃ j:Nat,x= .int .i64 (j:Int)∧j≤rs.length∧X6 G H B (q++Q1 pg rs j) wr∧Cl B u wr) (fun x _=>rs.length-(intOf x).toNat)
 case atStart=>exact⟨0,rfl,Nat.zero_le _,by unfold Q1;rw[List.append_nil];exact a6.out,a7.out⟩
 case round=>
  clear a6 a7 F;obtain⟨v0,rfl⟩:=ex wr;obtain⟨j,rfl,hj,hi,hc⟩:=hrel;have I:=Hq hi;have S:=Hq hc;clear hi hc
  by_cases ba:j<rs.length
  ·have b4:(j:Int)<(rs.length:Int):=by omega
   have bb:IntKind.i64.wrap ((j:Int)+1)=(j:Int)+1:=IntWalk.i64_in _ (by omega);have T:=Hq (Z.out j);have HE:=Hq (show Q1 pg rs (j+1)=if(Pg.Cy rs j).size=0 then Q1 pg rs j else Q1 pg rs j++[⟨pg,j,Pg.Cy rs j⟩]from rfl);generalize Pg.Cy rs j=r at T HE
   by_cases U:r.size=0
   ·rw[decide_eq_true U,Bool.not_true]at T
    rw[if_pos U]at HE;clear U
    go_wp2_with(go_at_call 62;refine(T.out _).mono ?_;rintro e f ⟨rfl,g⟩)
    go_roundw
    case rel=>exact⟨j+1,by go_num,by omega,by rw[HE.out];exact I.out.below g,S.out.trans (Cl.of g (Nat.le_trans l S.out.bl.size))⟩
    case measure=>simp[intOf];omega
   ·rw[decide_eq_false U,Bool.not_false]at T
    rw[if_neg U]at HE;clear U
    go_upto_region 6 with(go_at_call 62;refine(T.out _).mono ?_;rintro e f ⟨rfl,g⟩)
    have a8:=I.out.below g;have K:=Hq (S.out.trans (Cl.of g (Nat.le_trans l S.out.bl.size)));have aa:B≤f.heap.size:=Nat.le_trans l K.out.bl.size;obtain⟨L,hL⟩:=ex (q++Q1 pg rs j);have bc:L.length≤100200:=(by rw[hL,List.length_append];have:=b3.out j;omega);rw[← hL]at a8;have HL:=Hq hL;clear hL I S T g;obtain⟨v,x,M,ad,ho,he⟩:=a8;obtain⟨A,ca,rfl,-⟩:=Dt.form ho;have ae:=Hq M;have af:=Hq ad;have V:=Hq ho;have ag:=Hq he;have b5:=show f.cell? ⟨G,0,none⟩=some (.slice A L.length ca)from(by rw[Aa M];rfl);clear M ad ho he
    go_upto_region 7 with(at_builtin;refine Hz Kr (.tmp 22) (.tmp 26) 67 44 zO rD rfl (by omega) (by omega) rfl B _ L.length (L.flatMap Jr) rfl (Bg V.out (Ac _ _)) f.heap.size (Jr ⟨pg,j,r⟩) 44 rfl (heap_alloc_new f _) rfl (by simp[Jr,Value.oneCell']) (by omega) (Nat.le_trans aa (Ac f _).size) ?_;intro v7 w7 N ah ai;obtain⟨D,E,rfl⟩:=E1 N;have a:=Af ae.out (Ac f (.cells (Jr ⟨pg,j,r⟩).toArray 44));have m:=show(f.alloc (.cells (Jr ⟨pg,j,r⟩).toArray 44)).grownBy w7 (Value.slice A L.length ca).ownBlock from ah;have b:=Hq ((m.block G (Bt a) (fun O=>Gs (Bg V.out (Ac f (.cells (Jr ⟨pg,j,r⟩).toArray 44))) a (by decide) O.symm)).trans a);have b6:=show w7.cell? ⟨G,0,none⟩=some (.slice A L.length ca)from(by rw[Aa b.out];rfl);have b7:=Ap b.out 0)
    have aj:w7.setCell ⟨G,0,none⟩ (.slice D (L.length+1) E)=w7.setRow G #[.slice D (L.length+1) E]:=setCell_eq_setRow _ G 0 _ _ _ _ b.out;rw[aj];have s:=Af af.out (Ac f (.cells (Jr ⟨pg,j,r⟩).toArray 44));have c:=(m.block H (Bt s) (fun O=>Gs (Bg V.out (Ac f (.cells (Jr ⟨pg,j,r⟩).toArray 44))) s (by decide) O.symm)).trans s;have ak:H≠G:=fun e=>by rw[e,b.out]at c;injection c with c;injection c with _ c;exact absurd c (by decide)
    have P:=Hq (I0 (Dt.push (enc:=Jr) N) b.out (by decide) (cs':=#[.slice D (L.length+1) E]));have i:=Hq (((ag.out.below (Ac f (.cells (Jr ⟨pg,j,r⟩).toArray 44))).grown (Bg V.out (Ac f (.cells (Jr ⟨pg,j,r⟩).toArray 44))) (by decide) m).other b.out (by decide) #[.slice D (L.length+1) E]);have R:=Hq (setRow_heap _ _ _ #[.slice D (L.length+1) E] _ _ b.out);have n:=Hq ((Ae _ _ #[.slice D (L.length+1) E] _ ak).trans c);have t:=Hq (K.out.trans (((Cl.of (B:=B) (Ac f (.cells (Jr ⟨pg,j,r⟩).toArray 44)) aa).trans (Cl.grown (Bg V.out (Ac f (.cells (Jr ⟨pg,j,r⟩).toArray 44))) rfl (by decide) m ai)).box b0 b.out rfl (by decide) #[.slice D (L.length+1) E]));generalize w7.setRow G #[.slice D (L.length+1) E]=p at P i R n t ⊢;clear aj b6 b7 b5 N ah m ai s c a ae af V ag b K
    try simp only[Act.put]
    have al:B≤p.heap.size:=Nat.le_trans l t.out.bl.size;obtain⟨Ax,cx,rfl⟩:=E1 i.out.own;have an:=show p.cell? ⟨H,0,none⟩=some (.slice Ax (L.map (·.r)).length cx)from(by rw[Aa n.out];rfl);have ao:(L.map (·.r)).length=L.length:=List.length_map _;generalize aq:L.map (·.r)=o at i n an ao;have b8:=Hq aq;have ar:o.length+1≤1048576:=(by omega);clear ao aq
    go_upto_region 8 with(at_builtin;refine Xw Kr (.tmp 28) (.tmp 30) 26 V9 rE rfl B _ o rfl (i.out.below (Ac _ _)) p.heap.size r rfl (heap_alloc_new p _) ar (Nat.le_trans al (Ac p _).size) ?_;intro v9 w9 w y au;obtain⟨X,c9,rfl⟩:=E1 w.own;rw[show(o++[r]).length=o.length+1 from by simp]at w;have a:=Af n.out (Ac p (.cells #[r] 9));have z:=Af R.out (Ac p (.cells #[r] 9));have C:=(i.out.below (Ac p (.cells #[r] 9))).own;have d:=Hq ((y.block H (Bt a) (fun O=>Gs C a (by decide) O.symm)).trans a);have av:=Hq ((y.block G (Bt z) (fun O=>Gs C z (by decide) O.symm)).trans z);have aw:=show w9.cell? ⟨H,0,none⟩=some (.slice Ax o.length cx)from(by rw[Aa d.out];rfl);have ax:=Ap d.out 0)
    have ay:w9.setCell ⟨H,0,none⟩ (.slice X (o.length+1) c9)=w9.setRow H #[.slice X (o.length+1) c9]:=setCell_eq_setRow _ H 0 _ _ _ _ d.out;rw[ay];have HJ:=Hq (show X6 G H B (q++Q1 pg rs (j+1)) (w9.setRow H #[.slice X (o.length+1) c9])from by
     rw[HE.out,← List.append_assoc,← HL.out];refine⟨_,_,(Ae _ _ _ _ ak.symm).trans av.out,setRow_heap _ _ _ _ _ _ d.out,I0 (nH (Bg P.out (Ac p (.cells #[r] 9))) C (by decide) y) d.out (by decide),?_⟩;have h9:=w.other d.out (by decide) #[.slice X (o.length+1) c9];rw[List.map_append,b8.out];exact h9)
    have az:=Hq (t.out.trans (((Cl.of (B:=B) (Ac p (.cells #[r] 9)) al).trans au).box b1 d.out rfl (by decide) #[.slice X (o.length+1) c9]));generalize w9.setRow H #[.slice X (o.length+1) c9]=w10 at HJ az ⊢;clear ay aw ax an w y au C a z d av P i R n t
    try simp only[Act.put]
    go_wp2_with fail;go_roundw
    case rel=>exact⟨j+1,by go_num,by omega,HJ.out,az.out⟩
    case measure=>simp[intOf];omega
  ·obtain rfl:j=rs.length:=by omega
   have b4:¬ (rs.length:Int)<(rs.length:Int):=(by omega);go_wp2_with fail;exact HQ.out _ I.out S.out
theorem Uq {P:Program}{fn:Func}{p q r t:Tmp}{ty:TypeId}(h:fn.results=#[.cell p ty,.tmp q,.tmp r,.tmp t])(tmps:Array Value)(w:World){a:Addr}(f:tmps.getD p undef= .pointer (some a)){v:Value}(g:(loadVar ty a).run P w= .ok v w){v2 v3 v4:Value}(i:tmps.getD q undef=v2)(j:tmps.getD r undef=v3)(k:tmps.getD t undef=v4):
 (results fn tmps).run P w= .ok (.tuple #[v,v2,v3,v4]) w:=by
 simp only[results,h];have b:tmps[p]?.getD undef= .pointer (some a):=by simpa using f
 have c:tmps[q]?.getD undef=v2:=by simpa using i
 have d:tmps[r]?.getD undef=v3:=by simpa using j
 have e:tmps[t]?.getD undef=v4:=by simpa using k
 simp[Result.andThen,b,c,d,e,asAddr,g]
theorem hJ (pg:Nat)(rs:List ByteArray):∀ j,(Q1 pg rs j).length≤j
 |0=>Nat.le_refl _
 |j+1=>by
  have:=hJ pg rs j;unfold Q1
  split
  ·omega
  ·rw[List.length_append,List.length_singleton];omega
theorem Np (V:Nat→Nat×List ByteArray):∀ l:List Nat,(∀ x∈l,(V x).2.length≤123)→(Gg V l).length≤123*l.length
 |[],_=>Nat.le_refl _
 |a::l,h=>by
  have h1:=Np V l (fun x hx=>h x (List.mem_cons_of_mem _ hx));have h2:=h a List.mem_cons_self;have h3:=hJ a (V a).2 (V a).2.length
  show(Q1 a (V a).2 (V a).2.length++Gg V l).length≤_
  rw[List.length_append,List.length_cons];omega
def yL (N n k:Nat)(ids:List Int)(c:Int)(C:Nat→ByteArray)(L:List Kv)(w:World)(e:Ending)(w':World):Prop:=
 ∃ (s':Tx.St) (q:SP) (fs':List Fr) (v x:Value),e= .returned (.tuple #[Ah s' q,v,x,()])∧Am w' s' q fs'∧SS N n k ids c s' fs' C∧Dt Jr 2 44 w.heap.size w' v L∧Io w.heap.size w' x (L.map (·.r))∧Bw w w'
theorem V3 {N n k:Nat}{ids:List Int}{c:Int}{C:Nat→ByteArray}(s:Tx.St)(p:SP)(fs:List Fr)(hS:SS N n k ids c s fs C){b:ByteArray}{u:Nat→Nat}{V:Nat→Nat×List ByteArray}(hu:SI n C b u V)(l:List Nat)(hl:aZ n u V l)
 (r:Int) (hr:r=((l[0]?).getD 0:Nat)) (w:World) (h:Am w s p fs):Cq 22 #[Ah s p,r] w (yL N n k ids c C (Gg V l) w):=by
 have ba:=hS.pi.n1.2.1;have hlen:l.length≤60:=by have:=hl.len;omega
 have R:∀ x∈l,(V x).2.length≤123:=fun x hx=>by
  obtain⟨j,hj,e⟩:=List.getElem_of_mem hx;have m:=hl.at_ j hj;rw[e]at m;have:=(Cj (C x)).fine.len
  rwa[hu.rp x m.1 m.2.1]at this
 have HZ:=Hq h;have b0:=Hq hS.whole;have o:=Hq (fun(G H:Nat) (W:World) (hG:w.heap.size≤G) (hH:w.heap.size≤H) (hw:Bw w W) (hi:X6 G H w.heap.size [] W)=>Ua (N:=N) (n:=n) (k:=k) (ids:=ids) (c:=c) (C:=C) (B:=w.heap.size) (I:=fun j W=>X6 G H w.heap.size (Gg V (l.take j)) W)
  (fun _ _ _ T z=>X6.below T z) (fun _ _ _ _ _ T z=>X6.other T z _) s p fs hS hu l hl l.length 60 #[.pointer (some ⟨G,0,none⟩),.pointer (some ⟨H,0,none⟩)] (enters_of Tryz.func60 Kr rfl)
  (fun j hj bb W' b1 b2=>by
    have m:=hl.at_ j hj;have b3:=hS.pi.nm l[j] m.2.1;have b4:=Np V (l.take j) (fun x hx=>R x (List.mem_of_mem_take hx));rw[List.length_take]at b4;have hq:=bK G H w.heap.size hG hH _ (by omega) l[j] (C l[j]) (by rw[b3.size];omega) W' b1 b2;rw[hu.rp l[j] m.1 m.2.1]at hq;refine hq.mono ?_;rintro e W2 ⟨rfl,T,z⟩;refine⟨by rw[decide_eq_true (show j≠l.length by omega)],?_,z⟩;have e1:Gg V (l.take (j+1))=Gg V (l.take j)++Q1 l[j] (V l[j]).2 (V l[j]).2.length:=by
     rw[List.take_add_one,List.getElem?_eq_getElem hj];unfold Gg;rw[List.flatMap_append]
     simp
    rw[e1];exact T)
  r hr W (h.below hw) hi hw.size)
 unfold Vy at o;rw[show min (l.length+1) l.length=l.length from by omega]at o;simp only[List.take_length]at o;have hL:(Gg V l).length≤100000:=by have:=Np V l R;omega
 generalize Gg V l=L at o hL ⊢;have HQ:=Hq (fun(s':Tx.St) (q:SP) (b5:List Fr) (v x:Value) w' T z h3 h4 h5=>show yL N n k ids c C L w (.returned (.tuple #[Ah s' q,v,x,()])) w' from⟨s',q,b5,v,x,rfl,T,z,h3,h4,h5⟩);generalize yL N n k ids c C L w=Q at HQ ⊢;clear hr hS hu hl h R;go_enter Tryz.func22,Tryz.ntmps22;go_upto_region 1 with fail;have H0:=Lx w (Ak s p) 36 #[(),(),(),"s",(),false,(),(),(),(),"","s",(),"s",()] 36;obtain⟨W0,a1⟩:=E0 H0;rw[← a1]at H0 ⊢;clear a1;go_upto_region 2 with fail;have z:=heap_alloc_new W0 (.cells #["s"] 67);have Z:=Ac W0 (.cells #["s"] 67);have H1:=Hq (H0.out.step Z);have hG:w.heap.size+2≤W0.heap.size:=H0.out.lt (i:=1) (by simp);obtain⟨G,E⟩:=ex W0.heap.size;obtain⟨W1,F⟩:=ex (W0.alloc (.cells #["s"] 67));rw[← E,← F]at z;rw[← F]at H1;rw[← E]at hG;rw[← F,← E];clear Z H0 E F
 try simp only[Act.put]
 go_upto_region 3 with fail;have h3:=heap_alloc_new W1 (.cells #["s"] 26);have Z:=Ac W1 (.cells #["s"] 26);have H2:=Hq (H1.out.step Z);have U:=Af z Z;have hH:G<W1.heap.size:=Bt z;obtain⟨H,J⟩:=ex W1.heap.size;obtain⟨W2,M⟩:=ex (W1.alloc (.cells #["s"] 26));rw[← J,← M]at h3;rw[← M]at H2 U;rw[← J]at hH;rw[← M,← J];have a6:=Hq (show X6 G H w.heap.size [] W2 from⟨_,_,U,h3,N9 _ _ _ _,Io.nil _ _⟩);clear Z H1 J M z U h3
 try simp only[Act.put]
 go_upto_region 4 with(first
  |with_reducible refine lL H2.out.Ao Ar ?_
  |(go_at_call 51;refine(o.out G H _ (by omega) (by omega) H2.out.below a6.out).mono ?_;rintro e w4 ⟨s1,a,b6,rfl,a7,a8,b7,X⟩)
  |with_reducible refine sN (Ak s1 a) ?_)
 have d:=Ac w4 (.cells (Ak s1 a) 36);have Y:=X.keep _ _ _ _ H2.out.Aq (by decide) (by decide);obtain⟨v0,x0,aa,ad,ae,A⟩:=b7;have b8:w.heap.size+1<w4.heap.size:=Bt Y;have af:=Hq (Af Y d);have ag:=Hq (heap_alloc_new w4 (.cells (Ak s1 a) 36));have ah:=Hq (a7.below d);have b9:=Hq a8;have ai:=Hq (Af aa d);have aj:=Hq (Af ad d);have ak:=Hq (Bg ae d);have al:=Hq (A.below d);have an:=Hq (Ag (H2.out.below.trans X.bl) d);obtain⟨g9,O⟩:=ex w4.heap.size;obtain⟨w5,P⟩:=ex (w4.alloc (.cells (Ak s1 a) 36));rw[← O,← P]at ag;rw[← P]at af ah ai aj ak al an;rw[← O]at b8;rw[← P,← O];clear P O d Y aa ad ae A H2 a6 o HZ b0 a7 a8 X
 try simp only[Act.put]
 go_upto_region 6 with fail;have f:Bw w5 w5.drew:=(Below.refl _ w5).drew;have y:=Af af.out f;have hSn:=And.intro (Af ag.out f) (And.intro (Af ai.out f) (Af aj.out f));have ao:=ah.out.below f;have A:=Bg ak.out f;have hex:=al.out.below f;have aq:=Ag an.out f;have Hy:=Hq (fun(u:World) (ar:u.heap[g9]? =some (.cells (Ak s1 a) 36 (0,0))∧u.heap[G]? =some (.cells #[v0] 67 (0,0))∧u.heap[H]? =some (.cells #[x0] 26 (0,0)))=>(And.intro (show u.cell? ⟨G,0,none⟩=some v0 from(by rw[Aa ar.2.1];rfl)) (show u.cell? ⟨H,0,none⟩=some x0 from(by rw[Aa ar.2.2];rfl))));refine G7 (S:=(fun u=>u.heap[g9]? =some (.cells (Ak s1 a) 36 (0,0))∧u.heap[G]? =some (.cells #[v0] 67 (0,0))∧u.heap[H]? =some (.cells #[x0] 26 (0,0)))) (fun D=>?_);generalize w5.drew=v10 at hSn y ao A hex aq ⊢;refine fA 0 Ar ?_;refine Bb 1 ?_;refine Bb 2 ?_;refine Dg 3 fun K hK=>?_;refine Cc (by rfl) ?_;refine sW (Ak s1 a) y ?_;have au:=setRow_heap _ _ _ (Ak s1 a) _ _ y;have av:=ao.other (t:=36) y (by decide) (by decide) (by decide) (Ak s1 a);have aw:=I0 A y (by decide) (cs':=(Ak s1 a));have ax:=hex.other y (by decide) (Ak s1 a);have ay:=Gx (g:=w.heap.size+1) (by omega) aq (Ak s1 a);have az:=And.intro ((Ae _ _ (Ak s1 a) _ (show g9≠w.heap.size+1 by omega)).trans hSn.1) (And.intro ((Ae _ _ (Ak s1 a) _ (show G≠w.heap.size+1 by omega)).trans hSn.2.1) ((Ae _ _ (Ak s1 a) _ (show H≠w.heap.size+1 by omega)).trans hSn.2.2));clear hSn;have hSn:=az;clear az;refine Cw hK (fun D=>?_);clear hK K;refine Bb 4 ?_;refine Bb 5 ?_;refine Bb 6 ?_;refine wpAnyH_done Kr ?_ _
 try clear D
 try simp only[Act.put]
 go_wp2_with fail;refine bodyPost_ret (v:=.tuple #[.agg (Ak s1 a),v0,x0,()]) (Uq rfl _ _ rfl (Cf au Ar Kr Kr) rfl rfl rfl) rfl ?_;exact HQ.out s1 a b6 _ _ _ av b9.out aw ax ay
end Go.Proofs.YtmfkhdhnbkambaaGreatDoor
