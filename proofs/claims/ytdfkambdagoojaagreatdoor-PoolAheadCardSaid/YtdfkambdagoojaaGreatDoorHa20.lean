import Derived.Test.YtdfkambdagoojaaGreatDoorHa00
import Derived.Test.YtdfkambdagoojaaGreatDoorHa17
import Derived.Test.YtdfkambdagoojaaGreatDoorHa18
import Derived.Lib.ConvBytes
import Derived.Lib.AppendStr
import Derived.Lib.FrozenHead
import Derived.Deep.MidRow
import Derived.Lib.LazyBuf
import Derived.Test.YtdfkambdagoojaaGreatDoorHa02
import Derived.Test.YtdfkambdagoojaaGreatDoorHa19
import Derived.BigRegion
set_option maxRecDepth 100000
set_option maxHeartbeats 16000000
set_option linter.unusedSimpArgs false
namespace Go.Proofs.YtdfkambdagoojaaGreatDoor
open Go.RowKit
theorem run_appB {P:Program}{w:World}(t u ty e:TypeId)(i:TypeInfo)(ht:P.underlying t=some (.slice e))(hu:P.underlying u=some .string)(hi:P.info? e=some i)(hz:i.zero=some (.int .u8 0))(hsize:i.size=1)(hby:i.bytes=1)
 {B:Nat} {v:Value} {l:List UInt8} (h:OwnB B w v l) (s:ByteArray) (hlen:l.length+s.size≤140737488355328) (hB:B≤w.heap.size):
 ∃ v' w',(Builtin.append_ #[t,u] ty #[v,s]).run P w= .ok v' w'∧OwnB B w' v' (l++s.data.toList)∧Below B w w':=by
 obtain⟨g,cap,rfl,hBg,hg,hlc,hcm,hok,hread⟩:=h
 have hsl:s.data.toList.length=s.size:=by simp
 have hcl:(Lib.strCells s).length=s.size:=Lib.strCells_length s
 have hcell:∀ (j:Nat) (hj:j<s.size),(Lib.strCells s)[j]? =some (.int .u8 ((s.data.toList[j]'(by rw[hsl];exact hj)).toNat:Int)):=fun j hj=>by
  unfold Lib.strCells
  rw[List.getElem?_map,List.getElem?_eq_getElem (by rw[hsl];exact hj)]
  rfl
 by_cases hroom:l.length+s.size≤cap
 ·have hf:=Lib.run_firstCells_string (P:=P) w 1 s
  have hst:=run_storeCells_cells (P:=P) g l.length (Lib.strCells s) 0 w (fun j hj=>(hok _ (by omega)).1) (fun j hj=>(hok _ (by omega)).2) (Lib.strCells_oneCell s)
  simp only[Nat.add_zero]at hst
  refine⟨.slice (some ⟨g,0,none⟩) (l.length+s.size) cap,w.setCells g l.length (Lib.strCells s),?_,⟨g,cap,by rw[List.length_append,hsl],hBg,?_,by rw[List.length_append,hsl];exact hroom,hcm,fun j hj=>⟨?_,?_⟩,fun j hj=>?_⟩,?_⟩
  ·simp[Builtin.append_,run_underlying ht,run_underlying hu,sizeOf,typeInfo,hi,hsize,Builtin.lenOf,hroom,hf,Addr.add_lit,hst]
  ·exact Nat.lt_of_lt_of_le hg (below_setCells (B:=B) (a:=w) hBg _ _ _ (Below.refl _ _)).size
  ·exact World.isSome_setCells g _ _ _ _ (hok j hj).1
  ·rw[World.frozen?_setCells];exact(hok j hj).2
  ·rw[List.length_append,hsl]at hj
   by_cases hjl:j<l.length
   ·rw[World.cell?_setCells_out g _ _ _ _ (fun _ _=>.inl hjl),List.getElem_append_left hjl]
    exact hread j hjl
   ·obtain⟨m,rfl⟩:∃ m,j=l.length+m:=⟨j-l.length,by omega⟩
    have hm:m<s.size:=by omega
    rw[World.cell?_setCells_in g _ _ _ (fun k hk=>(hok _ (by omega)).1) m (by omega)]
    have h2:=hcell m hm
    rw[List.getElem?_eq_getElem (by omega)]at h2
    rw[List.getElem_append_right (by omega)]
    simpa using h2
  ·exact below_setCells (B:=B) (a:=w) hBg _ _ _ (Below.refl _ _)
 ·obtain⟨olds,ho⟩:=ex (Lib.byteCells l)
  have hol:olds.length=l.length:=by rw[ho];exact Lib.byteCells_length l
  have hr:=Lib.run_append_grow_string (P:=P) w t u ty e i (.int .u8 0) ht hu hi hz ⟨g,0,none⟩ l.length cap olds (by rw[hsize,hol,Nat.mul_one]) (fun j x hx=>by
   have hj:j<l.length:=by rw[← hol];exact(List.getElem?_eq_some_iff.1 hx).1
   have ha:(⟨g,0,none⟩:Addr).add j=⟨g,j,none⟩:=by rw[Addr.add_mid,Nat.zero_add]
   rw[ha,hread j hj]
   rw[ho]at hx
   unfold Lib.byteCells at hx
   rw[List.getElem?_map,List.getElem?_eq_getElem hj]at hx
   simpa using hx) s (by omega) (by omega) (by rw[hby];exact growslice_fits (by omega) (by omega))
  have hge:=grownCap_ge w (l.length+s.size) cap e
  have hcm2:=grownCap_le_maxLen w (l.length+s.size) cap e (by simp only[maxLen];omega)
  have hzc:(Builtin.zeroCells (Value.int IntKind.u8 0).cells (grownCap w (l.length+s.size) cap e-(l.length+s.size))).size=grownCap w (l.length+s.size) cap e-(l.length+s.size):=by
   rw[size_zeroCells];show _*1=_;omega
  have hnew:=heap_alloc_new w.drew (.cells (olds.toArray++(Lib.strCells s).toArray++Builtin.zeroCells (Value.int IntKind.u8 0).cells (grownCap w (l.length+s.size) cap e-(l.length+s.size))) e)
  have hsize2:(olds.toArray++(Lib.strCells s).toArray++Builtin.zeroCells (Value.int IntKind.u8 0).cells (grownCap w (l.length+s.size) cap e-(l.length+s.size))).size=grownCap w (l.length+s.size) cap e:=by
   rw[Array.size_append,Array.size_append,hzc,List.size_toArray,List.size_toArray,hol,hcl];omega
  have hds:w.drew.heap.size=w.heap.size:=rfl
  rw[hds]at hnew
  refine⟨_,_,hr,⟨w.heap.size,_,by rw[List.length_append,hsl],hB,?_,by rw[List.length_append,hsl];exact hge,hcm2,fun j hj=>⟨?_,?_⟩,fun j hj=>?_⟩,?_⟩
  ·exact heapLt hnew
  ·rw[blkCell hnew,Array.getElem?_eq_getElem (by rw[hsize2];exact hj)];rfl
  ·exact blkFrozen hnew j
  ·rw[List.length_append,hsl]at hj
   rw[blkCell hnew]
   by_cases hjl:j<l.length
   ·rw[List.getElem_append_left hjl,Array.getElem?_append_left (by rw[Array.size_append,List.size_toArray,List.size_toArray,hol];omega),Array.getElem?_append_left (by rw[List.size_toArray,hol];exact hjl),List.getElem?_toArray,ho]
    unfold Lib.byteCells
    rw[List.getElem?_map,List.getElem?_eq_getElem hjl];rfl
   ·obtain⟨m,rfl⟩:∃ m,j=l.length+m:=⟨j-l.length,by omega⟩
    have hm:m<s.size:=by omega
    rw[Array.getElem?_append_left (by rw[Array.size_append,List.size_toArray,List.size_toArray,hol,hcl];omega),Array.getElem?_append_right (by rw[List.size_toArray,hol];omega),List.size_toArray,hol,List.getElem?_toArray,List.getElem_append_right (by omega)]
    have h2:=hcell m hm
    simp only[Nat.add_sub_cancel_left]
    rw[h2]
  ·exact((Below.refl B w).drew).alloc (by show B≤w.heap.size;exact hB) _
theorem wp_appB {P:Program}{o:Oper}{a:Act}{K:Act→World→Prop}{Q:Exit→Act→World→Prop}(w:World)(s x:Operand)(t u e:TypeId)
 (ht:P.underlying t=some (.slice e)) (hu:P.underlying u=some .string) (hi:(P.info? e).map (fun i=>(i.zero,i.size,i.bytes))=some (some (.int .u8 0),1,1))
 (ho:o.op= .call {callee:=.builtin .append,args:=#[s,x],argTypes:=#[t,u]})
 (B:Nat) (v:Value) (l:List UInt8) (hs:a.eval s=v) (hown:OwnB B w v l) (b:ByteArray) (hx:a.eval x= .string b) (hlen:l.length+b.size≤140737488355328) (hB:B≤w.heap.size)
 (h:∀ v' w',OwnB B w' v' (l++b.data.toList)→Below B w w'→K (a.put o.dst v') w'):o.wp P a w K Q:=by
 obtain⟨i0,hi,hz0,hz1,hz2⟩:=info_parts hi
 obtain⟨v',w',hr,h2,h3⟩:=run_appB (P:=P) (w:=w) t u o.type e i0 ht hu hi hz0 hz1 hz2 hown b hlen hB
 unfold Oper.wp execOp
 simp only[ho,resolve,invoke,builtin,Sem.run_bind,Sem.run_pure,Result.andThen_ok,List.map_toArray,List.map_cons,List.map_nil,hs,hx,hr]
 exact h v' w' h2 h3
theorem wpList_appB {P:Program}{ops:Array Oper}{rest:List Oper}{o:Oper}{a:Act}{Q:Exit→Act→World→Prop}{w:World}(hw:Region.wanted o (yielded ops a.tmps)=true)(s x:Operand)(t u e:TypeId)
 (ht:P.underlying t=some (.slice e)) (hu:P.underlying u=some .string) (hi:(P.info? e).map (fun i=>(i.zero,i.size,i.bytes))=some (some (.int .u8 0),1,1))
 (ho:o.op= .call {callee:=.builtin .append,args:=#[s,x],argTypes:=#[t,u]})
 (B:Nat) (v:Value) (l:List UInt8) (hs:a.eval s=v) (hown:OwnB B w v l) (b:ByteArray) (hx:a.eval x= .string b) (hlen:l.length+b.size≤140737488355328) (hB:B≤w.heap.size)
 (h:∀ v' w',OwnB B w' v' (l++b.data.toList)→Below B w w'→wpList P ops Q rest (a.put o.dst v') w'):wpList P ops Q (o::rest) a w:=
 listWants hw fun _ hK=>wp_appB w s x t u e ht hu hi ho B v l hs hown b hx hlen hB (fun v' w' a b=>hK _ _ (h v' w' a b))
end Go.Proofs.YtdfkambdagoojaaGreatDoor
namespace Rc
theorem txnB_true (x1 x2 x3:Int):txnB ⟨x1,x2,x3,true⟩=p x1 6++(p x2 6++(p x3 6++p 1 1)):=rfl
theorem txnB_false (x1 x2 x3:Int):txnB ⟨x1,x2,x3,false⟩=p x1 6++(p x2 6++(p x3 6++p 0 1)):=rfl
theorem mk_list (l:List UInt8):(mk l).data.toList=l:=by unfold mk;rfl
theorem flat_take {α:Type}(f:α→List UInt8)(l:List α)(k:Nat)(h:k<l.length):(l.take (k+1)).flatMap f=(l.take k).flatMap f++f l[k]:=by
 rw[List.take_add_one,List.getElem?_eq_getElem h,List.flatMap_append]
 simp
end Rc
namespace Go.Proofs.YtdfkambdagoojaaGreatDoor
open Go.RowKit
theorem rcheck_any (r:Rc.Rec)(A B:Option Addr)(c d:Nat)(hts:r.txns.length≤1000)(hds:r.dirty.length≤2000)(w:World)(hr:RecR w r A c B d):
 Calls Tryz.prog 161 #[recV r (.slice A r.txns.length c) (.slice B r.dirty.length d)] w fun e w'=>e= .returned (.string (Rc.mk (Rc.listsB r)))∧Below w.heap.size w w':=by
 obtain⟨lsn,prev,txn,kind,page,next,nu,⟨ok,os,oo,on⟩,how,root,⟨ek,ep,es⟩,ts,ds⟩:=r
 dsimp only[recV,recA]at hts hds ⊢
 obtain⟨R,hR⟩:=ex (Rc.mk (Rc.listsB ⟨lsn,prev,txn,kind,page,next,nu,⟨ok,os,oo,on⟩,how,root,⟨ek,ep,es⟩,ts,ds⟩))
 rw[← hR]
 obtain⟨w0,hw0⟩:=ex (w.alloc (.cells (rcA lsn prev txn kind page next nu ok os oo on how root ek ep es (.slice A ts.length c) (.slice B ds.length d)) 47))
 have HB0:=Hq (show Below w.heap.size w w0 from by rw[hw0];exact allocB _ _)
 have HX0:=Hq (show w0.heap[w.heap.size]? =some (.cells (rcA lsn prev txn kind page next nu ok os oo on how root ek ep es (.slice A ts.length c) (.slice B ds.length d)) 47 (0,0))from by rw[hw0];exact heap_alloc_new _ _)
 have HT:=Hq (show TxR w0 A c ts from hr.txns.below HB0.out)
 have HD:=Hq (show DiR w0 B d ds from hr.dirty.below HB0.out)
 have hbw:w.heap.size≤w0.heap.size:=HB0.out.size
 clear hr
 obtain⟨B1,hB1⟩:=ex (Rc.mk (Rc.p nu 6))
 have HC1:=Hq (show ∀ W,Calls Tryz.prog 83 #[nu,.int .i64 6] W fun e w'=>e= .returned (.string B1)∧Below W.heap.size W w' from fun W=>by rw[hB1];exact rput_mk nu 6 (by omega) W)
 obtain⟨B2,hB2⟩:=ex (Rc.mk (Rc.p (ts.length:Int) 2))
 have HC2:=Hq (show ∀ W,Calls Tryz.prog 83 #[.int .i64 (ts.length:Int),.int .i64 2] W fun e w'=>e= .returned (.string B2)∧Below W.heap.size W w' from fun W=>by rw[hB2];exact rput_mk (ts.length:Int) 2 (by omega) W)
 obtain⟨S2,hS2⟩:=ex (Rc.mk (Rc.p nu 6++Rc.p (ts.length:Int) 2))
 have ha2:∀ W:World,(Op.stringOp .add B1 B2).run Tryz.prog W= .ok (.string S2) W:=fun W=>by rw[hB1,hB2,hS2];exact add_mk _ _ (by simp only[Rc.p_length];omega) W
 have HS2:=Hq hS2
 have hz2:S2.size=8:=by rw[hS2,Rc.mk_size,List.length_append,Rc.p_length,Rc.p_length]
 have hcv:∀ W:World,(convert 9 141 (.string S2)).run Tryz.prog W= .ok (.slice (some ⟨W.heap.size,0,none⟩) S2.size (grownCap W S2.size 0 5)) (Lib.bytesWorld W 5 S2):=fun W=>Lib.run_convert_string_bytes W 9 141 5 S2 Tryz.underlying9 Tryz.underlying141 Tryz.underlying5
 have HCV:=Hq (fun W:World=>ownB_conv W S2 (by omega))
 clear hB1 hB2 hS2
 go_enter Tryz.func161,Tryz.ntmps161
 go_upto_region 1 with fail
 rw[← hw0]
 clear hw0
 obtain⟨g,hg⟩:=ex w.heap.size
 rw[← hg]at HX0
 rw[← hg]
 have hgw:g<w0.heap.size:=heapLt HX0.out
 clear hg
 have Xa0:=blkOld HX0.out (Below.refl _ w0).drew
 have Ya0:=(Below.refl w0.heap.size w0).drew
 refine rgH (S:=(fun u=>u.heap[g]? =some (.cells (rcA lsn prev txn kind page next nu ok os oo on how root ek ep es (.slice A ts.length c) (.slice B ds.length d)) 47 (0,0)))) (fun hHeld=>?_)
 refine tkP 0 ?_;refine tkP 1 ?_;refine tkP 3 ?_;refine tkP 4 ?_;refine tkP 5 ?_
 refine rdP 2 fun K hK=>?_
 go_simp
 refine(HC1.out _).mono ?_;rintro e va1 ⟨rfl,hb⟩;have Xa1:=blkOld Xa0 hb;have Ya1:=joinB Ya0 hb;try clear hSn
 have hSn:=Xa1
 clear hb
 refine hKo hK (fun hHeld=>?_)
 clear hK K
 refine rdP 6 fun K hK=>?_
 go_simp
 refine(HC2.out _).mono ?_;rintro e va2 ⟨rfl,hb⟩;have Xa2:=blkOld Xa1 hb;have Ya2:=joinB Ya1 hb;try clear hSn
 have hSn:=Xa2
 clear hb
 refine hKo hK (fun hHeld=>?_)
 clear hK K
 refine tkP 7 ?_
 refine rdP 8 fun K hK=>?_
 go_simp
 have Xa3:=blkOld Xa2 (below_bytes va2 5 S2);have Ya3:=joinB Ya2 (below_bytes va2 5 S2);have OWN:=(HCV.out va2).mono Ya2.size
 try clear hSn
 have hSn:=Xa3
 refine hKo hK (fun hHeld=>?_)
 clear hK K
 refine tkP 9 ?_
 refine wpAnyH_done Kr ?_ _
 have HOWN:=Hq (show OwnB w0.heap.size (Lib.bytesWorld va2 5 S2) _ (Rc.p nu 6++Rc.p (ts.length:Int) 2)from by(have h:=OWN);rw[HS2.out,Rc.mk_list]at h;rw[HS2.out];exact h)
 have HBW:=Hq Ya3
 obtain⟨W1,hW1⟩:=ex (Lib.bytesWorld va2 5 S2)
 rw[← hW1]at HOWN HBW
 rw[← hW1]
 clear hHeld hSn hW1 Xa0 Xa1 Xa2 Xa3 Ya0 Ya1 Ya2 Ya3 OWN HCV hcv ha2
 go_wp2_with fail
 go_loopw [3,4] (fun v i wr=>∃ k:Nat,k≤ts.length∧i= .int .i64 (k:Int)∧OwnB w0.heap.size wr v (Rc.p nu 6++Rc.p (ts.length:Int) 2++(ts.take k).flatMap Rc.txnB)∧Below w0.heap.size w0 wr) (fun _ i _=>ts.length-(intOf i).toNat)
 case atStart=>exact⟨0,Nat.zero_le _,rfl,by rw[List.take_zero,List.flatMap_nil,List.append_nil];exact HOWN.out,HBW.out⟩
 case round=>
  obtain⟨k,hk,rfl,hown,hbe⟩:=hrel
  have HBE:=Hq hbe
  obtain⟨L,hL⟩:=ex (Rc.p nu 6++Rc.p (ts.length:Int) 2++(ts.take k).flatMap Rc.txnB)
  rw[← hL]at hown
  have hLl:L.length≤20000:=by
   rw[hL,List.length_append,List.length_append,Rc.p_length,Rc.p_length,Rc.flat_len Rc.txnB 19 Rc.txnB_len,List.length_take];omega
  have HL:=Hq hL
  have HO:=Hq hown
  clear hL hbe hown HOWN HBW
  have hcb:=blkCell (blkOld HX0.out HBE.out)
  by_cases hlt:k<ts.length
  ·have hk2:(k:Int)<(ts.length:Int):=by omega
   have hk1:(0:Int)≤(k:Int):=by omega
   have hwk:IntKind.i64.wrap ((k:Int)+1)=(k:Int)+1:=IntWalk.i64_in _ (by omega)
   obtain⟨b1,off,rfl,hc,hbl,hcell⟩:=read_at txC_len (HT.out.below HBE.out) hlt
   have HFT:=Hq (Rc.flat_take Rc.txnB ts k hlt)
   generalize ts[k]=x at hcell HFT
   obtain⟨x1,x2,x3,x4⟩:=x
   have HC:=Hq (show wr.rangeAt b1 (off+k*4) [.int .i64 x1,.int .i64 x2,.int .i64 x3,.bool x4]from hcell)
   clear hcell hc
   go_upto_region 6 with(first
    |(with_reducible refine wpList_load_mid rfl 83 (.tmp 27) rfl b1 (off+k*4) rfl [.int .i64 x1,.int .i64 x2,.int .i64 x3,.bool x4] _ HC.out Tryz.underlying83 Kr Kr ?_)
    |(with_reducible refine sN #[x1,x2,x3,x4] ?_))
   have HG:=Hq (heap_alloc_new wr (.cells #[x1,x2,x3,x4] 83))
   have HB1:=Hq (joinB HBE.out (allocB wr (.cells #[x1,x2,x3,x4] 83)))
   have HO1:=Hq (HO.out.below (allocB wr (.cells #[x1,x2,x3,x4] 83)))
   obtain⟨gx,hge⟩:=ex wr.heap.size
   obtain⟨W2,hW2⟩:=ex (wr.alloc (.cells #[x1,x2,x3,x4] 83))
   rw[← hge,← hW2]at HG
   rw[← hW2]at HB1 HO1
   rw[← hge,← hW2]
   clear hge hW2 hcb HC hbl HO
   have hcx:=blkCell HG.out
   cases x4 with
   |true=>
    obtain⟨B3,hB3⟩:=ex (Rc.mk (Rc.p x1 6))
    have HC3:=Hq (show ∀ W,Calls Tryz.prog 83 #[x1,.int .i64 6] W fun e w'=>e= .returned (.string B3)∧Below W.heap.size W w' from fun W=>by rw[hB3];exact rput_mk x1 6 (by omega) W)
    obtain⟨B4,hB4⟩:=ex (Rc.mk (Rc.p x2 6))
    have HC4:=Hq (show ∀ W,Calls Tryz.prog 83 #[x2,.int .i64 6] W fun e w'=>e= .returned (.string B4)∧Below W.heap.size W w' from fun W=>by rw[hB4];exact rput_mk x2 6 (by omega) W)
    obtain⟨B5,hB5⟩:=ex (Rc.mk (Rc.p x3 6))
    have HC5:=Hq (show ∀ W,Calls Tryz.prog 83 #[x3,.int .i64 6] W fun e w'=>e= .returned (.string B5)∧Below W.heap.size W w' from fun W=>by rw[hB5];exact rput_mk x3 6 (by omega) W)
    obtain⟨B6,hB6⟩:=ex (Rc.mk (Rc.p 1 1))
    have HC6:=Hq (show ∀ W,Calls Tryz.prog 83 #[.int .i64 1,.int .i64 1] W fun e w'=>e= .returned (.string B6)∧Below W.heap.size W w' from fun W=>by rw[hB6];exact rput_mk 1 1 (by omega) W)
    obtain⟨S4,hS4⟩:=ex (Rc.mk (Rc.p x1 6++Rc.p x2 6))
    have ha4:∀ W:World,(Op.stringOp .add B3 B4).run Tryz.prog W= .ok (.string S4) W:=fun W=>by rw[hB3,hB4,hS4];exact add_mk _ _ (by simp only[Rc.p_length];omega) W
    obtain⟨S5,hS5⟩:=ex (Rc.mk ((Rc.p x1 6++Rc.p x2 6)++Rc.p x3 6))
    have ha5:∀ W:World,(Op.stringOp .add S4 B5).run Tryz.prog W= .ok (.string S5) W:=fun W=>by rw[hS4,hB5,hS5];exact add_mk _ _ (by simp only[List.length_append,Rc.p_length];omega) W
    obtain⟨S6,hS6⟩:=ex (Rc.mk ((Rc.p x1 6++Rc.p x2 6++Rc.p x3 6)++Rc.p 1 1))
    have ha6:∀ W:World,(Op.stringOp .add S5 B6).run Tryz.prog W= .ok (.string S6) W:=fun W=>by rw[hS5,hB6,hS6];exact add_mk _ _ (by simp only[List.length_append,Rc.p_length];omega) W
    have HN:=Hq (show L++S6.data.toList=Rc.p nu 6++Rc.p (ts.length:Int) 2++(ts.take (k+1)).flatMap Rc.txnB from by rw[HFT.out,HL.out,hS6,Rc.mk_list,Rc.txnB_true];simp only[List.append_assoc])
    have hz6:S6.size≤100:=by rw[hS6,Rc.mk_size];simp only[List.length_append,Rc.p_length];omega
    clear hB3 hB4 hB5 hB6 hS4 hS5 hS6
    go_upto_region 9 with fail
    have Xb0:=blkOld HG.out (Below.refl _ W2).drew
    have Yb0:=joinB HB1.out (Below.refl _ W2).drew
    have Ob0:=HO1.out.below (Below.refl _ W2).drew
    refine wp_region_Z (S:=(fun u=>u.heap[gx]? =some (.cells #[x1,x2,x3,true] 83 (0,0)))) 15 Kr ?_ (fun hHeld=>?_)
    ·first|exact hSn|exact Xb0
    refine tzP 0 [15] ?_
    refine tzP 1 [2,3,6,10,13,15] ?_
    refine tzP 2 [3,6,10,13,15] ?_
    refine tzP 4 [5,6,10,13,15] ?_
    refine tzP 5 [6,10,13,15] ?_
    refine tzP 8 [9,10,13,15] ?_
    refine tzP 9 [10,13,15] ?_
    refine tzP 12 [13,15] ?_
    refine wpAnyZ_ready (rs:=[3]) Kr (by simp) ?_
    refine AllReadyZ.cons (o:={dst:=some 34,op:=_,type:=_,pos:=_,after:=_,guard:=_}) rfl (fun K hK=>?_) ?_
    rotate_left
    ·exact AllReadyZ.nil
    go_simp
    refine(HC3.out _).mono ?_;rintro e vb1 ⟨rfl,hb⟩;have Xb1:=blkOld Xb0 hb;have Yb1:=joinB Yb0 hb;have Ob1:=Ob0.below hb;try clear hSn
    have hSn:=Xb1
    clear hb
    refine hKo hK (fun hHeld=>?_)
    clear hK K
    refine wpAnyZ_ready (rs:=[6]) Kr (by simp) ?_
    refine AllReadyZ.cons (o:={dst:=some 37,op:=_,type:=_,pos:=_,after:=_,guard:=_}) rfl (fun K hK=>?_) ?_
    rotate_left
    ·exact AllReadyZ.nil
    go_simp
    refine(HC4.out _).mono ?_;rintro e vb2 ⟨rfl,hb⟩;have Xb2:=blkOld Xb1 hb;have Yb2:=joinB Yb1 hb;have Ob2:=Ob1.below hb;try clear hSn
    have hSn:=Xb2
    clear hb
    refine hKo hK (fun hHeld=>?_)
    clear hK K
    refine tzP 7 [11,14,15] ?_
    refine wpAnyZ_ready (rs:=[10]) Kr (by simp) ?_
    refine AllReadyZ.cons (o:={dst:=some 41,op:=_,type:=_,pos:=_,after:=_,guard:=_}) rfl (fun K hK=>?_) ?_
    rotate_left
    ·exact AllReadyZ.nil
    go_simp
    refine(HC5.out _).mono ?_;rintro e vb3 ⟨rfl,hb⟩;have Xb3:=blkOld Xb2 hb;have Yb3:=joinB Yb2 hb;have Ob3:=Ob2.below hb;try clear hSn
    have hSn:=Xb3
    clear hb
    refine hKo hK (fun hHeld=>?_)
    clear hK K
    refine tzP 11 [14,15] ?_
    refine wpAnyZ_ready (rs:=[13]) Kr (by simp) ?_
    refine AllReadyZ.cons (o:={dst:=some 44,op:=_,type:=_,pos:=_,after:=_,guard:=_}) rfl (fun K hK=>?_) ?_
    rotate_left
    ·exact AllReadyZ.nil
    go_simp
    refine(HC6.out _).mono ?_;rintro e vb4 ⟨rfl,hb⟩;have Xb4:=blkOld Xb3 hb;have Yb4:=joinB Yb3 hb;have Ob4:=Ob3.below hb;try clear hSn
    have hSn:=Xb4
    clear hb
    refine hKo hK (fun hHeld=>?_)
    clear hK K
    refine tzP 14 [15] ?_
    refine wpAnyZ_ready (rs:=[15]) Kr (by simp) ?_
    refine AllReadyZ.last (o:={dst:=some 46,op:=_,type:=_,pos:=_,after:=_,guard:=_}) rfl Kr (fun K hK=>?_) ?_
    rotate_left
    ·exact AllReadyZ.nil
    refine wantedIf (by rfl) ?_
    refine wp_appB _ (.tmp 31) (.tmp 45) 141 9 5 Tryz.underlying141 Tryz.underlying9 info_byte rfl w0.heap.size _ L rfl Ob4 S6 rfl (by omega) Yb4.size ?_
    intro v9 w9 ho hb
    have Yb5:=Yb4.trans hb
    refine hK.out _ _ ?_
    clear hK K
    try simp only[Act.put,pS]
    refine wpAnyZ_ready (rs:=[16]) Kr (by simp) ?_
    refine AllReadyZ.last (o:={dst:=some 3,op:=_,type:=_,pos:=_,after:=_,guard:=_}) rfl Kr (fun K hK=>?_) ?_
    rotate_left
    ·exact AllReadyZ.nil
    go_simp
    refine hK.out _ _ ?_
    clear hK K
    try simp only[Act.put,pS]
    refine wpAnyZ_done Kr ?_ _
    rw[HN.out]at ho
    clear hHeld hSn
    go_wp2_with fail
    go_roundw
    case rel=>exact⟨k+1,by omega,by go_num,ho,Yb5⟩
    case measure=>simp[intOf];omega
   |false=>
    obtain⟨B3,hB3⟩:=ex (Rc.mk (Rc.p x1 6))
    have HC3:=Hq (show ∀ W,Calls Tryz.prog 83 #[x1,.int .i64 6] W fun e w'=>e= .returned (.string B3)∧Below W.heap.size W w' from fun W=>by rw[hB3];exact rput_mk x1 6 (by omega) W)
    obtain⟨B4,hB4⟩:=ex (Rc.mk (Rc.p x2 6))
    have HC4:=Hq (show ∀ W,Calls Tryz.prog 83 #[x2,.int .i64 6] W fun e w'=>e= .returned (.string B4)∧Below W.heap.size W w' from fun W=>by rw[hB4];exact rput_mk x2 6 (by omega) W)
    obtain⟨B5,hB5⟩:=ex (Rc.mk (Rc.p x3 6))
    have HC5:=Hq (show ∀ W,Calls Tryz.prog 83 #[x3,.int .i64 6] W fun e w'=>e= .returned (.string B5)∧Below W.heap.size W w' from fun W=>by rw[hB5];exact rput_mk x3 6 (by omega) W)
    obtain⟨B6,hB6⟩:=ex (Rc.mk (Rc.p 0 1))
    have HC6:=Hq (show ∀ W,Calls Tryz.prog 83 #[(),.int .i64 1] W fun e w'=>e= .returned (.string B6)∧Below W.heap.size W w' from fun W=>by rw[hB6];exact rput_mk 0 1 (by omega) W)
    obtain⟨S4,hS4⟩:=ex (Rc.mk (Rc.p x1 6++Rc.p x2 6))
    have ha4:∀ W:World,(Op.stringOp .add B3 B4).run Tryz.prog W= .ok (.string S4) W:=fun W=>by rw[hB3,hB4,hS4];exact add_mk _ _ (by simp only[Rc.p_length];omega) W
    obtain⟨S5,hS5⟩:=ex (Rc.mk ((Rc.p x1 6++Rc.p x2 6)++Rc.p x3 6))
    have ha5:∀ W:World,(Op.stringOp .add S4 B5).run Tryz.prog W= .ok (.string S5) W:=fun W=>by rw[hS4,hB5,hS5];exact add_mk _ _ (by simp only[List.length_append,Rc.p_length];omega) W
    obtain⟨S6,hS6⟩:=ex (Rc.mk ((Rc.p x1 6++Rc.p x2 6++Rc.p x3 6)++Rc.p 0 1))
    have ha6:∀ W:World,(Op.stringOp .add S5 B6).run Tryz.prog W= .ok (.string S6) W:=fun W=>by rw[hS5,hB6,hS6];exact add_mk _ _ (by simp only[List.length_append,Rc.p_length];omega) W
    have HN:=Hq (show L++S6.data.toList=Rc.p nu 6++Rc.p (ts.length:Int) 2++(ts.take (k+1)).flatMap Rc.txnB from by rw[HFT.out,HL.out,hS6,Rc.mk_list,Rc.txnB_false];simp only[List.append_assoc])
    have hz6:S6.size≤100:=by rw[hS6,Rc.mk_size];simp only[List.length_append,Rc.p_length];omega
    clear hB3 hB4 hB5 hB6 hS4 hS5 hS6
    go_upto_region 9 with fail
    have Xb0:=blkOld HG.out (Below.refl _ W2).drew
    have Yb0:=joinB HB1.out (Below.refl _ W2).drew
    have Ob0:=HO1.out.below (Below.refl _ W2).drew
    refine wp_region_Z (S:=(fun u=>u.heap[gx]? =some (.cells #[x1,x2,x3,false] 83 (0,0)))) 15 Kr ?_ (fun hHeld=>?_)
    ·first|exact hSn|exact Xb0
    refine tzP 0 [15] ?_
    refine tzP 1 [2,3,6,10,13,15] ?_
    refine tzP 2 [3,6,10,13,15] ?_
    refine tzP 4 [5,6,10,13,15] ?_
    refine tzP 5 [6,10,13,15] ?_
    refine tzP 8 [9,10,13,15] ?_
    refine tzP 9 [10,13,15] ?_
    refine tzP 12 [13,15] ?_
    refine wpAnyZ_ready (rs:=[3]) Kr (by simp) ?_
    refine AllReadyZ.cons (o:={dst:=some 34,op:=_,type:=_,pos:=_,after:=_,guard:=_}) rfl (fun K hK=>?_) ?_
    rotate_left
    ·exact AllReadyZ.nil
    go_simp
    refine(HC3.out _).mono ?_;rintro e vb1 ⟨rfl,hb⟩;have Xb1:=blkOld Xb0 hb;have Yb1:=joinB Yb0 hb;have Ob1:=Ob0.below hb;try clear hSn
    have hSn:=Xb1
    clear hb
    refine hKo hK (fun hHeld=>?_)
    clear hK K
    refine wpAnyZ_ready (rs:=[6]) Kr (by simp) ?_
    refine AllReadyZ.cons (o:={dst:=some 37,op:=_,type:=_,pos:=_,after:=_,guard:=_}) rfl (fun K hK=>?_) ?_
    rotate_left
    ·exact AllReadyZ.nil
    go_simp
    refine(HC4.out _).mono ?_;rintro e vb2 ⟨rfl,hb⟩;have Xb2:=blkOld Xb1 hb;have Yb2:=joinB Yb1 hb;have Ob2:=Ob1.below hb;try clear hSn
    have hSn:=Xb2
    clear hb
    refine hKo hK (fun hHeld=>?_)
    clear hK K
    refine tzP 7 [11,14,15] ?_
    refine wpAnyZ_ready (rs:=[10]) Kr (by simp) ?_
    refine AllReadyZ.cons (o:={dst:=some 41,op:=_,type:=_,pos:=_,after:=_,guard:=_}) rfl (fun K hK=>?_) ?_
    rotate_left
    ·exact AllReadyZ.nil
    go_simp
    refine(HC5.out _).mono ?_;rintro e vb3 ⟨rfl,hb⟩;have Xb3:=blkOld Xb2 hb;have Yb3:=joinB Yb2 hb;have Ob3:=Ob2.below hb;try clear hSn
    have hSn:=Xb3
    clear hb
    refine hKo hK (fun hHeld=>?_)
    clear hK K
    refine tzP 11 [14,15] ?_
    refine wpAnyZ_ready (rs:=[13]) Kr (by simp) ?_
    refine AllReadyZ.cons (o:={dst:=some 44,op:=_,type:=_,pos:=_,after:=_,guard:=_}) rfl (fun K hK=>?_) ?_
    rotate_left
    ·exact AllReadyZ.nil
    go_simp
    refine(HC6.out _).mono ?_;rintro e vb4 ⟨rfl,hb⟩;have Xb4:=blkOld Xb3 hb;have Yb4:=joinB Yb3 hb;have Ob4:=Ob3.below hb;try clear hSn
    have hSn:=Xb4
    clear hb
    refine hKo hK (fun hHeld=>?_)
    clear hK K
    refine tzP 14 [15] ?_
    refine wpAnyZ_ready (rs:=[15]) Kr (by simp) ?_
    refine AllReadyZ.last (o:={dst:=some 46,op:=_,type:=_,pos:=_,after:=_,guard:=_}) rfl Kr (fun K hK=>?_) ?_
    rotate_left
    ·exact AllReadyZ.nil
    refine wantedIf (by rfl) ?_
    refine wp_appB _ (.tmp 31) (.tmp 45) 141 9 5 Tryz.underlying141 Tryz.underlying9 info_byte rfl w0.heap.size _ L rfl Ob4 S6 rfl (by omega) Yb4.size ?_
    intro v9 w9 ho hb
    have Yb5:=Yb4.trans hb
    refine hK.out _ _ ?_
    clear hK K
    try simp only[Act.put,pS]
    refine wpAnyZ_ready (rs:=[16]) Kr (by simp) ?_
    refine AllReadyZ.last (o:={dst:=some 3,op:=_,type:=_,pos:=_,after:=_,guard:=_}) rfl Kr (fun K hK=>?_) ?_
    rotate_left
    ·exact AllReadyZ.nil
    go_simp
    refine hK.out _ _ ?_
    clear hK K
    try simp only[Act.put,pS]
    refine wpAnyZ_done Kr ?_ _
    rw[HN.out]at ho
    clear hHeld hSn
    go_wp2_with fail
    go_roundw
    case rel=>exact⟨k+1,by omega,by go_num,ho,Yb5⟩
    case measure=>simp[intOf];omega
  ·have hk2:¬ (k:Int)<(ts.length:Int):=by omega
   obtain rfl:k=ts.length:=by omega
   rw[List.take_length]at HL
   obtain⟨B7,hB7⟩:=ex (Rc.mk (Rc.p (ds.length:Int) 2))
   have HC7:=Hq (show ∀ W,Calls Tryz.prog 83 #[.int .i64 (ds.length:Int),.int .i64 2] W fun e w'=>e= .returned (.string B7)∧Below W.heap.size W w' from fun W=>by rw[hB7];exact rput_mk (ds.length:Int) 2 (by omega) W)
   have HL7:=Hq (show L++B7.data.toList=Rc.p nu 6++Rc.p (ts.length:Int) 2++ts.flatMap Rc.txnB++Rc.p (ds.length:Int) 2 from by rw[HL.out,hB7,Rc.mk_list])
   have hz7:B7.size=2:=by rw[hB7,Rc.mk_size,Rc.p_length]
   clear hB7
   obtain⟨wo,rfl⟩:=ex wr
   go_upto_region 11 with(first
    |(go_at_call 83;(with_reducible refine(HC7.out _).mono ?_);rintro e w3 ⟨rfl,hb3⟩;have O3:=HO.out.below hb3;have Y3:=joinB HBE.out hb3)
    |(at_builtin;refine wpList_appB Kr (.tmp 47) (.tmp 51) 141 9 5 Tryz.underlying141 Tryz.underlying9 info_byte rfl w0.heap.size _ L rfl O3 B7 rfl (by omega) Y3.size ?_;intro v8 w8 ho hb;have Y8:=Hq (Y3.trans hb);rw[HL7.out]at ho;have O8:=Hq ho;clear ho hb))
   obtain⟨base,hbase⟩:=ex (Rc.p nu 6++Rc.p (ts.length:Int) 2++ts.flatMap Rc.txnB++Rc.p (ds.length:Int) 2)
   rw[← hbase]at O8
   have hbl0:base.length≤20010:=by rw[hbase,List.length_append,List.length_append,List.length_append,Rc.p_length,Rc.p_length,Rc.p_length,Rc.flat_len Rc.txnB 19 Rc.txnB_len];omega
   have HBASE:=Hq hbase
   clear hbase O3 Y3 hb3 HO HBE HL HL7 hcb
   go_wp2_with fail
   go_loopw [3,7] (fun v i wr=>∃ m:Nat,m≤ds.length∧i= .int .i64 (m:Int)∧OwnB w0.heap.size wr v (base++(ds.take m).flatMap Rc.dirtyB)∧Below w0.heap.size w0 wr) (fun _ i _=>ds.length-(intOf i).toNat)
   case atStart=>exact⟨0,Nat.zero_le _,rfl,by rw[List.take_zero,List.flatMap_nil,List.append_nil];exact O8.out,Y8.out⟩
   case round=>
    obtain⟨m,hm,rfl,hown,hbe⟩:=hrel
    have HBE:=Hq hbe
    obtain⟨M,hM⟩:=ex (base++(ds.take m).flatMap Rc.dirtyB)
    rw[← hM]at hown
    have hMl:M.length≤40000:=by
     rw[hM,List.length_append,Rc.flat_len Rc.dirtyB 9 Rc.dirtyB_len,List.length_take];omega
    have HMM:=Hq hM
    have HO:=Hq hown
    clear hM hbe hown O8 Y8
    have hcb:=blkCell (blkOld HX0.out HBE.out)
    by_cases hlt:m<ds.length
    ·have hm2:(m:Int)<(ds.length:Int):=by omega
     have hm1:(0:Int)≤(m:Int):=by omega
     have hwm:IntKind.i64.wrap ((m:Int)+1)=(m:Int)+1:=IntWalk.i64_in _ (by omega)
     obtain⟨b1,off,rfl,hc,hbl,hcell⟩:=read_at diC_len (HD.out.below HBE.out) hlt
     have HFT:=Hq (Rc.flat_take Rc.dirtyB ds m hlt)
     generalize ds[m]=x at hcell HFT
     obtain⟨x1,x2⟩:=x
     have q0:=hcell 0 _ rfl
     have q1:=hcell 1 _ rfl
     simp only[Nat.add_zero]at q0
     clear hcell hc
     obtain⟨B8,hB8⟩:=ex (Rc.mk (Rc.p x1 3))
     have HC8:=Hq (show ∀ W,Calls Tryz.prog 83 #[x1,.int .i64 3] W fun e w'=>e= .returned (.string B8)∧Below W.heap.size W w' from fun W=>by rw[hB8];exact rput_mk x1 3 (by omega) W)
     obtain⟨B9,hB9⟩:=ex (Rc.mk (Rc.p x2 6))
     have HC9:=Hq (show ∀ W,Calls Tryz.prog 83 #[x2,.int .i64 6] W fun e w'=>e= .returned (.string B9)∧Below W.heap.size W w' from fun W=>by rw[hB9];exact rput_mk x2 6 (by omega) W)
     obtain⟨S9,hS9⟩:=ex (Rc.mk (Rc.p x1 3++Rc.p x2 6))
     have ha9:∀ W:World,(Op.stringOp .add B8 B9).run Tryz.prog W= .ok (.string S9) W:=fun W=>by rw[hB8,hB9,hS9];exact add_mk _ _ (by simp only[Rc.p_length];omega) W
     have HN:=Hq (show M++S9.data.toList=base++(ds.take (m+1)).flatMap Rc.dirtyB from by rw[HFT.out,HMM.out,hS9,Rc.mk_list];simp only[List.append_assoc];rfl)
     have hz9:S9.size=9:=by rw[hS9,Rc.mk_size];simp only[List.length_append,Rc.p_length]
     clear hB8 hB9 hS9
     go_upto_region 14 with fail
     have Xc0:=And.intro (blkOld (blkOld HX0.out HBE.out) (Below.refl _ wr).drew) (And.intro (show wr.drew.cell? ⟨b1,off+m*2,none⟩=_ from q0) (show wr.drew.cell? ⟨b1,off+m*2+1,none⟩=_ from q1))
     have Yc0:=joinB HBE.out (Below.refl _ wr).drew
     have Oc0:=HO.out.below (Below.refl _ wr).drew
     have hblc:b1<wr.drew.heap.size:=hbl
     refine wp_region_Z (S:=(fun u=>u.heap[g]? =some (.cells (rcA lsn prev txn kind page next nu ok os oo on how root ek ep es (.slice A ts.length c) (.slice (some ⟨b1,off,none⟩) ds.length d)) 47 (0,0))∧u.cell? ⟨b1,off+m*2,none⟩=some (.int .i64 x1)∧u.cell? ⟨b1,off+m*2+1,none⟩=some (.int .i64 x2))) 16 Kr ?_ (fun hHeld=>?_)
     ·first|exact hSn|exact Xc0
     refine wpAnyZ_take (i:=0) (oi:={dst:=some 60,op:=_,type:=_,pos:=_,after:=_,guard:=_}) (v:=?_) (p:=[16]) rfl Kr Kr Kr Kr Kr Kr (fun _ _ _ h=>h) (Or.inl ⟨by rfl,?_⟩) (by assumption) ?_
     rotate_left
     ·intro u hSu;obtain⟨hSa,hSb,hSc⟩:=hSu;have hSv:=blkCell hSa;clear hSa;go_simp;(try with_reducible rfl)
     try simp only[Act.put,pS]
     refine wpAnyZ_take (i:=1) (oi:={dst:=some 61,op:=_,type:=_,pos:=_,after:=_,guard:=_}) (v:=?_) (p:=[2,4,5,6,7,14,16]) rfl Kr Kr Kr Kr Kr Kr (fun _ _ _ h=>h) (Or.inl ⟨by rfl,?_⟩) (by assumption) ?_
     rotate_left
     ·intro u hSu;obtain⟨hSa,hSb,hSc⟩:=hSu;have hSv:=blkCell hSa;clear hSa;go_simp;(try with_reducible rfl)
     try simp only[Act.put,pS]
     refine wpAnyZ_take (i:=2) (oi:={dst:=some 62,op:=_,type:=_,pos:=_,after:=_,guard:=_}) (v:=?_) (p:=[4,5,6,7,14,16]) rfl Kr Kr Kr Kr Kr Kr (fun _ _ _ h=>h) (Or.inl ⟨by rfl,?_⟩) (by assumption) ?_
     rotate_left
     ·intro u hSu;obtain⟨hSa,hSb,hSc⟩:=hSu;have hSv:=blkCell hSa;clear hSa;go_simp;(try with_reducible rfl)
     try simp only[Act.put,pS]
     refine wpAnyZ_take (i:=3) (oi:={dst:=some 63,op:=_,type:=_,pos:=_,after:=_,guard:=_}) (v:=?_) (p:=[4,5,6,7,14,16]) rfl Kr Kr Kr Kr Kr Kr (fun _ _ _ h=>h) (Or.inl ⟨by rfl,?_⟩) (by assumption) ?_
     rotate_left
     ·intro u hSu;obtain⟨hSa,hSb,hSc⟩:=hSu;have hSv:=blkCell hSa;clear hSa;go_simp;(try with_reducible rfl)
     try simp only[Act.put,pS]
     refine wpAnyZ_take (i:=4) (oi:={dst:=some 64,op:=_,type:=_,pos:=_,after:=_,guard:=_}) (v:=?_) (p:=[5,6,7,14,16]) rfl Kr Kr Kr Kr Kr Kr (fun _ _ _ h=>h) (Or.inl ⟨by rfl,?_⟩) (by assumption) ?_
     rotate_left
     ·intro u hSu;obtain⟨hSa,hSb,hSc⟩:=hSu;have hSv:=blkCell hSa;clear hSa;go_simp;(try with_reducible rfl)
     try simp only[Act.put,pS]
     refine wpAnyZ_take (i:=5) (oi:={dst:=some 65,op:=_,type:=_,pos:=_,after:=_,guard:=_}) (v:=?_) (p:=[6,7,14,16]) rfl Kr Kr Kr Kr Kr Kr (fun _ _ _ h=>h) (Or.inl ⟨by rfl,?_⟩) (by assumption) ?_
     rotate_left
     ·intro u hSu;obtain⟨hSa,hSb,hSc⟩:=hSu;have hSv:=blkCell hSa;clear hSa;go_simp;(try with_reducible rfl)
     try simp only[Act.put,pS]
     refine wpAnyZ_take (i:=6) (oi:={dst:=some 66,op:=_,type:=_,pos:=_,after:=_,guard:=_}) (v:=?_) (p:=[7,14,16]) rfl Kr Kr Kr Kr Kr Kr (fun _ _ _ h=>h) (Or.inl ⟨by rfl,?_⟩) (by assumption) ?_
     rotate_left
     ·intro u hSu;obtain⟨hSa,hSb,hSc⟩:=hSu;have hSv:=blkCell hSa;clear hSa;go_simp;(try with_reducible rfl)
     try simp only[Act.put,pS]
     refine wpAnyZ_take (i:=8) (oi:={dst:=some 68,op:=_,type:=_,pos:=_,after:=_,guard:=_}) (v:=?_) (p:=[9,11,12,13,14,16]) rfl Kr Kr Kr Kr Kr Kr (fun _ _ _ h=>h) (Or.inl ⟨by rfl,?_⟩) (by assumption) ?_
     rotate_left
     ·intro u hSu;obtain⟨hSa,hSb,hSc⟩:=hSu;have hSv:=blkCell hSa;clear hSa;go_simp;(try with_reducible rfl)
     try simp only[Act.put,pS]
     refine wpAnyZ_take (i:=9) (oi:={dst:=some 69,op:=_,type:=_,pos:=_,after:=_,guard:=_}) (v:=?_) (p:=[11,12,13,14,16]) rfl Kr Kr Kr Kr Kr Kr (fun _ _ _ h=>h) (Or.inl ⟨by rfl,?_⟩) (by assumption) ?_
     rotate_left
     ·intro u hSu;obtain⟨hSa,hSb,hSc⟩:=hSu;have hSv:=blkCell hSa;clear hSa;go_simp;(try with_reducible rfl)
     try simp only[Act.put,pS]
     refine wpAnyZ_take (i:=10) (oi:={dst:=some 70,op:=_,type:=_,pos:=_,after:=_,guard:=_}) (v:=?_) (p:=[11,12,13,14,16]) rfl Kr Kr Kr Kr Kr Kr (fun _ _ _ h=>h) (Or.inl ⟨by rfl,?_⟩) (by assumption) ?_
     rotate_left
     ·intro u hSu;obtain⟨hSa,hSb,hSc⟩:=hSu;have hSv:=blkCell hSa;clear hSa;go_simp;(try with_reducible rfl)
     try simp only[Act.put,pS]
     refine wpAnyZ_take (i:=11) (oi:={dst:=some 71,op:=_,type:=_,pos:=_,after:=_,guard:=_}) (v:=?_) (p:=[12,13,14,16]) rfl Kr Kr Kr Kr Kr Kr (fun _ _ _ h=>h) (Or.inl ⟨by rfl,?_⟩) (by assumption) ?_
     rotate_left
     ·intro u hSu;obtain⟨hSa,hSb,hSc⟩:=hSu;have hSv:=blkCell hSa;clear hSa;go_simp;(try with_reducible rfl)
     try simp only[Act.put,pS]
     refine wpAnyZ_take (i:=12) (oi:={dst:=some 72,op:=_,type:=_,pos:=_,after:=_,guard:=_}) (v:=?_) (p:=[13,14,16]) rfl Kr Kr Kr Kr Kr Kr (fun _ _ _ h=>h) (Or.inl ⟨by rfl,?_⟩) (by assumption) ?_
     rotate_left
     ·intro u hSu;obtain⟨hSa,hSb,hSc⟩:=hSu;have hSv:=blkCell hSa;clear hSa;go_simp;(try with_reducible rfl)
     try simp only[Act.put,pS]
     refine wpAnyZ_take (i:=13) (oi:={dst:=some 73,op:=_,type:=_,pos:=_,after:=_,guard:=_}) (v:=?_) (p:=[14,16]) rfl Kr Kr Kr Kr Kr Kr (fun _ _ _ h=>h) (Or.inl ⟨by rfl,?_⟩) (by assumption) ?_
     rotate_left
     ·intro u hSu;obtain⟨hSa,hSb,hSc⟩:=hSu;have hSv:=blkCell hSa;clear hSa;go_simp;(try with_reducible rfl)
     try simp only[Act.put,pS]
     refine wpAnyZ_ready (rs:=[7]) Kr (by simp) ?_
     refine AllReadyZ.cons (o:={dst:=some 67,op:=_,type:=_,pos:=_,after:=_,guard:=_}) rfl (fun K hK=>?_) ?_
     rotate_left
     ·exact AllReadyZ.nil
     go_simp
     refine(HC8.out _).mono ?_;rintro e vc1 ⟨rfl,hb⟩;have Xc1:=And.intro (blkOld Xc0.1 hb) (And.intro ((hb.cell (p:=⟨b1,off+m*2,none⟩) hblc).trans Xc0.2.1) ((hb.cell (p:=⟨b1,off+m*2+1,none⟩) hblc).trans Xc0.2.2));have hblc1:=Nat.lt_of_lt_of_le hblc hb.size;have Yc1:=joinB Yc0 hb;have Oc1:=Oc0.below hb;try clear hSn
     have hSn:=Xc1
     clear hb
     refine hKo hK (fun hHeld=>?_)
     clear hK K
     refine wpAnyZ_ready (rs:=[14]) Kr (by simp) ?_
     refine AllReadyZ.cons (o:={dst:=some 74,op:=_,type:=_,pos:=_,after:=_,guard:=_}) rfl (fun K hK=>?_) ?_
     rotate_left
     ·exact AllReadyZ.nil
     go_simp
     refine(HC9.out _).mono ?_;rintro e vc2 ⟨rfl,hb⟩;have Xc2:=And.intro (blkOld Xc1.1 hb) (And.intro ((hb.cell (p:=⟨b1,off+m*2,none⟩) hblc1).trans Xc1.2.1) ((hb.cell (p:=⟨b1,off+m*2+1,none⟩) hblc1).trans Xc1.2.2));have hblc2:=Nat.lt_of_lt_of_le hblc1 hb.size;have Yc2:=joinB Yc1 hb;have Oc2:=Oc1.below hb;try clear hSn
     have hSn:=Xc2
     clear hb
     refine hKo hK (fun hHeld=>?_)
     clear hK K
     refine wpAnyZ_take (i:=15) (oi:={dst:=some 75,op:=_,type:=_,pos:=_,after:=_,guard:=_}) (v:=?_) (p:=[16]) rfl Kr Kr Kr Kr Kr Kr (fun _ _ _ h=>h) (Or.inl ⟨by rfl,?_⟩) (by assumption) ?_
     rotate_left
     ·intro u hSu;obtain⟨hSa,hSb,hSc⟩:=hSu;have hSv:=blkCell hSa;clear hSa;go_simp;(try with_reducible rfl)
     try simp only[Act.put,pS]
     refine wpAnyZ_ready (rs:=[16]) Kr (by simp) ?_
     refine AllReadyZ.last (o:={dst:=some 76,op:=_,type:=_,pos:=_,after:=_,guard:=_}) rfl Kr (fun K hK=>?_) ?_
     rotate_left
     ·exact AllReadyZ.nil
     refine wantedIf (by rfl) ?_
     refine wp_appB _ (.tmp 60) (.tmp 75) 141 9 5 Tryz.underlying141 Tryz.underlying9 info_byte rfl w0.heap.size _ M rfl Oc2 S9 rfl (by omega) Yc2.size ?_
     intro v9 w9 ho hb
     have Yc3:=Yc2.trans hb
     refine hK.out _ _ ?_
     clear hK K
     try simp only[Act.put,pS]
     refine wpAnyZ_ready (rs:=[17]) Kr (by simp) ?_
     refine AllReadyZ.last (o:={dst:=some 3,op:=_,type:=_,pos:=_,after:=_,guard:=_}) rfl Kr (fun K hK=>?_) ?_
     rotate_left
     ·exact AllReadyZ.nil
     go_simp
     refine hK.out _ _ ?_
     clear hK K
     try simp only[Act.put,pS]
     refine wpAnyZ_done Kr ?_ _
     rw[HN.out]at ho
     clear hHeld hSn
     go_wp2_with fail
     go_roundw
     case rel=>exact⟨m+1,by omega,by go_num,ho,Yc3⟩
     case measure=>simp[intOf];omega
    ·have hm2:¬ (m:Int)<(ds.length:Int):=by omega
     obtain rfl:m=ds.length:=by omega
     rw[List.take_length]at HMM
     have HE:=Hq (show(⟨M.toArray⟩:ByteArray)=R from by rw[hR,HMM.out,HBASE.out];unfold Rc.listsB Rc.mk;simp only[List.append_assoc])
     have hback:=HO.out.back (P:=Tryz.prog) (t:=141) (u:=9) (e:=5) Tryz.underlying141 Tryz.underlying5 Tryz.underlying9
     rw[HE.out]at hback
     go_wp2_with fail
     go_ret
     exact⟨rfl,joinB HB0.out HBE.out⟩
theorem rbody_any (r:Rc.Rec)(hR0:Rc.Right r)(A B:Option Addr)(c d:Nat)(w:World)(hr:RecR w r A c B d):
 Calls Tryz.prog 103 #[recV r (.slice A r.txns.length c) (.slice B r.dirty.length d)] w fun e w'=>e= .returned (.string (Rc.mk (Rc.bodyB r)))∧Below w.heap.size w w':=by
 have HF:=Hq (Rc.form_of hR0)
 have HRR:=Hq hr
 clear hR0 hr
 obtain⟨lsn,prev,txn,kind,page,next,nu,⟨ok,os,oo,on⟩,how,root,⟨ek,ep,es⟩,ts,ds⟩:=r
 have hk:=HF.out.kind
 dsimp only at hk
 have h9:(kind=1∨kind=5∨kind=6∨kind=7)∨kind=2∨kind=3∨kind=4∨kind=8∨kind=9:=by omega
 have HK:=Hq h9
 clear hk h9
 dsimp only[recV,recA]
 obtain⟨w0,hw0⟩:=ex (w.alloc (.cells (rcA lsn prev txn kind page next nu ok os oo on how root ek ep es (.slice A ts.length c) (.slice B ds.length d)) 47))
 have HB0:=Hq (show Below w.heap.size w w0 from by rw[hw0];exact allocB _ _)
 have HX0:=Hq (show w0.heap[w.heap.size]? =some (.cells (rcA lsn prev txn kind page next nu ok os oo on how root ek ep es (.slice A ts.length c) (.slice B ds.length d)) 47 (0,0))from by rw[hw0];exact heap_alloc_new _ _)
 obtain⟨R,hR⟩:=ex (Rc.mk (Rc.bodyB ⟨lsn,prev,txn,kind,page,next,nu,⟨ok,os,oo,on⟩,how,root,⟨ek,ep,es⟩,ts,ds⟩))
 rw[← hR]
 have HR:=Hq hR
 clear hR
 obtain⟨B1,hB1⟩:=ex (Rc.mk (Rc.p kind 1))
 have hl1:((Rc.p kind 1)).length=1:=Rc.p_length _ _
 have HC1:=Hq (show ∀ W,Calls Tryz.prog 83 #[kind,.int .i64 1] W fun e w'=>e= .returned (.string B1)∧Below W.heap.size W w' from fun W=>by rw[hB1];exact rput_mk kind 1 (by omega) W)
 obtain⟨B2,hB2⟩:=ex (Rc.mk (Rc.p lsn 6))
 have hl2:((Rc.p lsn 6)).length=6:=Rc.p_length _ _
 have HC2:=Hq (show ∀ W,Calls Tryz.prog 83 #[lsn,.int .i64 6] W fun e w'=>e= .returned (.string B2)∧Below W.heap.size W w' from fun W=>by rw[hB2];exact rput_mk lsn 6 (by omega) W)
 obtain⟨S2,hS2⟩:=ex (Rc.mk ((Rc.p kind 1)++(Rc.p lsn 6)))
 have ha2:∀ W:World,(Op.stringOp .add B1 B2).run Tryz.prog W= .ok (.string S2) W:=fun W=>by rw[hB1,hB2,hS2];exact add_mk _ _ (by(try simp only[Rc.p_length]);omega) W
 obtain⟨B3,hB3⟩:=ex (Rc.mk (Rc.p prev 6))
 have hl3:((Rc.p prev 6)).length=6:=Rc.p_length _ _
 have HC3:=Hq (show ∀ W,Calls Tryz.prog 83 #[prev,.int .i64 6] W fun e w'=>e= .returned (.string B3)∧Below W.heap.size W w' from fun W=>by rw[hB3];exact rput_mk prev 6 (by omega) W)
 obtain⟨S3,hS3⟩:=ex (Rc.mk (((Rc.p kind 1)++(Rc.p lsn 6))++(Rc.p prev 6)))
 have ha3:∀ W:World,(Op.stringOp .add S2 B3).run Tryz.prog W= .ok (.string S3) W:=fun W=>by rw[hS2,hB3,hS3];exact add_mk _ _ (by(try simp only[List.length_append,Rc.p_length]);omega) W
 obtain⟨B4,hB4⟩:=ex (Rc.mk (Rc.p txn 6))
 have hl4:((Rc.p txn 6)).length=6:=Rc.p_length _ _
 have HC4:=Hq (show ∀ W,Calls Tryz.prog 83 #[txn,.int .i64 6] W fun e w'=>e= .returned (.string B4)∧Below W.heap.size W w' from fun W=>by rw[hB4];exact rput_mk txn 6 (by omega) W)
 obtain⟨S4,hS4⟩:=ex (Rc.mk ((((Rc.p kind 1)++(Rc.p lsn 6))++(Rc.p prev 6))++(Rc.p txn 6)))
 have ha4:∀ W:World,(Op.stringOp .add S3 B4).run Tryz.prog W= .ok (.string S4) W:=fun W=>by rw[hS3,hB4,hS4];exact add_mk _ _ (by(try simp only[List.length_append,Rc.p_length]);omega) W
 have HS4:=Hq hS4
 have hl0:((((Rc.p kind 1)++(Rc.p lsn 6))++(Rc.p prev 6))++(Rc.p txn 6)).length=19:=by simp only[List.length_append];omega
 have HL0:=Hq hl0
 clear hB1 hl1
 clear hB2 hl2
 clear hB3 hl3
 clear hB4 hl4
 clear hS2
 clear hS3
 clear hS4
 clear hl0
 go_enter Tryz.func103,Tryz.ntmps103
 go_upto_region 1 with fail
 rw[← hw0]
 clear hw0
 obtain⟨g,hg⟩:=ex w.heap.size
 rw[← hg]at HX0
 rw[← hg]
 have hg0:w.heap.size≤g:=Nat.le_of_eq hg.symm
 clear hg
 go_cut [3] (fun s3 wc=>s3= .string S4∧wc.heap[g]? =some (.cells (rcA lsn prev txn kind page next nu ok os oo on how root ek ep es (.slice A ts.length c) (.slice B ds.length d)) 47 (0,0))∧Below w.heap.size w wc)
 case first=>
  go_upto_region 1 with fail
  have Xb0:=blkOld HX0.out (Below.refl _ w0).drew
  have Yb0:=joinB HB0.out (Below.refl _ w0).drew
  refine rgH (S:=(fun u=>u.heap[g]? =some (.cells (rcA lsn prev txn kind page next nu ok os oo on how root ek ep es (.slice A ts.length c) (.slice B ds.length d)) 47 (0,0)))) (fun hHeld=>?_)
  refine tkP 0 ?_;refine tkP 1 ?_;refine tkP 3 ?_;refine tkP 4 ?_;refine tkP 7 ?_;refine tkP 8 ?_;refine tkP 11 ?_;refine tkP 12 ?_
  refine rdP 2 fun K hK=>?_
  go_simp
  refine(HC1.out _).mono ?_;rintro e vb1 ⟨rfl,hb⟩;have Xb1:=blkOld Xb0 hb;have Yb1:=joinB Yb0 hb;try clear hSn
  have hSn:=Xb1
  clear hb
  refine hKo hK (fun hHeld=>?_)
  clear hK K
  refine rdP 5 fun K hK=>?_
  go_simp
  refine(HC2.out _).mono ?_;rintro e vb2 ⟨rfl,hb⟩;have Xb2:=blkOld Xb1 hb;have Yb2:=joinB Yb1 hb;try clear hSn
  have hSn:=Xb2
  clear hb
  refine hKo hK (fun hHeld=>?_)
  clear hK K
  refine tkP 6 ?_
  refine rdP 9 fun K hK=>?_
  go_simp
  refine(HC3.out _).mono ?_;rintro e vb3 ⟨rfl,hb⟩;have Xb3:=blkOld Xb2 hb;have Yb3:=joinB Yb2 hb;try clear hSn
  have hSn:=Xb3
  clear hb
  refine hKo hK (fun hHeld=>?_)
  clear hK K
  refine tkP 10 ?_
  refine rdP 13 fun K hK=>?_
  go_simp
  refine(HC4.out _).mono ?_;rintro e vb4 ⟨rfl,hb⟩;have Xb4:=blkOld Xb3 hb;have Yb4:=joinB Yb3 hb;try clear hSn
  have hSn:=Xb4
  clear hb
  refine hKo hK (fun hHeld=>?_)
  clear hK K
  refine tkP 14 ?_;refine tkP 15 ?_
  refine wpAnyH_done Kr ?_ _
  have HX1:=Hq Xb4
  have HB1:=Hq Yb4
  clear hHeld hSn Xb0 Yb0 Xb1 Yb1 Xb2 Yb2 Xb3 Yb3 Xb4 Yb4
  go_wp2_with fail
  go_meet
  case rel=>exact⟨rfl,HX1.out,HB1.out⟩
 case rest=>
  obtain⟨rfl,hx1,hb1⟩:=hcut
  obtain⟨w1,rfl⟩:=ex wc
  have HX1:=Hq hx1
  have HB1:=Hq hb1
  clear hx1 hb1 HX0 HB0 HC1 HC2 HC3 HC4 ha2 ha3 ha4 hg0
  rcases HK.out with h9|rfl|rfl|rfl|rfl|rfl
  ·rcases h9 with rfl|rfl|rfl|rfl<;>(
   have hS4:=HS4.out
   have HE:=Hq (show S4=R from by rw[hS4,HR.out];(congr 1)<;>(unfold Rc.bodyB;rw[show Rc.restB _=[]from by unfold Rc.restB;rfl];unfold Rc.headB;simp only[List.append_assoc,List.append_nil]))
   have hcg1:=blkCell HX1.out
   clear hS4
   go_wp2_with fail
   go_ret
   exact⟨by rw[← HE.out];rfl,HB1.out⟩)
  ·have hS4:=HS4.out
   have hl0:=HL0.out
   have hcg1:=blkCell HX1.out
   obtain⟨-,-,-,h4,h5⟩:=(HF.out.change (by unfold Rc.hasChange;simp)).2
   dsimp only at h4 h5
   have hoo:oo.size≤65535:=by omega
   have hon:on.size≤65535:=by omega
   clear h4 h5
   obtain⟨B5,hB5⟩:=ex (Rc.mk (Rc.p page 3))
   have hl5:((Rc.p page 3)).length=3:=Rc.p_length _ _
   have HC5:=Hq (show ∀ W,Calls Tryz.prog 83 #[page,.int .i64 3] W fun e w'=>e= .returned (.string B5)∧Below W.heap.size W w' from fun W=>by rw[hB5];exact rput_mk page 3 (by omega) W)
   obtain⟨S5,hS5⟩:=ex (Rc.mk (((((Rc.p 2 1)++(Rc.p lsn 6))++(Rc.p prev 6))++(Rc.p txn 6))++(Rc.p page 3)))
   have ha5:∀ W:World,(Op.stringOp .add S4 B5).run Tryz.prog W= .ok (.string S5) W:=fun W=>by rw[hS4,hB5,hS5];exact add_mk _ _ (by(try simp only[List.length_append,Rc.p_length]);omega) W
   obtain⟨B6,hB6⟩:=ex (Rc.mk (Rc.opB ⟨ok,os,oo,on⟩))
   have hl6:((Rc.opB ⟨ok,os,oo,on⟩)).length≤140000:=by unfold Rc.opB;simp only[List.length_append,Rc.p_length,Rc.t_len];omega
   have HC6:=Hq (show ∀ W,Calls Tryz.prog 159 #[.agg #[ok,os,oo,on]] W fun e w'=>e= .returned (.string B6)∧Below W.heap.size W w' from fun W=>by rw[hB6];exact ropb_any ⟨ok,os,oo,on⟩ hoo hon W)
   obtain⟨S6,hS6⟩:=ex (Rc.mk ((((((Rc.p 2 1)++(Rc.p lsn 6))++(Rc.p prev 6))++(Rc.p txn 6))++(Rc.p page 3))++(Rc.opB ⟨ok,os,oo,on⟩)))
   have ha6:∀ W:World,(Op.stringOp .add S5 B6).run Tryz.prog W= .ok (.string S6) W:=fun W=>by rw[hS5,hB6,hS6];exact add_mk _ _ (by(try simp only[List.length_append,Rc.p_length]);omega) W
   obtain⟨B7,hB7⟩:=ex (Rc.mk (Rc.p how 1))
   have hl7:((Rc.p how 1)).length=1:=Rc.p_length _ _
   have HC7:=Hq (show ∀ W,Calls Tryz.prog 83 #[how,.int .i64 1] W fun e w'=>e= .returned (.string B7)∧Below W.heap.size W w' from fun W=>by rw[hB7];exact rput_mk how 1 (by omega) W)
   obtain⟨S7,hS7⟩:=ex (Rc.mk (((((((Rc.p 2 1)++(Rc.p lsn 6))++(Rc.p prev 6))++(Rc.p txn 6))++(Rc.p page 3))++(Rc.opB ⟨ok,os,oo,on⟩))++(Rc.p how 1)))
   have ha7:∀ W:World,(Op.stringOp .add S6 B7).run Tryz.prog W= .ok (.string S7) W:=fun W=>by rw[hS6,hB7,hS7];exact add_mk _ _ (by(try simp only[List.length_append,Rc.p_length]);omega) W
   by_cases hh:how=1
   ·have hh1:(how==1)=true:=by simpa using hh
    have HE:=Hq (show S7=R from by rw[hS7,HR.out];(congr 1)<;>(unfold Rc.bodyB;rw[Rc.restB_2 rfl];unfold Rc.headB;unfold Rc.treeB;rw[if_pos hh];simp only[List.append_assoc,List.append_nil]))
    clear hh hB5 hl5 hS5 hB6 hl6 hS6 hB7 hl7 hS7 hS4 hl0
    go_upto_region 4 with fail
    have Xc0:=blkOld HX1.out (Below.refl _ w1).drew
    have Yc0:=joinB HB1.out (Below.refl _ w1).drew
    refine rgH (S:=(fun u=>u.heap[g]? =some (.cells (rcA lsn prev txn 2 page next nu ok os oo on how root ek ep es (.slice A ts.length c) (.slice B ds.length d)) 47 (0,0)))) (fun hHeld=>?_)
    refine tkP 0 ?_;refine tkP 1 ?_;refine tkP 2 ?_;refine tkP 5 ?_;refine tkP 6 ?_;refine tkP 9 ?_;refine tkP 10 ?_
    refine rdP 3 fun K hK=>?_
    go_simp
    refine(HC5.out _).mono ?_;rintro e vc1 ⟨rfl,hb⟩;have Xc1:=blkOld Xc0 hb;have Yc1:=joinB Yc0 hb;try clear hSn
    have hSn:=Xc1
    clear hb
    refine hKo hK (fun hHeld=>?_)
    clear hK K
    refine tkP 4 ?_
    refine rdP 7 fun K hK=>?_
    go_simp
    refine(HC6.out _).mono ?_;rintro e vc2 ⟨rfl,hb⟩;have Xc2:=blkOld Xc1 hb;have Yc2:=joinB Yc1 hb;try clear hSn
    have hSn:=Xc2
    clear hb
    refine hKo hK (fun hHeld=>?_)
    clear hK K
    refine tkP 8 ?_
    refine rdP 11 fun K hK=>?_
    go_simp
    refine(HC7.out _).mono ?_;rintro e vc3 ⟨rfl,hb⟩;have Xc3:=blkOld Xc2 hb;have Yc3:=joinB Yc2 hb;try clear hSn
    have hSn:=Xc3
    clear hb
    refine hKo hK (fun hHeld=>?_)
    clear hK K
    refine tkP 12 ?_;refine tkP 13 ?_
    refine wpAnyH_done Kr ?_ _
    have HX2:=Hq Xc3
    have HB2:=Hq Yc3
    clear hHeld hSn Xc0 Yc0 Xc1 Yc1 Xc2 Yc2 Xc3 Yc3
    have hcg2:=blkCell HX2.out
    go_wp2_with fail
    go_ret
    exact⟨by rw[← HE.out];rfl,HB2.out⟩
   ·have hh1:(how==1)=false:=by simpa using hh
    have hek:ek.size≤65535:=by
     rcases HF.out.tree rfl with⟨h7,_⟩|⟨_,_,_,_,h8⟩
     ·exact absurd h7 hh
     ·dsimp only at h8;omega
    obtain⟨B8,hB8⟩:=ex (Rc.mk (Rc.p root 3))
    have hl8:((Rc.p root 3)).length=3:=Rc.p_length _ _
    have HC8:=Hq (show ∀ W,Calls Tryz.prog 83 #[root,.int .i64 3] W fun e w'=>e= .returned (.string B8)∧Below W.heap.size W w' from fun W=>by rw[hB8];exact rput_mk root 3 (by omega) W)
    obtain⟨S8,hS8⟩:=ex (Rc.mk ((((((((Rc.p 2 1)++(Rc.p lsn 6))++(Rc.p prev 6))++(Rc.p txn 6))++(Rc.p page 3))++(Rc.opB ⟨ok,os,oo,on⟩))++(Rc.p how 1))++(Rc.p root 3)))
    have ha8:∀ W:World,(Op.stringOp .add S7 B8).run Tryz.prog W= .ok (.string S8) W:=fun W=>by rw[hS7,hB8,hS8];exact add_mk _ _ (by(try simp only[List.length_append,Rc.p_length]);omega) W
    obtain⟨B9,hB9⟩:=ex (Rc.mk (Rc.p ep 3))
    have hl9:((Rc.p ep 3)).length=3:=Rc.p_length _ _
    have HC9:=Hq (show ∀ W,Calls Tryz.prog 83 #[ep,.int .i64 3] W fun e w'=>e= .returned (.string B9)∧Below W.heap.size W w' from fun W=>by rw[hB9];exact rput_mk ep 3 (by omega) W)
    obtain⟨S9,hS9⟩:=ex (Rc.mk (((((((((Rc.p 2 1)++(Rc.p lsn 6))++(Rc.p prev 6))++(Rc.p txn 6))++(Rc.p page 3))++(Rc.opB ⟨ok,os,oo,on⟩))++(Rc.p how 1))++(Rc.p root 3))++(Rc.p ep 3)))
    have ha9:∀ W:World,(Op.stringOp .add S8 B9).run Tryz.prog W= .ok (.string S9) W:=fun W=>by rw[hS8,hB9,hS9];exact add_mk _ _ (by(try simp only[List.length_append,Rc.p_length]);omega) W
    obtain⟨B10,hB10⟩:=ex (Rc.mk (Rc.p es 2))
    have hl10:((Rc.p es 2)).length=2:=Rc.p_length _ _
    have HC10:=Hq (show ∀ W,Calls Tryz.prog 83 #[es,.int .i64 2] W fun e w'=>e= .returned (.string B10)∧Below W.heap.size W w' from fun W=>by rw[hB10];exact rput_mk es 2 (by omega) W)
    obtain⟨S10,hS10⟩:=ex (Rc.mk ((((((((((Rc.p 2 1)++(Rc.p lsn 6))++(Rc.p prev 6))++(Rc.p txn 6))++(Rc.p page 3))++(Rc.opB ⟨ok,os,oo,on⟩))++(Rc.p how 1))++(Rc.p root 3))++(Rc.p ep 3))++(Rc.p es 2)))
    have ha10:∀ W:World,(Op.stringOp .add S9 B10).run Tryz.prog W= .ok (.string S10) W:=fun W=>by rw[hS9,hB10,hS10];exact add_mk _ _ (by(try simp only[List.length_append,Rc.p_length]);omega) W
    obtain⟨B11,hB11⟩:=ex (Rc.mk (Rc.t ek))
    have hl11:((Rc.t ek)).length≤70000:=by rw[Rc.t_len];omega
    have HC11:=Hq (show ∀ W,Calls Tryz.prog 160 #[ek] W fun e w'=>e= .returned (.string B11)∧Below W.heap.size W w' from fun W=>by rw[hB11];exact rputtext_any ek hek W)
    obtain⟨S11,hS11⟩:=ex (Rc.mk (((((((((((Rc.p 2 1)++(Rc.p lsn 6))++(Rc.p prev 6))++(Rc.p txn 6))++(Rc.p page 3))++(Rc.opB ⟨ok,os,oo,on⟩))++(Rc.p how 1))++(Rc.p root 3))++(Rc.p ep 3))++(Rc.p es 2))++(Rc.t ek)))
    have ha11:∀ W:World,(Op.stringOp .add S10 B11).run Tryz.prog W= .ok (.string S11) W:=fun W=>by rw[hS10,hB11,hS11];exact add_mk _ _ (by(try simp only[List.length_append,Rc.p_length]);omega) W
    have HE:=Hq (show S11=R from by rw[hS11,HR.out];(congr 1)<;>(unfold Rc.bodyB;rw[Rc.restB_2 rfl];unfold Rc.headB;unfold Rc.treeB;rw[if_neg hh];simp only[List.append_assoc]))
    clear hh hek
    clear hB5 hl5 hS5
    clear hB6 hl6 hS6
    clear hB7 hl7 hS7
    clear hB8 hl8 hS8
    clear hB9 hl9 hS9
    clear hB10 hl10 hS10
    clear hB11 hl11 hS11
    clear hS4 hl0
    go_upto_region 4 with fail
    have Xc0:=blkOld HX1.out (Below.refl _ w1).drew
    have Yc0:=joinB HB1.out (Below.refl _ w1).drew
    refine rgH (S:=(fun u=>u.heap[g]? =some (.cells (rcA lsn prev txn 2 page next nu ok os oo on how root ek ep es (.slice A ts.length c) (.slice B ds.length d)) 47 (0,0)))) (fun hHeld=>?_)
    refine tkP 0 ?_;refine tkP 1 ?_;refine tkP 2 ?_;refine tkP 5 ?_;refine tkP 6 ?_;refine tkP 9 ?_;refine tkP 10 ?_
    refine rdP 3 fun K hK=>?_
    go_simp
    refine(HC5.out _).mono ?_;rintro e vc1 ⟨rfl,hb⟩;have Xc1:=blkOld Xc0 hb;have Yc1:=joinB Yc0 hb;try clear hSn
    have hSn:=Xc1
    clear hb
    refine hKo hK (fun hHeld=>?_)
    clear hK K
    refine tkP 4 ?_
    refine rdP 7 fun K hK=>?_
    go_simp
    refine(HC6.out _).mono ?_;rintro e vc2 ⟨rfl,hb⟩;have Xc2:=blkOld Xc1 hb;have Yc2:=joinB Yc1 hb;try clear hSn
    have hSn:=Xc2
    clear hb
    refine hKo hK (fun hHeld=>?_)
    clear hK K
    refine tkP 8 ?_
    refine rdP 11 fun K hK=>?_
    go_simp
    refine(HC7.out _).mono ?_;rintro e vc3 ⟨rfl,hb⟩;have Xc3:=blkOld Xc2 hb;have Yc3:=joinB Yc2 hb;try clear hSn
    have hSn:=Xc3
    clear hb
    refine hKo hK (fun hHeld=>?_)
    clear hK K
    refine tkP 12 ?_;refine tkP 13 ?_
    refine wpAnyH_done Kr ?_ _
    have HX2:=Hq Xc3
    have HB2:=Hq Yc3
    clear hHeld hSn Xc0 Yc0 Xc1 Yc1 Xc2 Yc2 Xc3 Yc3
    have hcg2:=blkCell HX2.out
    go_upto_region 7 with fail
    have Xd0:=blkOld HX2.out (Below.refl _ vc3).drew
    have Yd0:=joinB HB2.out (Below.refl _ vc3).drew
    refine rgH (S:=(fun u=>u.heap[g]? =some (.cells (rcA lsn prev txn 2 page next nu ok os oo on how root ek ep es (.slice A ts.length c) (.slice B ds.length d)) 47 (0,0)))) (fun hHeld=>?_)
    refine tkP 0 ?_;refine tkP 1 ?_;refine tkP 2 ?_;refine tkP 5 ?_;refine tkP 6 ?_;refine tkP 7 ?_;refine tkP 8 ?_;refine tkP 11 ?_;refine tkP 12 ?_;refine tkP 13 ?_;refine tkP 14 ?_;refine tkP 17 ?_;refine tkP 18 ?_;refine tkP 19 ?_
    refine rdP 3 fun K hK=>?_
    go_simp
    refine(HC8.out _).mono ?_;rintro e vd1 ⟨rfl,hb⟩;have Xd1:=blkOld Xd0 hb;have Yd1:=joinB Yd0 hb;try clear hSn
    have hSn:=Xd1
    clear hb
    refine hKo hK (fun hHeld=>?_)
    clear hK K
    refine tkP 4 ?_
    refine rdP 9 fun K hK=>?_
    go_simp
    refine(HC9.out _).mono ?_;rintro e vd2 ⟨rfl,hb⟩;have Xd2:=blkOld Xd1 hb;have Yd2:=joinB Yd1 hb;try clear hSn
    have hSn:=Xd2
    clear hb
    refine hKo hK (fun hHeld=>?_)
    clear hK K
    refine tkP 10 ?_
    refine rdP 15 fun K hK=>?_
    go_simp
    refine(HC10.out _).mono ?_;rintro e vd3 ⟨rfl,hb⟩;have Xd3:=blkOld Xd2 hb;have Yd3:=joinB Yd2 hb;try clear hSn
    have hSn:=Xd3
    clear hb
    refine hKo hK (fun hHeld=>?_)
    clear hK K
    refine tkP 16 ?_
    refine rdP 20 fun K hK=>?_
    go_simp
    refine(HC11.out _).mono ?_;rintro e vd4 ⟨rfl,hb⟩;have Xd4:=blkOld Xd3 hb;have Yd4:=joinB Yd3 hb;try clear hSn
    have hSn:=Xd4
    clear hb
    refine hKo hK (fun hHeld=>?_)
    clear hK K
    refine tkP 21 ?_;refine tkP 22 ?_
    refine wpAnyH_done Kr ?_ _
    have HX3:=Hq Xd4
    have HB3:=Hq Yd4
    clear hHeld hSn Xd0 Yd0 Xd1 Yd1 Xd2 Yd2 Xd3 Yd3 Xd4 Yd4
    go_wp2_with fail
    go_ret
    exact⟨by rw[← HE.out];rfl,HB3.out⟩
  ·have hS4:=HS4.out
   have hl0:=HL0.out
   have hcg1:=blkCell HX1.out
   obtain⟨-,-,-,h4,h5⟩:=(HF.out.change (by unfold Rc.hasChange;simp)).2
   dsimp only at h4 h5
   have hoo:oo.size≤65535:=by omega
   have hon:on.size≤65535:=by omega
   clear h4 h5
   obtain⟨B5,hB5⟩:=ex (Rc.mk (Rc.p page 3))
   have hl5:((Rc.p page 3)).length=3:=Rc.p_length _ _
   have HC5:=Hq (show ∀ W,Calls Tryz.prog 83 #[page,.int .i64 3] W fun e w'=>e= .returned (.string B5)∧Below W.heap.size W w' from fun W=>by rw[hB5];exact rput_mk page 3 (by omega) W)
   obtain⟨S5,hS5⟩:=ex (Rc.mk (((((Rc.p 3 1)++(Rc.p lsn 6))++(Rc.p prev 6))++(Rc.p txn 6))++(Rc.p page 3)))
   have ha5:∀ W:World,(Op.stringOp .add S4 B5).run Tryz.prog W= .ok (.string S5) W:=fun W=>by rw[hS4,hB5,hS5];exact add_mk _ _ (by(try simp only[List.length_append,Rc.p_length]);omega) W
   obtain⟨B6,hB6⟩:=ex (Rc.mk (Rc.opB ⟨ok,os,oo,on⟩))
   have hl6:((Rc.opB ⟨ok,os,oo,on⟩)).length≤140000:=by unfold Rc.opB;simp only[List.length_append,Rc.p_length,Rc.t_len];omega
   have HC6:=Hq (show ∀ W,Calls Tryz.prog 159 #[.agg #[ok,os,oo,on]] W fun e w'=>e= .returned (.string B6)∧Below W.heap.size W w' from fun W=>by rw[hB6];exact ropb_any ⟨ok,os,oo,on⟩ hoo hon W)
   obtain⟨S6,hS6⟩:=ex (Rc.mk ((((((Rc.p 3 1)++(Rc.p lsn 6))++(Rc.p prev 6))++(Rc.p txn 6))++(Rc.p page 3))++(Rc.opB ⟨ok,os,oo,on⟩)))
   have ha6:∀ W:World,(Op.stringOp .add S5 B6).run Tryz.prog W= .ok (.string S6) W:=fun W=>by rw[hS5,hB6,hS6];exact add_mk _ _ (by(try simp only[List.length_append,Rc.p_length]);omega) W
   obtain⟨B7,hB7⟩:=ex (Rc.mk (Rc.p next 6))
   have hl7:((Rc.p next 6)).length=6:=Rc.p_length _ _
   have HC7:=Hq (show ∀ W,Calls Tryz.prog 83 #[next,.int .i64 6] W fun e w'=>e= .returned (.string B7)∧Below W.heap.size W w' from fun W=>by rw[hB7];exact rput_mk next 6 (by omega) W)
   obtain⟨S7,hS7⟩:=ex (Rc.mk (((((((Rc.p 3 1)++(Rc.p lsn 6))++(Rc.p prev 6))++(Rc.p txn 6))++(Rc.p page 3))++(Rc.opB ⟨ok,os,oo,on⟩))++(Rc.p next 6)))
   have ha7:∀ W:World,(Op.stringOp .add S6 B7).run Tryz.prog W= .ok (.string S7) W:=fun W=>by rw[hS6,hB7,hS7];exact add_mk _ _ (by(try simp only[List.length_append,Rc.p_length]);omega) W
   have HE:=Hq (show S7=R from by rw[hS7,HR.out];(congr 1)<;>(unfold Rc.bodyB;rw[Rc.restB_3 rfl];unfold Rc.headB;simp only[List.append_assoc]))
   clear hB5 hl5 hS5
   clear hB6 hl6 hS6
   clear hB7 hl7 hS7
   clear hS4 hl0
   go_upto_region 9 with fail
   have Xc0:=blkOld HX1.out (Below.refl _ w1).drew
   have Yc0:=joinB HB1.out (Below.refl _ w1).drew
   refine rgH (S:=(fun u=>u.heap[g]? =some (.cells (rcA lsn prev txn 3 page next nu ok os oo on how root ek ep es (.slice A ts.length c) (.slice B ds.length d)) 47 (0,0)))) (fun hHeld=>?_)
   refine tkP 0 ?_;refine tkP 1 ?_;refine tkP 2 ?_;refine tkP 5 ?_;refine tkP 6 ?_;refine tkP 9 ?_;refine tkP 10 ?_
   refine rdP 3 fun K hK=>?_
   go_simp
   refine(HC5.out _).mono ?_;rintro e vc1 ⟨rfl,hb⟩;have Xc1:=blkOld Xc0 hb;have Yc1:=joinB Yc0 hb;try clear hSn
   have hSn:=Xc1
   clear hb
   refine hKo hK (fun hHeld=>?_)
   clear hK K
   refine tkP 4 ?_
   refine rdP 7 fun K hK=>?_
   go_simp
   refine(HC6.out _).mono ?_;rintro e vc2 ⟨rfl,hb⟩;have Xc2:=blkOld Xc1 hb;have Yc2:=joinB Yc1 hb;try clear hSn
   have hSn:=Xc2
   clear hb
   refine hKo hK (fun hHeld=>?_)
   clear hK K
   refine tkP 8 ?_
   refine rdP 11 fun K hK=>?_
   go_simp
   refine(HC7.out _).mono ?_;rintro e vc3 ⟨rfl,hb⟩;have Xc3:=blkOld Xc2 hb;have Yc3:=joinB Yc2 hb;try clear hSn
   have hSn:=Xc3
   clear hb
   refine hKo hK (fun hHeld=>?_)
   clear hK K
   refine tkP 12 ?_;refine tkP 13 ?_
   refine wpAnyH_done Kr ?_ _
   have HX2:=Hq Xc3
   have HB2:=Hq Yc3
   clear hHeld hSn Xc0 Yc0 Xc1 Yc1 Xc2 Yc2 Xc3 Yc3
   go_wp2_with fail
   go_ret
   exact⟨by rw[← HE.out];rfl,HB2.out⟩
  ·have hS4:=HS4.out
   have hl0:=HL0.out
   have hcg1:=blkCell HX1.out
   obtain⟨B5,hB5⟩:=ex (Rc.mk (Rc.p next 6))
   have hl5:((Rc.p next 6)).length=6:=Rc.p_length _ _
   have HC5:=Hq (show ∀ W,Calls Tryz.prog 83 #[next,.int .i64 6] W fun e w'=>e= .returned (.string B5)∧Below W.heap.size W w' from fun W=>by rw[hB5];exact rput_mk next 6 (by omega) W)
   obtain⟨S5,hS5⟩:=ex (Rc.mk (((((Rc.p 4 1)++(Rc.p lsn 6))++(Rc.p prev 6))++(Rc.p txn 6))++(Rc.p next 6)))
   have ha5:∀ W:World,(Op.stringOp .add S4 B5).run Tryz.prog W= .ok (.string S5) W:=fun W=>by rw[hS4,hB5,hS5];exact add_mk _ _ (by(try simp only[List.length_append,Rc.p_length]);omega) W
   have HE:=Hq (show S5=R from by rw[hS5,HR.out];(congr 1)<;>(unfold Rc.bodyB;rw[Rc.restB_4 rfl];unfold Rc.headB;simp only[List.append_assoc]))
   clear hB5 hl5 hS5
   clear hS4 hl0
   go_wp2_with (go_at_call 83;(with_reducible refine(HC5.out _).mono ?_);rintro e w9 ⟨rfl,hb9⟩)
   go_ret
   exact⟨by rw[← HE.out];rfl,joinB HB1.out hb9⟩
  ·have hS4:=HS4.out
   have hl0:=HL0.out
   have hcg1:=blkCell HX1.out
   obtain⟨-,-,-,h4,h5⟩:=(HF.out.change (by unfold Rc.hasChange;simp)).2
   dsimp only at h4 h5
   have hoo:oo.size≤65535:=by omega
   have hon:on.size≤65535:=by omega
   clear h4 h5
   obtain⟨B5,hB5⟩:=ex (Rc.mk (Rc.p page 3))
   have hl5:((Rc.p page 3)).length=3:=Rc.p_length _ _
   have HC5:=Hq (show ∀ W,Calls Tryz.prog 83 #[page,.int .i64 3] W fun e w'=>e= .returned (.string B5)∧Below W.heap.size W w' from fun W=>by rw[hB5];exact rput_mk page 3 (by omega) W)
   obtain⟨S5,hS5⟩:=ex (Rc.mk (((((Rc.p 8 1)++(Rc.p lsn 6))++(Rc.p prev 6))++(Rc.p txn 6))++(Rc.p page 3)))
   have ha5:∀ W:World,(Op.stringOp .add S4 B5).run Tryz.prog W= .ok (.string S5) W:=fun W=>by rw[hS4,hB5,hS5];exact add_mk _ _ (by(try simp only[List.length_append,Rc.p_length]);omega) W
   obtain⟨B6,hB6⟩:=ex (Rc.mk (Rc.opB ⟨ok,os,oo,on⟩))
   have hl6:((Rc.opB ⟨ok,os,oo,on⟩)).length≤140000:=by unfold Rc.opB;simp only[List.length_append,Rc.p_length,Rc.t_len];omega
   have HC6:=Hq (show ∀ W,Calls Tryz.prog 159 #[.agg #[ok,os,oo,on]] W fun e w'=>e= .returned (.string B6)∧Below W.heap.size W w' from fun W=>by rw[hB6];exact ropb_any ⟨ok,os,oo,on⟩ hoo hon W)
   obtain⟨S6,hS6⟩:=ex (Rc.mk ((((((Rc.p 8 1)++(Rc.p lsn 6))++(Rc.p prev 6))++(Rc.p txn 6))++(Rc.p page 3))++(Rc.opB ⟨ok,os,oo,on⟩)))
   have ha6:∀ W:World,(Op.stringOp .add S5 B6).run Tryz.prog W= .ok (.string S6) W:=fun W=>by rw[hS5,hB6,hS6];exact add_mk _ _ (by(try simp only[List.length_append,Rc.p_length]);omega) W
   have HE:=Hq (show S6=R from by rw[hS6,HR.out];(congr 1)<;>(unfold Rc.bodyB;rw[Rc.restB_8 rfl];unfold Rc.headB;simp only[List.append_assoc]))
   clear hB5 hl5 hS5
   clear hB6 hl6 hS6
   clear hS4 hl0
   go_upto_region 13 with fail
   have Xc0:=blkOld HX1.out (Below.refl _ w1).drew
   have Yc0:=joinB HB1.out (Below.refl _ w1).drew
   refine rgH (S:=(fun u=>u.heap[g]? =some (.cells (rcA lsn prev txn 8 page next nu ok os oo on how root ek ep es (.slice A ts.length c) (.slice B ds.length d)) 47 (0,0)))) (fun hHeld=>?_)
   refine tkP 0 ?_;refine tkP 1 ?_;refine tkP 2 ?_;refine tkP 5 ?_;refine tkP 6 ?_
   refine rdP 3 fun K hK=>?_
   go_simp
   refine(HC5.out _).mono ?_;rintro e vc1 ⟨rfl,hb⟩;have Xc1:=blkOld Xc0 hb;have Yc1:=joinB Yc0 hb;try clear hSn
   have hSn:=Xc1
   clear hb
   refine hKo hK (fun hHeld=>?_)
   clear hK K
   refine tkP 4 ?_
   refine rdP 7 fun K hK=>?_
   go_simp
   refine(HC6.out _).mono ?_;rintro e vc2 ⟨rfl,hb⟩;have Xc2:=blkOld Xc1 hb;have Yc2:=joinB Yc1 hb;try clear hSn
   have hSn:=Xc2
   clear hb
   refine hKo hK (fun hHeld=>?_)
   clear hK K
   refine tkP 8 ?_;refine tkP 9 ?_
   refine wpAnyH_done Kr ?_ _
   have HX2:=Hq Xc2
   have HB2:=Hq Yc2
   clear hHeld hSn Xc0 Yc0 Xc1 Yc1 Xc2 Yc2
   go_wp2_with fail
   go_ret
   exact⟨by rw[← HE.out];rfl,HB2.out⟩
  ·have hS4:=HS4.out
   have hl0:=HL0.out
   have hcg1:=blkCell HX1.out
   have h6:=(HF.out.lists rfl).2
   obtain⟨B5,hB5⟩:=ex (Rc.mk (Rc.listsB ⟨lsn,prev,txn,9,page,next,nu,⟨ok,os,oo,on⟩,how,root,⟨ek,ep,es⟩,ts,ds⟩))
   have hl5:(Rc.listsB ⟨lsn,prev,txn,9,page,next,nu,⟨ok,os,oo,on⟩,how,root,⟨ek,ep,es⟩,ts,ds⟩).length≤40000:=by have h7:=h6.1;have h8:=h6.2.1;dsimp only at h7 h8;unfold Rc.listsB;simp only[List.length_append,Rc.p_length,Rc.flat_len Rc.txnB 19 Rc.txnB_len,Rc.flat_len Rc.dirtyB 9 Rc.dirtyB_len];omega
   have HCK:=Hq (fun W (hb:Below w.heap.size w W)=>by have h:=rcheck_any ⟨lsn,prev,txn,9,page,next,nu,⟨ok,os,oo,on⟩,how,root,⟨ek,ep,es⟩,ts,ds⟩ A B c d h6.1 h6.2.1 W (HRR.out.below hb);rw[← hB5]at h;exact h)
   dsimp only[recV,recA]at HCK
   have ha5:∀ W:World,(Op.stringOp .add S4 B5).run Tryz.prog W= .ok (.string R) W:=fun W=>by
    have h1:=add_mk ((((Rc.p 9 1)++(Rc.p lsn 6))++(Rc.p prev 6))++(Rc.p txn 6)) (Rc.listsB ⟨lsn,prev,txn,9,page,next,nu,⟨ok,os,oo,on⟩,how,root,⟨ek,ep,es⟩,ts,ds⟩) (by omega) W
    rw[← hS4,← hB5]at h1
    have h2:Rc.mk (((((Rc.p 9 1)++(Rc.p lsn 6))++(Rc.p prev 6))++(Rc.p txn 6))++Rc.listsB ⟨lsn,prev,txn,9,page,next,nu,⟨ok,os,oo,on⟩,how,root,⟨ek,ep,es⟩,ts,ds⟩)=R:=by rw[HR.out];(congr 1)<;>(unfold Rc.bodyB;rw[Rc.restB_9 rfl];unfold Rc.headB;simp only[List.append_assoc])
    rw[h2]at h1
    exact h1
   clear hB5 hl5 hS4 hl0 h6
   go_wp2_with (first|(with_reducible refine lL HX1.out Tryz.underlying47 ?_)|(go_at_call 161;(with_reducible refine(HCK.out _ HB1.out).mono ?_);rintro e w9 ⟨rfl,hb9⟩))
   go_ret
   exact⟨rfl,joinB HB1.out hb9⟩
end Go.Proofs.YtdfkambdagoojaaGreatDoor
