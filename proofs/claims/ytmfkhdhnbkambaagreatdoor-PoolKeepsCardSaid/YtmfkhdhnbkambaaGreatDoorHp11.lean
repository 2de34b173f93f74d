import Derived.Test.YtmfkhdhnbkambaaGreatDoorHp00
import Derived.Test.YtmfkhdhnbkambaaGreatDoorHp10
import Derived.Test.YtmfkhdhnbkambaaGreatDoorHp08
import Derived.Deep.MidRow
import Derived.Test.YtmfkhdhnbkambaaGreatDoorHp04
import Derived.Lib.Small
set_option maxRecDepth 100000
set_option maxHeartbeats 16000000
set_option linter.unusedSimpArgs false
namespace Tx
end Tx
namespace Go.Proofs.YtmfkhdhnbkambaaGreatDoor
open Go.RowKit
theorem listPart {P:Program}{ops:Array Oper}{rest:List Oper}{op:Oper}{a:Act}{w:World}{Q:Exit→Act→World→Prop}(hw:Region.wanted op (yielded ops a.tmps)=true)(ty:TypeId)(x:Operand)(ho:op.op= .load ty x)
 (b o:Nat) (hx:a.eval x= .pointer (some ⟨b,o,none⟩)) (part cells:Array Value) (t:TypeId) (hg:w.heap[b]? =some (.cells cells t (0,0))) (hp:(cells.toList.drop o).take part.size=part.toList) (d:TypeDesc)
 (hu:P.underlying ty=some d) (hd:d.isRow=true) (hi:(P.info? ty).map (·.size)=some part.size)
 (h:wpList P ops Q rest (a.put op.dst (.agg part)) w):wpList P ops Q (op::rest) a w:=
 listWants hw fun K hK=>by
  refine wp_load_mid ty x ho b o hx part.toList d (fun j v hj=>?_) hu hd (by simpa using hi) ?_
  ·rw[blkCell hg]
   have h1:j<part.size:=by have:=(List.getElem?_eq_some_iff.1 hj).1;simpa using this
   rw[← hp,List.getElem?_take,if_pos h1,List.getElem?_drop,Array.getElem?_toList]at hj
   exact hj
  ·simpa using hK _ _ h
theorem lP {P:Program}{ops:Array Oper}{rest:List Oper}{op:Oper}{a:Act}{w:World}{Q:Exit→Act→World→Prop}{ty:TypeId}{x:Operand}{b o:Nat}(part:Array Value){cells:Array Value}{t:TypeId}{d:TypeDesc}(hg:w.heap[b]? =some (.cells cells t (0,0)))(hu:P.underlying ty=some d)(h:wpList P ops Q rest (a.put op.dst (.agg part)) w)(ho:op.op= .load ty x:=by exact rfl)(hx:a.eval x= .pointer (some ⟨b,o,none⟩):=by with_unfolding_all exact rfl)(hw:Region.wanted op (yielded ops a.tmps)=true:=by kernel_rfl)(hp:(cells.toList.drop o).take part.size=part.toList:=by kernel_rfl)(hd:d.isRow=true:=by kernel_rfl)(hi:(P.info? ty).map (·.size)=some part.size:=by kernel_rfl):wpList P ops Q (op::rest) a w:=listPart hw ty x ho b o hx part cells t hg hp d hu hd hi h
theorem listPut {P:Program}{ops:Array Oper}{rest:List Oper}{op:Oper}{a:Act}{w:World}{Q:Exit→Act→World→Prop}(hw:Region.wanted op (yielded ops a.tmps)=true)(ty:TypeId)(x y:Operand)(ho:op.op= .store ty x y)
 (b o:Nat) (part cur res:Array Value) (t:TypeId) (hx:a.eval x= .pointer (some ⟨b,o,none⟩)) (hy:a.eval y= .agg part) (hg:w.heap[b]? =some (.cells cur t (0,0))) (hr:res=(cur.toList.take o++part.toList++cur.toList.drop (o+part.toList.length)).toArray)
 (hsz:decide (o+part.toList.length≤cur.size)=true) (hi:(P.info? ty).map (·.size)=some part.size) (h1:part.all (·.oneCell')=true) (h:wpList P ops Q rest (a.put op.dst undef) (w.setRow b res)):wpList P ops Q (op::rest) a w:=
 listWants hw fun K hK=>by
  have hst:=run_storeCells_at P b o t part.toList 0 cur w hg (by rw[Nat.add_zero];exact of_decide_eq_true hsz) (fun v hv=>(Array.all_eq_true_iff_forall_mem.1 h1) v (by simpa using hv))
  rw[Nat.add_zero,← hr]at hst
  have hrun:(storeVar ty ⟨b,o,none⟩ (.agg part)).run P w= .ok () (w.setRow b res):=by
   cases hq:P.info? ty with
   |none=>simp[hq]at hi
   |some i=>
    have hs:part.size=i.size:=by simp[hq]at hi;omega
    simp[storeVar,sizeOf,typeInfo,hq,Value.cells,hs,hst]
  unfold Oper.wp execOp
  simp only[ho,hx,hy,Instr.storeAt,Instr.sureAddr,Sem.run_bind,Sem.run_pure,Result.andThen_ok,hrun]
  exact hK _ _ h
theorem lU {P:Program}{ops:Array Oper}{rest:List Oper}{op:Oper}{a:Act}{w:World}{Q:Exit→Act→World→Prop}{ty:TypeId}{x y:Operand}{b o:Nat}(part:Array Value){cur:Array Value}(res:Array Value){t:TypeId}(hg:w.heap[b]? =some (.cells cur t (0,0)))(h:wpList P ops Q rest (a.put op.dst undef) (w.setRow b res))(ho:op.op= .store ty x y:=by exact rfl)(hx:a.eval x= .pointer (some ⟨b,o,none⟩):=by with_unfolding_all exact rfl)(hy:a.eval y= .agg part:=by with_unfolding_all exact rfl)(hw:Region.wanted op (yielded ops a.tmps)=true:=by kernel_rfl)(hr:res=(cur.toList.take o++part.toList++cur.toList.drop (o+part.toList.length)).toArray:=by kernel_rfl)(hs:decide (o+part.toList.length≤cur.size)=true:=by kernel_rfl)(hi:(P.info? ty).map (·.size)=some part.size:=by kernel_rfl)(h1:part.all (·.oneCell')=true:=by kernel_rfl):wpList P ops Q (op::rest) a w:=listPut hw ty x y ho b o part cur res t hx hy hg hr hs hi h1 h
structure SP where
 A:Option Addr
 c:Nat
 F:Option Addr
 fn:Nat
 fc:Nat
 T:Option Addr
 tc:Nat
abbrev storeV (s:Tx.St)(p:SP):Value:=.agg #[s.zlog,s.zpages,s.zframes,.slice p.A s.disk.sectors.length p.c,s.disk.left,s.disk.down,s.log.from_,s.log.n,s.log.end_,s.log.safe,s.log.tail,.slice p.F p.fn p.fc,s.hand,.slice p.T s.txns.length p.tc,s.next]
structure StoreR (w:World) (s:Tx.St) (p:SP):Prop where
 dk:DiskR w s.disk p.A p.c
 dt:NewT 0 w 9 p.A
 tx:TxR w p.T p.tc s.txns
 tt:NewT 0 w 59 p.T
theorem StoreR.below {w w':World}{s:Tx.St}{p:SP}(h:StoreR w s p)(hb:Below w.heap.size w w'):StoreR w' s p:=⟨h.dk.below hb,h.dt.below hb,h.tx.below hb,h.tt.below hb⟩
theorem StoreR.other {w:World}{s:Tx.St}{p:SP}(h:StoreR w s p){b:Nat}{cur:Array Value}{t:TypeId}{fr:Nat×Nat}(hb:w.heap[b]? =some (.cells cur t fr))(h1:t≠9)(h2:t≠59)(cs:Array Value):StoreR (w.setRow b cs) s p:=
 ⟨⟨h.dt.readsRow h.dk.secs hb h1 cs,h.dk.small⟩,h.dt.row b cs,h.tt.readsRow h.tx hb h2 cs,h.tt.row b cs⟩
theorem StoreR.set {w:World}{s:Tx.St}{p:SP}(h:StoreR w s p){b:Nat}{cur:Array Value}{t:TypeId}{fr:Nat×Nat}(hb:w.heap[b]? =some (.cells cur t fr))(h1:t≠9)(h2:t≠59)(j:Nat)(v:Value):StoreR (w.setCell ⟨b,j,none⟩ v) s p:=by
 rw[setCell_eq_setRow w b j cur t fr v hb]
 exact h.other hb h1 h2 _
theorem recR_nil (r:Rc.Rec)(w:World)(h1:r.txns=[])(h2:r.dirty=[]):RecR w r none 0 none 0:=by
 refine⟨?_,?_,by rw[h1,h2];exact⟨Nat.zero_le _,Nat.zero_le _⟩⟩
 ·rw[h1];exact Reads.none_ _ _ _ _
 ·rw[h2];exact Reads.none_ _ _ _ _
end Go.Proofs.YtmfkhdhnbkambaaGreatDoor
namespace Lg
open Rc
structure Al (l:Lo):Prop where
 s0:0≤l.safe
 se:l.safe≤l.end_
 tl:l.end_-(l.tail.size:Int)=l.safe-l.safe%128
end Lg
namespace Tx
open Rc Lg
theorem al_append {l:Lo}(r:Rec)(h:Al l):Al (appendD l r).1:=by
 have h1:=h.s0
 have h2:=h.se
 have h3:=h.tl
 by_cases hR:Right {r with lsn:=l.end_+1}
 ·by_cases hF:l.n*128-((putR {r with lsn:=l.end_+1}).length:Int)<l.end_
  ·unfold appendD
   simp only
   rw[if_neg (fun hn=>hn hR),if_pos hF]
   exact h
  ·have e:(appendD l r).1={l with end_:=l.end_+((putR {r with lsn:=l.end_+1}).length:Int),tail:=l.tail++⟨(putR {r with lsn:=l.end_+1}).toArray⟩}:=by
    unfold appendD
    simp only
    rw[if_neg (fun hn=>hn hR),if_neg hF]
   rw[e]
   have hz:(⟨(putR {r with lsn:=l.end_+1}).toArray⟩:ByteArray).size=(putR {r with lsn:=l.end_+1}).length:=by show(putR {r with lsn:=l.end_+1}).toArray.size=_;simp
   refine⟨h1,?_,?_⟩
   ·show l.safe≤l.end_+((putR {r with lsn:=l.end_+1}).length:Int);omega
   ·show l.end_+((putR {r with lsn:=l.end_+1}).length:Int)-((l.tail++⟨(putR {r with lsn:=l.end_+1}).toArray⟩).size:Int)=l.safe-l.safe%128
    rw[ByteArray.size_append,hz]
    omega
 ·unfold appendD
  simp only
  rw[if_pos hR]
  exact h
end Tx
namespace Go.Proofs.YtmfkhdhnbkambaaGreatDoor
open Go.RowKit
abbrev stA (s:Tx.St)(p:SP):Array Value:=#[s.zlog,s.zpages,s.zframes,.slice p.A s.disk.sectors.length p.c,s.disk.left,s.disk.down,s.log.from_,s.log.n,s.log.end_,s.log.safe,s.log.tail,.slice p.F p.fn p.fc,s.hand,.slice p.T s.txns.length p.tc,s.next]
structure Fr where
 page:Int
 bytes:ByteArray
 pins:Int
 mark:Bool
 rc:Int
def frL (f:Fr):List Value:=[.int .i64 f.page,.string f.bytes,.int .i64 f.pins,.bool f.mark,.int .i64 f.rc]
abbrev frA (f:Fr):Array Value:=#[f.page,f.bytes,f.pins,f.mark,f.rc]
theorem frL_len (f:Fr):(frL f).length=5:=rfl
theorem frL_one (f:Fr):∀ u∈frL f,u.oneCell'=true:=by
 intro u hu
 simp only[frL,List.mem_cons,List.not_mem_nil,or_false]at hu
 rcases hu with rfl|rfl|rfl|rfl|rfl<;>rfl
theorem frL_all (l:List Fr):∀ u∈l.flatMap frL,u.oneCell'=true:=by
 intro u hu
 obtain⟨v,_,h⟩:=List.mem_flatMap.1 hu
 exact frL_one v u h
theorem info_fr:(Tryz.prog.info? 108).map (fun i=>(i.zero,i.size,i.bytes))=some (some (.agg #[(),"",(),false,()]),5,48):=by kernel_rfl
theorem str_nil:(⟨#[]⟩:ByteArray).toList=[]:=by rw[ByteArray.toList_eq]
theorem str_ne {b:ByteArray}(h:b≠⟨#[]⟩):¬ b.toList=[]∧(b.toList==[])=false∧(b.toList==(⟨#[]⟩:ByteArray).toList)=false:=by
 have h1:¬ b.toList=[]:=fun h2=>h (by
  rw[ByteArray.toList_eq]at h2
  obtain⟨⟨l⟩⟩:=b
  simp only at h2
  rw[h2])
 have h3:(b.toList==[])=false:=by simpa using h1
 exact⟨h1,h3,by rw[str_nil];exact h3⟩
structure PoolR (w:World) (s:Tx.St) (p:SP) (fs:List Fr):Prop where
 st:StoreR w s p
 fn:p.fn=fs.length
 fr:Reads w p.F p.fc fs.length (fs.flatMap frL)
 ft:NewT 0 w 108 p.F
theorem PoolR.below {w w':World}{s:Tx.St}{p:SP}{fs:List Fr}(h:PoolR w s p fs)(hb:Below w.heap.size w w'):PoolR w' s p fs:=⟨h.st.below hb,h.fn,h.fr.below hb,h.ft.below hb⟩
theorem PoolR.other {w:World}{s:Tx.St}{p:SP}{fs:List Fr}(h:PoolR w s p fs){b:Nat}{cur:Array Value}{t:TypeId}{fr:Nat×Nat}(hb:w.heap[b]? =some (.cells cur t fr))(h1:t≠9)(h2:t≠59)(h3:t≠108)(cs:Array Value):PoolR (w.setRow b cs) s p fs:=
 ⟨h.st.other hb h1 h2 cs,h.fn,h.ft.readsRow h.fr hb h3 cs,h.ft.row b cs⟩
theorem rowB {B g:Nat}{w u:World}(hg:B≤g)(hb:Below B w u)(cs:Array Value):Below B w (u.setRow g cs):=
 ⟨hb.os,hb.tape,hb.output,by show _≤(u.heap.modify _ _).size;have:=hb.size;simpa using this,fun k hk=>by show(u.heap.modify _ _)[k]? =_;rw[Array.getElem?_modify,if_neg (by omega)];exact hb.block k hk⟩
section
variable {α : Type} {enc : α → List Value} {k : Nat} {e : TypeId} {B g c : Nat} {w : World} {l : List α}
theorem flat_put (hk:∀ x,(enc x).length=k)(l:List α)(i:Nat)(hi:i<l.length)(x:α)(t:Nat):((l.set i x).flatMap enc)[t]? =if i*k≤t∧t<i*k+k then(enc x)[t-i*k]? else(l.flatMap enc)[t]? :=by
 have hle:i*k+k≤l.length*k:=by have:=Nat.mul_le_mul_right k (show i+1≤l.length from hi);rwa[Nat.add_mul,Nat.one_mul]at this
 by_cases hin:i*k≤t∧t<i*k+k
 ·rw[if_pos hin]
  obtain⟨j,rfl⟩:∃ j,t=i*k+j:=⟨t-i*k,by omega⟩
  rw[flat_at hk (l.set i x) i j (by rw[List.length_set];exact hi) (by omega),List.getElem_set_self,Nat.add_sub_cancel_left]
 ·rw[if_neg hin]
  by_cases ht:t<l.length*k
  ·have hk0:0<k:=by rcases Nat.eq_zero_or_pos k with h|h;(· subst h;omega);(· exact h)
   have hd:t/k<l.length:=by rw[Nat.div_lt_iff_lt_mul hk0];exact ht
   have hm:t%k<k:=Nat.mod_lt _ hk0
   have e1:t=t/k*k+t%k:=by rw[Nat.mul_comm];exact(Nat.div_add_mod t k).symm
   have hne:i≠t/k:=fun h=>hin (by rw[h];omega)
   rw[e1,flat_at hk (l.set i x) (t/k) (t%k) (by rw[List.length_set];exact hd) hm,flat_at hk l (t/k) (t%k) hd hm,List.getElem_set_ne hne]
  ·rw[List.getElem?_eq_none (by rw[flat_len hk,List.length_set];omega),List.getElem?_eq_none (by rw[flat_len hk];omega)]
theorem own_blk (ho:OwnL enc k e B w (.slice (some ⟨g,0,none⟩) l.length c) l):∃ cur:Array Value,B≤g∧g<w.heap.size∧w.heap[g]? =some (.cells cur e (0,0))∧l.length≤c∧c≤maxLen∧cur.size=c*k∧∀ t,t<l.length*k→cur[t]? =(l.flatMap enc)[t]? :=by
 obtain⟨hxl,h2⟩:=ho
 rcases h2 with⟨h0,_⟩|⟨g',cap,cur,hv,hgB,hh,hnc,hcap,hsz,htake⟩
 ·cases h0
 injection hv with hv1 hv2 hv3
 injection hv1 with hv1
 injection hv1 with hv1 _ _
 subst hv1 hv3
 refine⟨cur,hgB,heapLt hh,hh,hnc,hcap,hsz,fun t ht=>?_⟩
 rw[← htake,List.getElem?_take,if_pos ht,Array.getElem?_toList]
theorem own_mk {cur:Array Value}(hk:∀ x,(enc x).length=k)(hB:B≤g)(hg:w.heap[g]? =some (.cells cur e (0,0)))(hn:l.length≤c)(hc:c≤maxLen)(hs:cur.size=c*k)(h:∀ t,t<l.length*k→cur[t]? =(l.flatMap enc)[t]?):OwnL enc k e B w (.slice (some ⟨g,0,none⟩) l.length c) l:=by
 refine⟨flat_len hk l,.inr ⟨g,c,cur,rfl,hB,hg,hn,hc,hs,?_⟩⟩
 refine List.ext_getElem? fun t=>?_
 rw[List.getElem?_take]
 by_cases ht:t<l.length*k
 ·rw[if_pos ht,Array.getElem?_toList,h t ht]
 ·rw[if_neg ht,List.getElem?_eq_none (by rw[flat_len hk];omega)]
theorem own_put (hk:∀ x,(enc x).length=k)(ho:OwnL enc k e B w (.slice (some ⟨g,0,none⟩) l.length c) l)(i:Nat)(hi:i<l.length)(x:α):
 w.there g (i*k) k∧OwnL enc k e B (w.setCells g (i*k) (enc x)) (.slice (some ⟨g,0,none⟩) (l.set i x).length c) (l.set i x)∧Below B w (w.setCells g (i*k) (enc x)):=by
 obtain⟨cur,hB,hg,hh,hn,hc,hs,ht⟩:=own_blk ho
 have hle:i*k+k≤l.length*k:=by have:=Nat.mul_le_mul_right k (show i+1≤l.length from hi);rwa[Nat.add_mul,Nat.one_mul]at this
 have hlc:l.length*k≤c*k:=Nat.mul_le_mul_right _ hn
 obtain⟨cur',k1,k2,k3⟩:=setCells_blk (enc x) (i*k) cur w hh
 refine⟨fun j hj=>⟨by rw[blkCell hh,Array.getElem?_eq_getElem (by omega)];rfl,blkFrozen hh _⟩,own_mk hk hB k1 (by rw[List.length_set];exact hn) hc (by rw[k2];exact hs) (fun t h=>?_),setCells_below hB _ _ _⟩
 rw[List.length_set]at h
 rw[k3,flat_put hk l i hi x t,hk]
 by_cases hin:i*k≤t∧t<i*k+k
 ·rw[if_pos ⟨hin.1,hin.2,by omega⟩,if_pos hin]
 ·rw[if_neg (fun h=>hin ⟨h.1,h.2.1⟩),if_neg hin,ht t h]
end
structure Nrm (p:ByteArray):Prop where
 is:isPg p=true
 pl:plB p=p
theorem Nrm.eq {p:ByteArray}(h:Nrm p):pageB (leafP p)=p:=(plB_eq h.is).symm.trans h.pl
theorem Nrm.size {p:ByteArray}(h:Nrm p):p.size=512:=isPg_size h.is
theorem nrm_page {x:Pg.Leaf}(hx:Pg.Small x)(hs:Pg.sizeN x.recs≤512)(he:∀ r∈x.recs,r.size≤400)(ht:Pg.trim x.recs=x.recs):Nrm (pageB x)∧leafP (pageB x)=x:=by
 obtain⟨h1,h2⟩:=pageB_is hx (by rw[ht];exact hs) he
 have h3:leafP (pageB x)=x:=by rw[h2,ht]
 exact⟨⟨h1,by rw[plB_eq h1,h3]⟩,h3⟩
theorem nrm_lsn {p:ByteArray}(h:isPg p=true){l:Nat}(hl:l<281474976710656):Nrm (lsnB p (l:Int))∧leafP (lsnB p (l:Int))=⟨l,(leafP p).kind,(leafP p).link,(leafP p).recs⟩:=by
 obtain⟨h1,h2,_⟩:=lsn_page h hl
 refine⟨⟨h1,?_⟩,h2⟩
 unfold plB
 rw[h2]
 exact lsn_lsn h hl hl
theorem nrm_pl {p:ByteArray}(h:isPg p=true):Nrm (plB p)∧leafP (plB p)=leafP p:=nrm_lsn h (lsn_small p)
theorem seal_pl {p:ByteArray}(h:Nrm p):plB (sealB p)=p:=by
 obtain⟨h1,h2,_⟩:=sealB_is h.is
 rw[plB_eq h1,h2,h.eq]
def zeroP:ByteArray:=⟨(List.replicate 512 0).toArray⟩
theorem zero_none:isPg zeroP=false:=by
 have h:Pg.right zeroP.data.toList=none:=by
  have e:zeroP.data.toList=List.replicate 512 0:=rfl
  rw[e]
  decide+kernel
 unfold isPg
 rw[h];rfl
theorem seal_zero {p:ByteArray}(h:isPg p=true):sealB p≠zeroP:=fun e=>by
 have h1:=(sealB_is h).1
 rw[e,zero_none]at h1
 cases h1
theorem new_nrm (k:Nat)(hk:k≤4):Nrm (newB k)∧leafP (newB k)=⟨0,k,0,[]⟩:=by
 have e:newB (k:Int)=pageB ⟨0,k,0,[]⟩:=by unfold newB;rw[if_neg (by omega)];rfl
 rw[e]
 exact nrm_page ⟨by show 0<281474976710656;omega,hk,by show 0<16777216;omega⟩ (by show 19≤512;omega) (fun r h=>by cases h) (Pg.trim_of_tight fun r h=>by cases h)
end Go.Proofs.YtmfkhdhnbkambaaGreatDoor
namespace Ck
open Lg
open Rc
theorem logS_set {N:Nat}{l:List ByteArray}{i:Nat}(hi:i=0∨1+N≤i)(b:ByteArray)(lf:Int)(dn:Bool)(d:Dk)(hd:d.sectors=l):logS 1 N ⟨l.set i b,lf,dn⟩=logS 1 N d:=by
 unfold logS
 simp only
 rw[hd]
 congr 1
 apply List.ext_getElem?
 intro j
 rw[List.getElem?_take,List.getElem?_take]
 split
 ·rw[List.getElem?_drop,List.getElem?_drop,List.getElem?_set_ne (by omega)]
 ·rfl
theorem whole_set {l:List ByteArray}(h:Whole l)(i:Nat){b:ByteArray}(hb:b.size=128):Whole (l.set i b):=fun x hx=>by
 rcases List.mem_or_eq_of_mem_set hx with h1|h1
 ·exact h x h1
 ·rw[h1];exact hb
theorem writeD_cases (d:Dk)(a:Int)(b:ByteArray):writeD d a b=(d,20)∧d.down=true∨d.down=false∧(writeD d a b=(d,1)∨(hasD d a∧b.size=128∧((d.left=0∧writeD d a b=({d with down:=true},20))∨(d.left≠0∧writeD d a b=(⟨d.sectors.set a.toNat b,if 0<d.left then d.left-1 else d.left,false⟩,0))))):=by
 unfold writeD
 cases hd:d.down with
 |true=>exact .inl ⟨by simp,rfl⟩
 |false=>
  refine .inr ⟨rfl,?_⟩
  by_cases h1:hasD d a∧b.size=128
  ·refine .inr ⟨h1.1,h1.2,?_⟩
   by_cases h2:d.left=0
   ·exact .inl ⟨h2,by simp[h1,h2]⟩
   ·exact .inr ⟨h2,by simp[h1,h2]⟩
  ·exact .inl (by simp[h1])
theorem LInv.out {N:Nat}{d d':Dk}{g:Lo}{r1 r2:List Rec}(h:LInv 1 N d g r1 r2)(hw:Whole d'.sectors)(hl:d'.sectors.length=d.sectors.length)(he:logS 1 N d'=logS 1 N d):LInv 1 N d' g r1 r2:=
 ⟨hw,by rw[hl];exact h.room,h.hf,h.hn,h.row,by rw[he];exact h.pre,h.safe,h.end_,h.tail,h.fit⟩
structure Br (N:Nat) (d:Dk) (g:Lo):Prop where
 whole:Whole d.sectors
 len:d.sectors.length=N+17
 up:d.down=false
 left:d.left= -1
 inv:∃ r1 r2,LInv 1 N d g r1 r2
theorem Br.force {N:Nat}{d:Dk}{g:Lo}{r1 r2:List Rec}(h:LInv 1 N d g r1 r2)(hd:d.down=false)(hl:d.left= -1):
 (forceD d g).2.2=0∧LInv 1 N (forceD d g).1 (forceD d g).2.1 (r1++r2) []∧(forceD d g).1.down=false∧(forceD d g).1.left= -1∧(forceD d g).1.sectors.length=d.sectors.length:=by
 rcases h.force hd (by omega)with⟨a1,a2,a3,_,a5,a6,_,_⟩|⟨_,_,_,a4,_⟩
 ·exact⟨a1,a2,a3,a5 hl,a6⟩
 ·exact absurd hl a4
theorem putAll_far (base:Int)(all:List ByteArray)(j:Nat):∀ (i:Nat) (d:Dk),0≤base→base+(i:Int)≤(j:Int)→(putAll base all i d).1.sectors[j]? =d.sectors[j]? :=by
 intro i
 induction i with
 |zero=>intro d _ _;rfl
 |succ i ih=>
  intro d hb hj
  have hw:∀ b,(writeD d (base+(i:Int)) b).1.sectors[j]? =d.sectors[j]? :=fun b=>by
   rcases writeD_cases d (base+(i:Int)) b with⟨e,_⟩|⟨_,e|⟨_,_,⟨_,e⟩|⟨_,e⟩⟩⟩<;>rw[e]
   show(d.sectors.set (base+(i:Int)).toNat b)[j]? =_
   rw[List.getElem?_set_ne (by omega)]
  unfold putAll
  split
  ·rw[ih _ hb (by omega)];exact hw _
  ·exact hw _
theorem force_far {N:Nat}{d:Dk}{g:Lo}{r1 r2:List Rec}(h:LInv 1 N d g r1 r2)(j:Nat)(hj:1+N≤j):(forceD d g).1.sectors[j]? =d.sectors[j]? :=by
 by_cases h2:r2=[]
 ·have e:forceD d g=(d,g,0):=by unfold forceD;rw[if_pos (by rw[h.safe,h.end_,h2,List.append_nil])]
  rw[e]
 ·obtain⟨n,hs,_⟩:=h.sects h2
  have hf:=hs.fits
  have hb:=h.firstS
  have hff:=h.hf
  unfold forceD
  split
  ·rfl
  ·simp only
   split<;>exact putAll_far _ _ _ _ _ (by omega) (by omega)
end Ck
namespace Sc
open Rc Lg Ck
structure Pw (N M:Nat) (d:Dk) (g:Lo):Prop where
 whole:Whole d.sectors
 len:d.sectors.length=M
 room:1+N≤M
 up:d.down=false
 left:d.left= -1
 inv:∃ r1 r2,LInv 1 N d g r1 r2
theorem pw_new (N M:Nat)(h:1+N≤M):Pw N M (newD M) ⟨1,N,0,0,⟨#[]⟩⟩:=by
 have hl:(newD M).sectors.length=M:=by show(List.replicate M zero128).length=_;rw[List.length_replicate]
 have hw:Whole (newD M).sectors:=newD_wholeN _
 exact⟨hw,hl,h,rfl,rfl,[],[],LInv.new (F:=1) hw (by omega)⟩
theorem Pw.put {N M:Nat}{d:Dk}{g:Lo}(h:Pw N M d g)(r:Rec)(hR:Right {r with lsn:=g.end_+1})(hf:g.end_+((putR {r with lsn:=g.end_+1}).length:Int)≤(N:Int)*128):
 ∃ g2,appendD g r=(g2,g.end_+1,0)∧Pw N M d g2∧g2.end_=g.end_+((putR {r with lsn:=g.end_+1}).length:Int):=by
 obtain⟨h1,h2,h3,h4,h5,r1,r2,h6⟩:=h
 have hn:=h6.hn
 have ha:=h6.append r
 have e:appendD g r=((appendD g r).1,g.end_+1,0)∧(appendD g r).1.end_=g.end_+((putR {r with lsn:=g.end_+1}).length:Int):=by
  unfold appendD
  simp only
  rw[if_neg (fun hx=>hx hR),if_neg (by omega)]
  exact⟨rfl,rfl⟩
 rcases ha with e1|e1|⟨_,hg⟩
 ·have h9:=e.1;rw[e1]at h9;have:=congrArg (fun x=>x.2.2) h9;simp at this
 ·have h9:=e.1;rw[e1]at h9;have:=congrArg (fun x=>x.2.2) h9;simp at this
 ·exact⟨_,e.1,⟨h1,h2,h3,h4,h5,_,_,hg⟩,e.2⟩
theorem Pw.force {N M:Nat}{d:Dk}{g:Lo}(h:Pw N M d g):∃ d2 g2,forceD d g=(d2,g2,0)∧Pw N M d2 g2∧g2.end_=g.end_∧∀ j,1+N≤j→d2.sectors[j]? =d.sectors[j]? :=by
 obtain⟨h1,h2,h3,h4,h5,r1,r2,h6⟩:=h
 obtain⟨a1,a2,a3,a4,a5⟩:=Br.force h6 h4 h5
 have hfar:=force_far h6
 refine⟨_,_,by rw[← a1],⟨a2.whole,a5.trans h2,h3,a3,a4,_,_,a2⟩,?_,hfar⟩
 rw[a2.end_,h6.end_,List.append_nil]
theorem Pw.write {N M:Nat}{d:Dk}{g:Lo}(h:Pw N M d g){i:Nat}{b:ByteArray}(hb:b.size=128)(hi:1+N≤i)(hi2:i<M):
 writeD d (i:Int) b=({d with sectors:=d.sectors.set i b},0)∧Pw N M {d with sectors:=d.sectors.set i b} g:=by
 obtain⟨h1,h2,h3,h4,h5,r1,r2,h6⟩:=h
 have hh:hasD d (i:Int):=⟨by omega,by rw[h2];omega⟩
 refine⟨?_,?_⟩
 ·unfold writeD
  rw[if_neg (by rw[h4];decide),if_neg (fun hn=>hn ⟨hh,hb⟩),if_neg (by rw[h5];decide)]
  rw[show(if 0<d.left then d.left-1 else d.left)=d.left from by rw[h5];rfl]
  rfl
 ·have hS:logS 1 N ⟨d.sectors.set i b,d.left,d.down⟩=logS 1 N d:=logS_set (.inr hi) b _ _ d rfl
  have hW:=whole_set h1 i hb
  exact⟨hW,by show(d.sectors.set i b).length=M;rw[List.length_set];exact h2,h3,h4,h5,r1,r2,LInv.out h6 hW (by show(d.sectors.set _ _).length=_;rw[List.length_set]) hS⟩
def pgAt (d:Dk)(a:Nat):ByteArray:=⟨(flat ((d.sectors.drop a).take 4)).toArray⟩
theorem pgAt_same {d d':Dk}{a:Nat}(h:∀ j,a≤j→j<a+4→d'.sectors[j]? =d.sectors[j]?):pgAt d' a=pgAt d a:=by
 have e:(d'.sectors.drop a).take 4=(d.sectors.drop a).take 4:=by
  apply List.ext_getElem?
  intro j
  rw[List.getElem?_take,List.getElem?_take]
  split
  ·rw[List.getElem?_drop,List.getElem?_drop];exact h _ (by omega) (by omega)
  ·rfl
 unfold pgAt
 rw[e]
theorem part_list (b:ByteArray)(i n:Nat):(b.extract i (i+n)).data.toList=(b.data.toList.drop i).take n:=by
 rw[ByteArray.data_extract,Array.toList_extract,List.extract_eq_take_drop]
 congr 1
 omega
def sec4 (b:ByteArray)(i:Nat):ByteArray:=b.extract (i*128) (i*128+128)
theorem sec4_size {b:ByteArray}(hb:b.size=512){i:Nat}(hi:i<4):(sec4 b i).size=128:=by
 unfold sec4;rw[ByteArray.size_extract];omega
def putP (d:Dk)(a:Nat)(b:ByteArray):Dk:={d with sectors:=(((d.sectors.set a (sec4 b 0)).set (a+1) (sec4 b 1)).set (a+2) (sec4 b 2)).set (a+3) (sec4 b 3)}
theorem putP_get (d:Dk)(a:Nat)(b:ByteArray)(j:Nat)(h:j<a∨a+4≤j):(putP d a b).sectors[j]? =d.sectors[j]? :=by
 unfold putP
 rw[List.getElem?_set_ne (by omega),List.getElem?_set_ne (by omega),List.getElem?_set_ne (by omega),List.getElem?_set_ne (by omega)]
theorem putP_off (d:Dk)(a c:Nat)(b:ByteArray)(h:c+4≤a∨a+4≤c):pgAt (putP d a b) c=pgAt d c:=pgAt_same fun j h1 h2=>putP_get d a b j (by omega)
theorem putP_at {d:Dk}{a:Nat}{b:ByteArray}(hb:b.size=512)(ha:a+4≤d.sectors.length):pgAt (putP d a b) a=b:=by
 have e:((putP d a b).sectors.drop a).take 4=[sec4 b 0,sec4 b 1,sec4 b 2,sec4 b 3]:=by
  apply List.ext_getElem?
  intro j
  rw[List.getElem?_take]
  split
  ·rename_i hj
   rw[List.getElem?_drop]
   unfold putP
   have:j=0∨j=1∨j=2∨j=3:=by omega
   rcases this with rfl|rfl|rfl|rfl
   ·rw[List.getElem?_set_ne (by omega),List.getElem?_set_ne (by omega),List.getElem?_set_ne (by omega),Nat.add_zero,List.getElem?_set_self (by omega)];rfl
   ·rw[List.getElem?_set_ne (by omega),List.getElem?_set_ne (by omega),List.getElem?_set_self (by rw[List.length_set];omega)];rfl
   ·rw[List.getElem?_set_ne (by omega),List.getElem?_set_self (by rw[List.length_set,List.length_set];omega)];rfl
   ·rw[List.getElem?_set_self (by rw[List.length_set,List.length_set,List.length_set];omega)];rfl
  ·rw[List.getElem?_eq_none (by simp;omega)]
 unfold pgAt
 rw[e]
 have hl:b.data.toList.length=512:=by simpa using hb
 apply ByteArray.ext
 apply Array.toList_inj.1
 show flat [sec4 b 0,sec4 b 1,sec4 b 2,sec4 b 3]=b.data.toList
 unfold flat sec4
 simp only[List.flatMap_cons,List.flatMap_nil,List.append_nil,part_list]
 generalize b.data.toList=l at hl
 have h1:l=l.take 128++l.drop 128:=(List.take_append_drop 128 l).symm
 have h2:l.drop 128=(l.drop 128).take 128++l.drop 256:=by
  have:=(List.take_append_drop 128 (l.drop 128)).symm
  rwa[List.drop_drop]at this
 have h3:l.drop 256=(l.drop 256).take 128++l.drop 384:=by
  have:=(List.take_append_drop 128 (l.drop 256)).symm
  rwa[List.drop_drop]at this
 have h4:l.drop 384=(l.drop 384).take 128:=(List.take_of_length_le (by rw[List.length_drop];omega)).symm
 show l.take 128++((l.drop 128).take 128++((l.drop 256).take 128++(l.drop 384).take 128))=l
 rw[← h4,← h3,← h2,← h1]
theorem Pw.page {N M:Nat}{d:Dk}{g:Lo}(h:Pw N M d g){a:Nat}{b:ByteArray}(hb:b.size=512)(ha:1+N≤a)(ha2:a+4≤M):Pw N M (putP d a b) g:=by
 have h0:=(h.write (sec4_size hb (i:=0) (by omega)) ha (by omega)).2
 have h1:=(h0.write (sec4_size hb (i:=1) (by omega)) (i:=a+1) (by omega) (by omega)).2
 have h2:=(h1.write (sec4_size hb (i:=2) (by omega)) (i:=a+2) (by omega) (by omega)).2
 exact(h2.write (sec4_size hb (i:=3) (by omega)) (i:=a+3) (by omega) (by omega)).2
end Sc
namespace Go.Proofs.YtmfkhdhnbkambaaGreatDoor
open Go.RowKit Sc
theorem numZ:Rc.num 0:=⟨by decide,by decide⟩
abbrev Full (f:Fr):Prop:=f.bytes≠⟨#[]⟩
structure FrO (n:Nat) (fs:List Fr) (C:Nat→ByteArray):Prop where
 at_:∀ i (hi:i<fs.length),Full fs[i]→∃ p:Nat,p<n∧fs[i].page=(p:Int)∧fs[i].bytes=C p
 ds:∀ i j (hi:i<fs.length) (hj:j<fs.length),i≠j→Full fs[i]→Full fs[j]→fs[i].page≠fs[j].page
 pin:∀ i (hi:i<fs.length),fs[i].pins=0
 rc:∀ i (hi:i<fs.length),Rc.num fs[i].rc
 sz:∀ i (hi:i<fs.length),fs[i].bytes.size≤512
def Dirt (fs:List Fr)(p:Nat):Prop:=∃ i,∃ h:i<fs.length,Full fs[i]∧fs[i].page=(p:Int)∧fs[i].rc≠0
theorem set_at (fs:List Fr)(k:Nat)(f:Fr)(i:Nat)(hi:i<(fs.set k f).length):(i=k∧(fs.set k f)[i]=f)∨(i≠k∧∃ hi':i<fs.length,(fs.set k f)[i]=fs[i]):=by
 rw[List.getElem_set]
 by_cases e:k=i
 ·rw[if_pos e];exact .inl ⟨e.symm,rfl⟩
 ·rw[if_neg e];exact .inr ⟨fun h=>e h.symm,by simpa using hi,rfl⟩
theorem Dirt.set {fs:List Fr}{k:Nat}{f:Fr}{p:Nat}(hk:k<fs.length)(h:Dirt fs p)(hs:Full fs[k]→fs[k].page=(p:Int)→fs[k].rc≠0→Full f∧f.page=(p:Int)∧f.rc≠0):Dirt (fs.set k f) p:=by
 obtain⟨i,hi,h1,h2,h3⟩:=h
 refine⟨i,by rw[List.length_set];exact hi,?_⟩
 rw[List.getElem_set]
 split
 ·rename_i e;subst e;exact hs h1 h2 h3
 ·exact⟨h1,h2,h3⟩
def Lay (N:Nat)(d:Lg.Dk)(p:Nat)(b:ByteArray):Prop:=pgAt d (1+N+4*p)=sealB b∨(pgAt d (1+N+4*p)=zeroP∧b=newB (0:Nat))
structure PI (N n:Nat) (s:Tx.St) (fs:List Fr) (C:Nat→ByteArray):Prop where
 zl:s.zlog=(N:Int)
 zp:s.zpages=(n:Int)
 n1:1≤n∧n≤60∧N≤3000
 pw:Pw N (1+N+4*n) s.disk s.log
 nf:1≤fs.length∧fs.length≤64
 hd:0≤s.hand∧s.hand≤64
 fr:FrO n fs C
 nm:∀ p,p<n→Nrm (C p)
 dk:∀ p,p<n→¬ Dirt fs p→Lay N s.disk p (C p)
def Says (p:Prop)(w:World)(e:Ending)(w':World):Prop:=∃ b:Bool,e= .returned (.bool b)∧(b=true↔p)∧Below w.heap.size w w'
def FirstAt {α:Type}(P:α→Prop)(l:List α)(w:World)(e:Ending)(w':World):Prop:=
 ∃ k:Int,e= .returned (.int .i64 k)∧((k= -1∧∀ x∈l,¬ P x)∨∃ (i:Nat) (h:i<l.length),k=(i:Int)∧P l[i]∧∀ j (hj:j<i),¬ P (l[j]'(by omega)))∧Below w.heap.size w w'
theorem first_no {α:Type}{P:α→Prop}{l:List α}{w w':World}(h:∀ j (hj:j<l.length),¬ P l[j])(hb:Below w.heap.size w w'):FirstAt P l w (.returned (.int .i64 (-1))) w':=
 ⟨-1,rfl,.inl ⟨rfl,fun x hx=>by obtain⟨j,hj,rfl⟩:=List.getElem_of_mem hx;exact h j hj⟩,hb⟩
theorem first_yes {α:Type}{P:α→Prop}{l:List α}{w w':World}{k:Nat}(hk:k<l.length)(hp:P l[k])(h:∀ j (hj:j<l.length),j<k→¬ P l[j])(hb:Below w.heap.size w w'):FirstAt P l w (.returned (.int .i64 (k:Int))) w':=
 ⟨(k:Int),rfl,.inr ⟨k,hk,rfl,hp,fun j hj=>h j (by omega) hj⟩,hb⟩
theorem indexF_any (P:Fr→Prop)(g:Nat)(cb:Array Value)(eg:∀ args w,(callFunc g args).run Tryz.prog w= .ok (.enter g args) w)(l:List Fr)(hl:l.length≤140737488355328)(A:Option Addr)(c:Nat)(w:World)(hr:Reads w A c l.length (l.flatMap frL))
 (hc:∀ x∈l,∀ W,Below w.heap.size w W→Calls Tryz.prog g (#[.agg (frA x)]++cb) W (Says (P x) W)):
 Calls Tryz.prog 45 #[.slice A l.length c,.func (.func g) #[] cb] w (FirstAt P l w):=by
 have HR:=Hq hr
 have HC:=Hq hc
 have HNO:=Hq (fun h w' hb=>first_no (P:=P) (l:=l) (w:=w) (w':=w') h hb)
 have HYES:=Hq (fun k hk hp h w' hb=>first_yes (P:=P) (l:=l) (w:=w) (w':=w') (k:=k) hk hp h hb)
 generalize FirstAt P l w=Q at HNO HYES ⊢
 clear hr hc
 go_enter Tryz.func45,Tryz.ntmps45
 go_wp2_with fail
 go_loopw [8] (fun i wr=>∃ k:Nat,k≤l.length∧i= .int .i64 k∧(∀ j (hj:j<l.length),j<k→¬ P l[j])∧Below w.heap.size w wr) (fun i _=>l.length-(intOf i).toNat)
 case atStart=>exact⟨0,Nat.zero_le _,rfl,fun _ _ h=>absurd h (by omega),Below.refl _ _⟩
 case round=>
  obtain⟨k,hk,rfl,hall,hbw⟩:=hrel
  have HA:=Hq hall
  clear hall
  by_cases hlt:k<l.length
  ·obtain⟨b,off,rfl,hca,hbl,hcell⟩:=read_at frL_len (HR.out.below hbw) hlt
   have HY:=Hq (fun hp=>HYES.out k hlt hp HA.out)
   have HN:=Hq (show ¬ P l[k]→∀ j (hj:j<l.length),j<k+1→¬ P l[j]from fun h j hj hjk=>by
    rcases Nat.lt_or_eq_of_le (Nat.le_of_lt_succ hjk)with h1|h1
    ·exact HA.out j hj h1
    ·subst h1;exact h)
   have hcx:=HC.out l[k] (List.getElem_mem hlt) wr hbw
   generalize l[k]=x at hcell HY HN hcx
   obtain⟨fp,fb,fi,fm,fr⟩:=x
   have HCELL:=Hq (show wr.rangeAt b (off+k*5) [.int .i64 fp,.string fb,.int .i64 fi,.bool fm,.int .i64 fr]from hcell)
   have HCX:=Hq hcx
   clear hcell HA hcx
   dsimp only[frA]at HCX
   have hk0:(0:Int)≤(k:Int):=by omega
   have hki:(k:Int)<(l.length:Int):=by omega
   have hwk:IntKind.i64.wrap ((k:Int)+1)=(k:Int)+1:=IntWalk.i64_in _ (by omega)
   by_cases hp:P ⟨fp,fb,fi,fm,fr⟩
   ·have HP:=Hq hp
    clear hp hca
    go_wp2_with (first
     |(with_reducible refine wpList_load_mid rfl 108 (.tmp 14) rfl b (off+k*5) rfl [.int .i64 fp,.string fb,.int .i64 fi,.bool fm,.int .i64 fr] _ HCELL.out Tryz.underlying108 Kr Kr ?_)
     |(go_at_fn g;(with_reducible refine HCX.out.mono ?_);rintro e w2 ⟨q,rfl,hq,hb2⟩;obtain rfl:q=true:=hq.2 HP.out;clear hq))
    exact HY.out HP.out _ (joinB hbw hb2)
   ·have HP:=Hq hp
    clear hp hca
    go_wp2_with (first
     |(with_reducible refine wpList_load_mid rfl 108 (.tmp 14) rfl b (off+k*5) rfl [.int .i64 fp,.string fb,.int .i64 fi,.bool fm,.int .i64 fr] _ HCELL.out Tryz.underlying108 Kr Kr ?_)
     |(go_at_fn g;(with_reducible refine HCX.out.mono ?_);rintro e w2 ⟨q,rfl,hq,hb2⟩;obtain rfl:q=false:=(by cases q with|true=>exact absurd (hq.1 rfl) HP.out|false=>rfl);clear hq))
    go_roundw
    case rel=>exact⟨k+1,by omega,by go_num,HN.out HP.out,joinB hbw hb2⟩
    case measure=>simp[intOf];omega
  ·have HF:=Hq (HNO.out (fun j hj=>HA.out j hj (by omega)) _ hbw)
   go_wp2_with fail
   exact HF.out
abbrev txA (t:Rc.TxnAt):Array Value:=#[t.txn,t.last,t.next,t.done]
theorem indexT_any (P:Rc.TxnAt→Prop)(g:Nat)(cb:Array Value)(eg:∀ args w,(callFunc g args).run Tryz.prog w= .ok (.enter g args) w)(l:List Rc.TxnAt)(hl:l.length≤140737488355328)(A:Option Addr)(c:Nat)(w:World)(hr:Reads w A c l.length (l.flatMap txC))
 (hc:∀ x∈l,∀ W,Below w.heap.size w W→Calls Tryz.prog g (#[.agg (txA x)]++cb) W (Says (P x) W)):
 Calls Tryz.prog 76 #[.slice A l.length c,.func (.func g) #[] cb] w (FirstAt P l w):=by
 have HR:=Hq hr
 have HC:=Hq hc
 have HNO:=Hq (fun h w' hb=>first_no (P:=P) (l:=l) (w:=w) (w':=w') h hb)
 have HYES:=Hq (fun k hk hp h w' hb=>first_yes (P:=P) (l:=l) (w:=w) (w':=w') (k:=k) hk hp h hb)
 generalize FirstAt P l w=Q at HNO HYES ⊢
 clear hr hc
 go_enter Tryz.func76,Tryz.ntmps76
 go_wp2_with fail
 go_loopw [8] (fun i wr=>∃ k:Nat,k≤l.length∧i= .int .i64 k∧(∀ j (hj:j<l.length),j<k→¬ P l[j])∧Below w.heap.size w wr) (fun i _=>l.length-(intOf i).toNat)
 case atStart=>exact⟨0,Nat.zero_le _,rfl,fun _ _ h=>absurd h (by omega),Below.refl _ _⟩
 case round=>
  obtain⟨k,hk,rfl,hall,hbw⟩:=hrel
  have HA:=Hq hall
  clear hall
  by_cases hlt:k<l.length
  ·obtain⟨b,off,rfl,hca,hbl,hcell⟩:=read_at txC_len (HR.out.below hbw) hlt
   have HY:=Hq (fun hp=>HYES.out k hlt hp HA.out)
   have HN:=Hq (show ¬ P l[k]→∀ j (hj:j<l.length),j<k+1→¬ P l[j]from fun h j hj hjk=>by
    rcases Nat.lt_or_eq_of_le (Nat.le_of_lt_succ hjk)with h1|h1
    ·exact HA.out j hj h1
    ·subst h1;exact h)
   have hcx:=HC.out l[k] (List.getElem_mem hlt) wr hbw
   generalize l[k]=x at hcell HY HN hcx
   obtain⟨ta,tb,tc,td⟩:=x
   have HCELL:=Hq (show wr.rangeAt b (off+k*4) [.int .i64 ta,.int .i64 tb,.int .i64 tc,.bool td]from hcell)
   have HCX:=Hq hcx
   clear hcell HA hcx
   dsimp only[txA]at HCX
   have hk0:(0:Int)≤(k:Int):=by omega
   have hki:(k:Int)<(l.length:Int):=by omega
   have hwk:IntKind.i64.wrap ((k:Int)+1)=(k:Int)+1:=IntWalk.i64_in _ (by omega)
   by_cases hp:P ⟨ta,tb,tc,td⟩
   ·have HP:=Hq hp
    clear hp hca
    go_wp2_with (first
     |(with_reducible refine wpList_load_mid rfl 59 (.tmp 14) rfl b (off+k*4) rfl [.int .i64 ta,.int .i64 tb,.int .i64 tc,.bool td] _ HCELL.out Tryz.underlying59 Kr Kr ?_)
     |(go_at_fn g;(with_reducible refine HCX.out.mono ?_);rintro e w2 ⟨q,rfl,hq,hb2⟩;obtain rfl:q=true:=hq.2 HP.out;clear hq))
    exact HY.out HP.out _ (joinB hbw hb2)
   ·have HP:=Hq hp
    clear hp hca
    go_wp2_with (first
     |(with_reducible refine wpList_load_mid rfl 59 (.tmp 14) rfl b (off+k*4) rfl [.int .i64 ta,.int .i64 tb,.int .i64 tc,.bool td] _ HCELL.out Tryz.underlying59 Kr Kr ?_)
     |(go_at_fn g;(with_reducible refine HCX.out.mono ?_);rintro e w2 ⟨q,rfl,hq,hb2⟩;obtain rfl:q=false:=(by cases q with|true=>exact absurd (hq.1 rfl) HP.out|false=>rfl);clear hq))
    go_roundw
    case rel=>exact⟨k+1,by omega,by go_num,HN.out HP.out,joinB hbw hb2⟩
    case measure=>simp[intOf];omega
  ·have HF:=Hq (HNO.out (fun j hj=>HA.out j hj (by omega)) _ hbw)
   go_wp2_with fail
   exact HF.out
theorem fclone_any (l:List Fr)(hl:l.length≤1000000)(A:Option Addr)(c:Nat)(w:World)(hr:Reads w A c l.length (l.flatMap frL)):
 Calls Tryz.prog 124 #[.slice A l.length c] w fun e w'=>∃ v,e= .returned v∧OwnL frL 5 108 w.heap.size w' v l∧Below w.heap.size w w':=by
 obtain⟨i0,hi,hz0,hz1,hz2⟩:=info_parts info_fr
 have HR:=Hq hr
 cases A with
 |none=>
  have hl0:l=[]:=by
   rcases Nat.eq_zero_or_pos l.length with h0|h0
   ·exact List.eq_nil_of_length_eq_zero h0
   ·obtain⟨b,off,e,_⟩:=hr h0
    cases e
  subst hl0
  clear hr HR
  have hq:∀ w,(binOp .eql 31 (.slice none 0 c) (.slice none 0 0)).run Tryz.prog w= .ok (.bool true) w:=fun w=>Lib.run_eql_slice_nil w 31 108 none 0 c 0 0 Tryz.underlying31
  simp only[List.length_nil]
  go_enter Tryz.func124,Tryz.ntmps124
  go_wp2_with fail
  go_ret
  exact⟨_,rfl,ownNil _ _ _ _,Below.refl _ _⟩
 |some ad=>
  have HRD:=Hq (hr.below (allocB w (.cells #[] 108)))
  have hq:∀ w,(binOp .eql 31 (.slice (some ad) l.length c) (.slice none 0 0)).run Tryz.prog w= .ok (.bool false) w:=fun w=>Lib.run_eql_slice_nil w 31 108 (some ad) l.length c 0 0 Tryz.underlying31
  clear hr
  go_enter Tryz.func124,Tryz.ntmps124
  go_wp2_with (at_builtin;refine listWants Kr fun K hK=>wp_appR (w.alloc (.cells #[] 108)) (.tmp 5) (.tmp 6) 31 108 i0 (.agg #[(),"",(),false,()]) 5 48 Tryz.underlying31 hi hz0 hz1 hz2 rfl (by omega) rfl w.heap.size _ 0 [] rfl (ownEmpty w 108 5) (some ad) l.length c (l.flatMap frL) rfl HRD.out (by rw[flat_len frL_len]) (frL_all l) (by omega) (by omega) (by simp) ?_;intro v2 w2 ho hg hb;refine hK _ _ ?_)
  go_ret
  rw[List.nil_append,Nat.zero_add]at ho
  exact⟨_,rfl,ho,(allocB w (.cells #[] 108)).trans hb⟩
structure MkR (fs fs':List Fr):Prop where
 len:fs'.length=fs.length
 at_:∀ i (h:i<fs.length) (h':i<fs'.length),fs'[i]={fs[i]with mark:=fs'[i].mark}
theorem MkR.refl (fs:List Fr):MkR fs fs:=⟨rfl,fun _ _ _=>rfl⟩
theorem MkR.set {fs fs':List Fr}(h:MkR fs fs'){k:Nat}(hk:k<fs'.length)(m:Bool):MkR fs (fs'.set k {fs'[k]with mark:=m}):=by
 refine⟨by rw[List.length_set];exact h.len,fun i hi hi'=>?_⟩
 have hl:=h.len
 rcases set_at fs' k {fs'[k]with mark:=m} i hi' with⟨e,e1⟩|⟨_,h2,e1⟩
 ·subst e
  rw[e1,h.at_ i hi hk]
 ·rw[e1];exact h.at_ i hi h2
theorem Dirt.marks {fs fs':List Fr}(h:MkR fs fs'){p:Nat}(hd:Dirt fs p):Dirt fs' p:=by
 obtain⟨i,hi,h1,h2,h3⟩:=hd
 have hl:=h.len
 have e:=h.at_ i hi (by omega)
 exact⟨i,by omega,by rw[e];exact h1,by rw[e];exact h2,by rw[e];exact h3⟩
end Go.Proofs.YtmfkhdhnbkambaaGreatDoor
namespace Rc
theorem num0':num 0:=⟨by decide,by decide⟩
theorem put_small {r:Rec}(h:Right r)(hk:r.kind≠9):(Lg.putR r).length≤1262:=by
 rw[Lg.putR_len]
 unfold bodyB
 rw[List.length_append,headB_len]
 cases h with
 |small kind lsn prev txn hk2 h1 h2 h3=>
  have hk3:restB (bare kind lsn prev txn)=[]:=by
   unfold restB bare
   simp only
   rw[if_neg (by omega),if_neg (by omega),if_neg (by omega),if_neg (by omega),if_neg (by omega)]
  rw[hk3];simp
 |change lsn prev txn page op how root e h1 h2 h3 h4 h5 h6=>
  rw[restB_2 rfl]
  have ho:=opB_len h5
  have ht:(treeB ⟨lsn,prev,txn,2,page,0,0,op,how,root,e,[],[]⟩).length≤200:=by
   unfold treeB
   rcases h6 with⟨h7,_⟩|⟨h7,h8,h9,h10,h11⟩
   ·simp only at h7;subst h7;simp
   ·simp only at h7 h11
    rw[if_neg (show ¬ how=1 by omega)]
    simp only[List.length_append,p_length,t_len]
    omega
  simp only[List.length_append,p_length]
  omega
 |clr lsn prev txn page op next h1 h2 h3 h4 h5 h6=>
  rw[restB_3 rfl]
  have ho:=opB_len h5
  simp only[List.length_append,p_length]
  omega
 |nest lsn prev txn next h1 h2 h3 h6=>
  rw[restB_4 rfl]
  simp only[p_length]
  omega
 |image lsn prev txn page op h1 h2 h3 h4 h5=>
  rw[restB_8 rfl]
  have ho:=opB_len h5
  simp only[List.length_append,p_length]
  omega
 |check lsn prev txn n ts ds h1 h2 h3 h4 h5=>exact absurd rfl hk
end Rc
namespace Go.Proofs.YtmfkhdhnbkambaaGreatDoor
open Go.RowKit Sc
theorem PI.log {N n:Nat}{s:Tx.St}{fs:List Fr}{C:Nat→ByteArray}(h:PI N n s fs C)(r:Rc.Rec)(hR:Rc.Right {r with lsn:=s.log.end_+1})(hk:r.kind≠9)(hr:s.log.end_+1262≤(N:Int)*128):
 ∃ g2,Lg.appendD s.log r=(g2,s.log.end_+1,0)∧PI N n {s with log:=g2} fs C∧s.log.end_<g2.end_∧g2.end_≤s.log.end_+1262:=by
 have h1:=Rc.put_small hR hk
 have h2:8≤(Lg.putR {r with lsn:=s.log.end_+1}).length:=by rw[Lg.putR_len];omega
 obtain⟨g2,e,h3,h4⟩:=h.pw.put r hR (by omega)
 exact⟨g2,e,⟨h.zl,h.zp,h.n1,h3,h.nf,h.hd,h.fr,h.nm,h.dk⟩,by omega,by omega⟩
def Pgs (fs fs':List Fr):Prop:=∀ j (h:j<fs.length) (h':j<fs'.length),fs'[j].page=fs[j].page∧fs'[j].bytes=fs[j].bytes
theorem Pgs.refl (fs:List Fr):Pgs fs fs:=fun _ _ _=>⟨rfl,rfl⟩
theorem Pgs.trans {fs fs' fs2:List Fr}(h:Pgs fs fs')(k:Pgs fs' fs2)(e:fs'.length=fs.length):Pgs fs fs2:=fun j h1 h2=>
 ⟨(k j (by omega) h2).1.trans (h j h1 (by omega)).1,(k j (by omega) h2).2.trans (h j h1 (by omega)).2⟩
theorem Pgs.marks {fs fs':List Fr}(h:MkR fs fs'):Pgs fs fs':=fun j h1 h2=>by rw[h.at_ j h1 h2];exact⟨rfl,rfl⟩
theorem Pgs.set (fs:List Fr)(k:Nat)(hk:k<fs.length)(f:Fr)(h1:f.page=fs[k].page)(h2:f.bytes=fs[k].bytes):Pgs fs (fs.set k f):=fun j hj hj'=>by
 rcases set_at fs k f j hj' with⟨e,e1⟩|⟨_,_,e1⟩
 ·subst e;rw[e1];exact⟨h1,h2⟩
 ·rw[e1];exact⟨rfl,rfl⟩
theorem Pgs.none_ {fs fs':List Fr}(h:Pgs fs fs')(e:fs'.length=fs.length){p:Int}(hn:∀ j (hj:j<fs.length),Full fs[j]→fs[j].page≠p):∀ j (hj:j<fs'.length),Full fs'[j]→fs'[j].page≠p:=fun j hj hf=>by
 have h1:=h j (by omega) hj
 rw[h1.1]
 refine hn j (by omega) ?_
 unfold Full at hf ⊢
 rw[← h1.2];exact hf
theorem not_dirt {fs:List Fr}{p:Nat}(h:∀ j (hj:j<fs.length),Full fs[j]→fs[j].page≠(p:Int)):¬ Dirt fs p:=fun⟨i,hi,h1,h2,_⟩=>h i hi h1 h2
end Go.Proofs.YtmfkhdhnbkambaaGreatDoor
namespace Sc
def bit (b:ByteArray)(p:Nat):Bool:=(b.data.toList[p/8]?.getD 0).toNat.testBit (p%8)
end Sc
namespace Go.Proofs.YtmfkhdhnbkambaaGreatDoor
open Go.RowKit Sc
theorem pgAt_new {M a:Nat}(h:a+4≤M):pgAt (Lg.newD M) a=zeroP:=by
 have e:((Lg.newD M).sectors.drop a).take 4=[Lg.zero128,Lg.zero128,Lg.zero128,Lg.zero128]:=by
  apply List.ext_getElem?
  intro j
  rw[List.getElem?_take]
  split
  ·rename_i hj
   rw[List.getElem?_drop]
   show(List.replicate M Lg.zero128)[a+j]? =_
   rw[List.getElem?_replicate,if_pos (by omega)]
   have:j=0∨j=1∨j=2∨j=3:=by omega
   rcases this with rfl|rfl|rfl|rfl<;>rfl
  ·rw[List.getElem?_eq_none (by simp;omega)]
 unfold pgAt
 rw[e]
 have hf:Lg.flat [Lg.zero128,Lg.zero128,Lg.zero128,Lg.zero128]=List.replicate 512 0:=by
  have h1:∀ L,Lg.flat (Lg.zero128::L)=List.replicate 128 0++Lg.flat L:=fun L=>rfl
  rw[h1,h1,h1,h1,Lg.flat_nil,List.append_nil,List.replicate_append_replicate,List.replicate_append_replicate,List.replicate_append_replicate]
 rw[hf]
 rfl
def freeF (k:Nat):List Fr:=List.replicate k ⟨0,⟨#[]⟩,0,false,0⟩
theorem freeF_at {k i:Nat}(hi:i<(freeF k).length):(freeF k)[i]=⟨0,⟨#[]⟩,0,false,0⟩:=(List.mem_replicate.1 (List.getElem_mem hi)).2
theorem freeF_len (k:Nat):(freeF k).length=k:=List.length_replicate
def newS (N n k:Nat):Tx.St:=⟨(N:Int),(n:Int),(k:Int),Lg.newD (1+N+4*n),⟨1,(N:Int),0,0,⟨#[]⟩⟩,0,[],1⟩
theorem pi_new {N n k:Nat}(hn:1≤n∧n≤60∧N≤3000)(hk:1≤k∧k≤64):PI N n (newS N n k) (freeF k) (fun _=>newB (0:Nat)):=by
 refine⟨rfl,rfl,hn,pw_new N (1+N+4*n) (by omega),by rw[freeF_len];exact hk,⟨Int.le_refl _,(by decide:(0:Int)≤64)⟩,⟨fun i hi hb=>?_,fun i j hi hj _ hb _=>?_,fun i hi=>?_,fun i hi=>?_,fun i hi=>?_⟩,fun p _=>(new_nrm 0 (by omega)).1,fun p hp _=>.inr ⟨pgAt_new (by omega),rfl⟩⟩
 ·rw[Full,freeF_at hi]at hb;exact absurd rfl hb
 ·rw[Full,freeF_at hi]at hb;exact absurd rfl hb
 ·rw[freeF_at hi]
 ·rw[freeF_at hi];exact numZ
 ·rw[freeF_at hi];exact Nat.zero_le _
end Go.Proofs.YtmfkhdhnbkambaaGreatDoor
