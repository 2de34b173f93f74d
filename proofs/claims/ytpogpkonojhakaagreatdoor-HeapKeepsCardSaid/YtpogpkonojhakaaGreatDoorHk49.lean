import Derived.Test.YtpogpkonojhakaaGreatDoorHk00
import Derived.Test.YtpogpkonojhakaaGreatDoorHk02
import Derived.Test.YtpogpkonojhakaaGreatDoorHk03
import Derived.Test.YtpogpkonojhakaaGreatDoorHk07
import Derived.Test.YtpogpkonojhakaaGreatDoorHk47
import Derived.Test.YtpogpkonojhakaaGreatDoorHk50
import Derived.Lib.AtoiAll
import Derived.Lib.ItoaMem
import Derived.Lib.ItoaLen
import Derived.Lib.SliceRun
import Derived.Deep.RegionLaw
import Derived.Deep.MidRow
set_option maxRecDepth 100000
set_option maxHeartbeats 16000000
set_option linter.unusedSimpArgs false
namespace Tx
theorem Ts {s:St}{n:Int}(h:Cy s.txns n=none):Hh s n=(⟨0,0,0,false⟩,false):=by unfold Hh;rw[h]
theorem Oj {s:St}{n:Int}{i:Nat}(h:Cy s.txns n=some i)(hi:i<s.txns.length):Hh s n=(s.txns[i],true):=by unfold Hh;rw[h];simp only;rw[List.getElem?_eq_getElem hi,Option.getD_some]
end Tx
namespace Go.Proofs.YtpogpkonojhakaaGreatDoor
open Go.RowKit
theorem qA {P:Program}{ops:Array Oper}{rest:List Oper}{op:Oper}{a:Act}{w:World}{Q:Exit→Act→World→Prop}(e:Region.wanted op (yielded ops a.tmps)=true)(ty:TypeId)(x:Operand)(f:op.op= .load ty x)
 (b o:Nat) (g:a.eval x= .pointer (some ⟨b,o,none⟩)) (part cells:Array Value) (t:TypeId) (i:w.heap[b]? =some (.cells cells t (0,0))) (k:(cells.toList.drop o).take part.size=part.toList) (d:TypeDesc)
 (l:P.underlying ty=some d) (m:d.isRow=true) (hi:(P.info? ty).map (·.size)=some part.size)
 (h:wpList P ops Q rest (a.put op.dst (.agg part)) w):wpList P ops Q (op::rest) a w:=
 Db e fun K n=>by
  refine wp_load_mid ty x f b o g part.toList d (fun j v c=>?_) l m (by simpa using hi) ?_
  ·rw[Aa i]
   have p:j<part.size:=(by have:=(List.getElem?_eq_some_iff.1 c).1;simpa using this);rw[← k,List.getElem?_take,if_pos p,List.getElem?_drop,Array.getElem?_toList]at c;exact c
  ·simpa using n _ _ h
theorem lP {P:Program}{ops:Array Oper}{rest:List Oper}{op:Oper}{a:Act}{w:World}{Q:Exit→Act→World→Prop}{ty:TypeId}{x:Operand}{b o:Nat}(part:Array Value){cells:Array Value}{t:TypeId}{d:TypeDesc}(c:w.heap[b]? =some (.cells cells t (0,0)))(e:P.underlying ty=some d)(h:wpList P ops Q rest (a.put op.dst (.agg part)) w)(f:op.op= .load ty x:=by exact rfl)(g:a.eval x= .pointer (some ⟨b,o,none⟩):=by with_unfolding_all exact rfl)(i:Region.wanted op (yielded ops a.tmps)=true:=by kernel_rfl)(j:(cells.toList.drop o).take part.size=part.toList:=by kernel_rfl)(k:d.isRow=true:=by kernel_rfl)(hi:(P.info? ty).map (·.size)=some part.size:=by kernel_rfl):wpList P ops Q (op::rest) a w:=qA i ty x f b o g part cells t c j d e k hi h
theorem sY {P:Program}{ops:Array Oper}{rest:List Oper}{op:Oper}{a:Act}{w:World}{Q:Exit→Act→World→Prop}(g:Region.wanted op (yielded ops a.tmps)=true)(ty:TypeId)(x y:Operand)(j:op.op= .store ty x y)
 (b o:Nat) (part cur res:Array Value) (t:TypeId) (k:a.eval x= .pointer (some ⟨b,o,none⟩)) (hy:a.eval y= .agg part) (l:w.heap[b]? =some (.cells cur t (0,0))) (m:res=(cur.toList.take o++part.toList++cur.toList.drop (o+part.toList.length)).toArray)
 (e:decide (o+part.toList.length≤cur.size)=true) (hi:(P.info? ty).map (·.size)=some part.size) (n:part.all (·.oneCell')=true) (h:wpList P ops Q rest (a.put op.dst undef) (w.setRow b res)):wpList P ops Q (op::rest) a w:=
 Db g fun K p=>by
  have c:=run_storeCells_at P b o t part.toList 0 cur w l (by rw[Nat.add_zero];exact of_decide_eq_true e) (fun v q=>(Array.all_eq_true_iff_forall_mem.1 n) v (by simpa using q));rw[Nat.add_zero,← m]at c;have d:(storeVar ty ⟨b,o,none⟩ (.agg part)).run P w= .ok () (w.setRow b res):=by
   cases f:P.info? ty with
   |none=>simp[f]at hi
   |some i=>
    have r:part.size=i.size:=by simp[f]at hi;omega
    simp[storeVar,sizeOf,typeInfo,f,Value.cells,r,c]
  unfold Oper.wp execOp;simp only[j,k,hy,Instr.storeAt,Instr.sureAddr,Sem.run_bind,Sem.run_pure,Result.andThen_ok,d];exact p _ _ h
theorem lU {P:Program}{ops:Array Oper}{rest:List Oper}{op:Oper}{a:Act}{w:World}{Q:Exit→Act→World→Prop}{ty:TypeId}{x y:Operand}{b o:Nat}(part:Array Value){cur:Array Value}(res:Array Value){t:TypeId}(c:w.heap[b]? =some (.cells cur t (0,0)))(h:wpList P ops Q rest (a.put op.dst undef) (w.setRow b res))(d:op.op= .store ty x y:=by exact rfl)(e:a.eval x= .pointer (some ⟨b,o,none⟩):=by with_unfolding_all exact rfl)(hy:a.eval y= .agg part:=by with_unfolding_all exact rfl)(f:Region.wanted op (yielded ops a.tmps)=true:=by kernel_rfl)(g:res=(cur.toList.take o++part.toList++cur.toList.drop (o+part.toList.length)).toArray:=by kernel_rfl)(i:decide (o+part.toList.length≤cur.size)=true:=by kernel_rfl)(hi:(P.info? ty).map (·.size)=some part.size:=by kernel_rfl)(j:part.all (·.oneCell')=true:=by kernel_rfl):wpList P ops Q (op::rest) a w:=sY f ty x y d b o part cur res t e hy c g i hi j h
structure SP where
 A:Option Addr
 c:Nat
 F:Option Addr
 fn:Nat
 fc:Nat
 T:Option Addr
 tc:Nat
abbrev Ah (s:Tx.St)(p:SP):Value:=.agg #[s.zlog,s.zpages,s.zframes,.slice p.A s.Ay.sectors.length p.c,s.Ay.left,s.Ay.down,s.log.from_,s.log.n,s.log.end_,s.log.safe,s.log.tail,.slice p.F p.fn p.fc,s.hand,.slice p.T s.txns.length p.tc,s.next]
structure Em (w:World) (s:Tx.St) (p:SP):Prop where
 dk:Dd w s.Ay p.A p.c
 dt:De 0 w 9 p.A
 tx:Ym w p.T p.tc s.txns
 tt:De 0 w 107 p.T
theorem Em.below {w w':World}{s:Tx.St}{p:SP}(h:Em w s p)(a:Bw w w'):Em w' s p:=⟨h.dk.below a,h.dt.below a,h.tx.below a,h.tt.below a⟩
theorem Em.other {w:World}{s:Tx.St}{p:SP}(h:Em w s p){b:Nat}{cur:Array Value}{t:TypeId}{fr:Nat×Nat}(a:w.heap[b]? =some (.cells cur t fr))(c:t≠9)(d:t≠107)(cs:Array Value):Em (w.setRow b cs) s p:=
 ⟨⟨h.dt.Gk h.dk.secs a c cs,h.dk.small⟩,h.dt.row b cs,h.tt.Gk h.tx a d cs,h.tt.row b cs⟩
theorem Em.set {w:World}{s:Tx.St}{p:SP}(h:Em w s p){b:Nat}{cur:Array Value}{t:TypeId}{fr:Nat×Nat}(a:w.heap[b]? =some (.cells cur t fr))(c:t≠9)(d:t≠107)(j:Nat)(v:Value):Em (w.setCell ⟨b,j,none⟩ v) s p:=by
 rw[setCell_eq_setRow w b j cur t fr v a];exact h.other a c d _
theorem O9 (r:Rc.Rec)(w:World)(a:r.txns=[])(b:r.dirty=[]):Ii w r none 0 none 0:=by
 refine⟨?_,?_,by rw[a,b];exact⟨Nat.zero_le _,Nat.zero_le _⟩⟩
 ·rw[a];exact Reads.none_ _ _ _ _
 ·rw[b];exact Reads.none_ _ _ _ _
theorem Vv (s:Tx.St)(p:SP)(n:Int)(J:s.txns.length≤800000)(w:World)(h:Em w s p):
 Cr 121 #[Ah s p,n] w (.tuple #[xM (Tx.Hh s n).1,.bool (Tx.Hh s n).2]):=by
 have d:=fun W (hb:Bw w W)=>Tq s.txns n (by omega) p.T p.tc W (h.tx.below hb);have q:=Hq h.tx;clear h;obtain⟨t,u,y,⟨L,z,B⟩,⟨C,D,E,F,G⟩,H,k,I⟩:=s;obtain⟨A,c,V,fn,X,TA,Y⟩:=p;simp only at d q J;dsimp only[Ah]
 cases o:Tx.Cy k n with
 |none=>
  rw[Tx.Ts (s:=⟨t,u,y,⟨L,z,B⟩,⟨C,D,E,F,G⟩,H,k,I⟩) o];rw[o]at d;unfold F5 at d;simp only[Tx.Oi]at d;have K:=Hq d;clear d;go_enter Tryz.func121,Tryz.ntmps121;go_upto_region 1 with fail;have f:=Nk w #[t,u,y,.slice A L.length c,z,B,C,D,E,F,G,.slice V fn X,H,.slice TA k.length Y,I] 36 #[(),(),(),false] 107;obtain⟨W0,g⟩:=E2 f;rw[← g]at f ⊢;clear g;have M:=Aa f.out.An
  go_wp2_with(first
   |(go_at_call 159;(with_reducible refine(K.out _ f.out.below).mono ?_);rintro e Z ⟨rfl,l⟩;have H1:=Hq (f.out.step l))
   |with_reducible refine lS #[(),(),(),false] H1.out.Ar ?_)
  refine rT2 false H1.out.Ar Zm ?_;exact⟨rfl,(H1.out.row 1 _ _ rfl).below⟩
 |some i=>
  obtain⟨N,-⟩:=Tx.F4 o;rw[Tx.Oj (s:=⟨t,u,y,⟨L,z,B⟩,⟨C,D,E,F,G⟩,H,k,I⟩) o N];simp only;rw[o]at d;unfold F5 at d;simp only[Tx.Oi]at d;have K:=Hq d;clear d;have a1:(0:Int)≤(i:Int):=by omega
  have a6:(i:Int)<(k.length:Int):=by omega
  obtain⟨b,off,rfl,a7,O,a⟩:=Cb Dn q.out N;generalize k[i]=x at a ⊢;obtain⟨P,Q,R,S⟩:=x;have m:=Hq a;clear a o N;go_enter Tryz.func121,Tryz.ntmps121;go_upto_region 1 with fail;have f:=Nk w #[t,u,y,.slice A L.length c,z,B,C,D,E,F,G,.slice V fn X,H,.slice (some ⟨b,off,none⟩) k.length Y,I] 36 #[(),(),(),false] 107;obtain⟨W0,g⟩:=E2 f;rw[← g]at f ⊢;clear g;have M:=Aa f.out.An
  go_wp2_with(first
   |(go_at_call 159;(with_reducible refine(K.out _ f.out.below).mono ?_);rintro e Z ⟨rfl,l⟩;have H1:=Hq (f.out.step l);have a8:=Aa H1.out.An;have r:Z.rangeAt b (off+i*4) [.int .i64 P,.int .i64 Q,.int .i64 R,.bool S]:=fun j v hj=>(by rw[H1.out.below.cell (p:=⟨b,off+i*4+j,none⟩) O];exact m.out j v hj);have U:=Hq r;clear r)
   |with_reducible refine wpList_load_mid rfl 107 (.tmp 16) rfl b (off+i*4) rfl [.int .i64 P,.int .i64 Q,.int .i64 R,.bool S] _ U.out Zm Kr Kr ?_
   |with_reducible refine lS #[P,Q,R,S] H1.out.Ar ?_)
  refine rT2 true H1.out.Ar Zm ?_;exact⟨rfl,(H1.out.row 1 _ _ rfl).below⟩
theorem lF (s:Tx.St)(p:SP)(n:Int)(f:s.txns.length≤800000)(w:World)(h:Em w s p):
 Cr 79 #[Ah s p,n] w (.int .i64 (Tx.aP s n)):=by
 have g:=Hq (fun W (m:Bw w W)=>Vv s p n f W (h.below m));unfold Tx.aP;generalize Tx.Hh s n=x at g ⊢;obtain⟨⟨i,j,k,l⟩,ok⟩:=x;clear h;obtain⟨q,r,t,⟨L,u,v⟩,⟨y,z,B,C,D⟩,E,F,G⟩:=s;obtain⟨A,c,H,fn,I,J,K⟩:=p;dsimp only[Ah]at g ⊢;go_enter Tryz.func79,Tryz.ntmps79;go_upto_region 1 with fail;have a:=cG w #[q,r,t,.slice A L.length c,u,v,y,z,B,C,D,.slice H fn I,E,.slice J F.length K,G] 36;obtain⟨P,b⟩:=E2 a;rw[← b]at a ⊢;clear b
 go_upto_region 2 with(first
  |with_reducible refine lL a.out.An Aq ?_
  |(go_at_call 121;(with_reducible refine(g.out _ a.out.below).mono ?_);rintro e M ⟨rfl,d⟩)
  |with_reducible refine sN #[i,j,k,l] ?_)
 have N:=Aa (heap_alloc_new M (.cells #[i,j,k,l] 107));have O:=Hq (Af a.out.below (Aj (o:=.cells #[i,j,k,l] 107) d));clear d;go_wp2_with fail;go_ret;exact⟨rfl,O.out⟩
end Go.Proofs.YtpogpkonojhakaaGreatDoor
namespace Lg
open Rc
structure Al (l:Lo):Prop where
 s0:0≤l.safe
 se:l.safe≤l.end_
 tl:l.end_-(l.tail.size:Int)=l.safe-l.safe%128
theorem Al.first {l:Lo}(h:Al l):Fl l=l.safe/128:=by
 have b:=h.s0;have a:=h.tl;unfold Fl;rw[a];omega
end Lg
namespace Tx
open Rc Lg
theorem lG {l:Lo}(r:Rec)(h:Al l):Al (As l r).1:=by
 have d:=h.s0;have g:=h.se;have i:=h.tl
 by_cases a:Bx {r with lsn:=l.end_+1}
 ·by_cases c:l.n*128-((D9 {r with lsn:=l.end_+1}).length:Int)<l.end_
  ·unfold As
   simp only;rw[if_neg (fun b=>b a),if_pos c];exact h
  ·have e:(As l r).1={l with end_:=l.end_+((D9 {r with lsn:=l.end_+1}).length:Int),tail:=l.tail++⟨(D9 {r with lsn:=l.end_+1}).toArray⟩}:=by
    unfold As;simp only;rw[if_neg (fun b=>b a),if_neg c]
   rw[e];have f:(⟨(D9 {r with lsn:=l.end_+1}).toArray⟩:ByteArray).size=(D9 {r with lsn:=l.end_+1}).length:=(by show(D9 {r with lsn:=l.end_+1}).toArray.size=_;simp);refine⟨d,?_,?_⟩
   ·show l.safe≤l.end_+((D9 {r with lsn:=l.end_+1}).length:Int);omega
   ·show l.end_+((D9 {r with lsn:=l.end_+1}).length:Int)-((l.tail++⟨(D9 {r with lsn:=l.end_+1}).toArray⟩).size:Int)=l.safe-l.safe%128
    rw[ByteArray.size_append,f];omega
 ·unfold As
  simp only;rw[if_pos a];exact h
end Tx
namespace Go.Proofs.YtpogpkonojhakaaGreatDoor
open Go.RowKit
abbrev Ak (s:Tx.St)(p:SP):Array Value:=#[s.zlog,s.zpages,s.zframes,.slice p.A s.Ay.sectors.length p.c,s.Ay.left,s.Ay.down,s.log.from_,s.log.n,s.log.end_,s.log.safe,s.log.tail,.slice p.F p.fn p.fc,s.hand,.slice p.T s.txns.length p.tc,s.next]
structure Fr where
 Ae:Int
 bytes:ByteArray
 pins:Int
 mark:Bool
 rc:Int
def Kx (f:Fr):List Value:=[.int .i64 f.Ae,.string f.bytes,.int .i64 f.pins,.bool f.mark,.int .i64 f.rc]
abbrev Fw (f:Fr):Array Value:=#[f.Ae,f.bytes,f.pins,f.mark,f.rc]
theorem Eb (f:Fr):(Kx f).length=5:=rfl
theorem sZ (f:Fr):∀ u∈Kx f,u.oneCell'=true:=by
 intro u a;simp only[Kx,List.mem_cons,List.not_mem_nil,or_false]at a;rcases a with rfl|rfl|rfl|rfl|rfl<;>rfl
theorem gR (l:List Fr):∀ u∈l.flatMap Kx,u.oneCell'=true:=by
 intro u a;obtain⟨v,_,h⟩:=List.mem_flatMap.1 a;exact sZ v u h
theorem Xv:(Tryz.prog.info? 125).map (fun i=>(i.zero,i.size,i.bytes))=some (some (.agg #[(),"",(),false,()]),5,48):=by kernel_rfl
theorem R0:(⟨#[]⟩:ByteArray).toList=[]:=by rw[ByteArray.toList_eq]
theorem eC {b:ByteArray}(h:b≠⟨#[]⟩):¬ b.toList=[]∧(b.toList==[])=false∧(b.toList==(⟨#[]⟩:ByteArray).toList)=false:=by
 have c:¬ b.toList=[]:=fun a=>h (by
  rw[ByteArray.toList_eq]at a;obtain⟨⟨l⟩⟩:=b;simp only at a;rw[a])
 have d:(b.toList==[])=false:=by simpa using c
 exact⟨c,d,by rw[R0];exact d⟩
theorem Em.vS {w:World}{s:Tx.St}{p:SP}(h:Em w s p)(F:Option Addr)(n c:Nat):Em w s {p with F:=F,fn:=n,fc:=c}:=⟨h.dk,h.dt,h.tx,h.tt⟩
structure Am (w:World) (s:Tx.St) (p:SP) (fs:List Fr):Prop where
 st:Em w s p
 fn:p.fn=fs.length
 fr:Reads w p.F p.fc fs.length (fs.flatMap Kx)
 ft:De 0 w 125 p.F
theorem Am.below {w w':World}{s:Tx.St}{p:SP}{fs:List Fr}(h:Am w s p fs)(a:Bw w w'):Am w' s p fs:=⟨h.st.below a,h.fn,h.fr.below a,h.ft.below a⟩
theorem Am.other {w:World}{s:Tx.St}{p:SP}{fs:List Fr}(h:Am w s p fs){b:Nat}{cur:Array Value}{t:TypeId}{fr:Nat×Nat}(a:w.heap[b]? =some (.cells cur t fr))(c:t≠9)(d:t≠107)(e:t≠125)(cs:Array Value):Am (w.setRow b cs) s p fs:=
 ⟨h.st.other a c d cs,h.fn,h.ft.Gk h.fr a e cs,h.ft.row b cs⟩
theorem Fu {B g:Nat}{w u:World}(b:B≤g)(a:Below B w u)(cs:Array Value):Below B w (u.setRow g cs):=
 ⟨a.os,a.tape,a.output,by show _≤(u.heap.modify _ _).size;have:=a.size;simpa using this,fun k hk=>by show(u.heap.modify _ _)[k]? =_;rw[Array.getElem?_modify,if_neg (by omega)];exact a.block k hk⟩
section
variable {α : Type} {enc : α → List Value} {k : Nat} {e : TypeId} {B g c : Nat} {w : World} {l : List α}
theorem aU (hk:∀ x,(enc x).length=k)(l:List α)(i:Nat)(hi:i<l.length)(x:α)(t:Nat):((l.set i x).flatMap enc)[t]? =if i*k≤t∧t<i*k+k then(enc x)[t-i*k]? else(l.flatMap enc)[t]? :=by
 have f:i*k+k≤l.length*k:=by have:=Nat.mul_le_mul_right k (show i+1≤l.length from hi);rwa[Nat.add_mul,Nat.one_mul]at this
 by_cases a:i*k≤t∧t<i*k+k
 ·rw[if_pos a]
  obtain⟨j,rfl⟩:∃ j,t=i*k+j:=⟨t-i*k,by omega⟩;rw[Jr hk (l.set i x) i j (by rw[List.length_set];exact hi) (by omega),List.getElem_set_self,Nat.add_sub_cancel_left]
 ·rw[if_neg a]
  by_cases g:t<l.length*k
  ·have b:0<k:=by rcases Nat.eq_zero_or_pos k with h|h;(· subst h;omega);(· exact h)
   have d:t/k<l.length:=(by rw[Nat.div_lt_iff_lt_mul b];exact g);have e:t%k<k:=Nat.mod_lt _ b;have m:t=t/k*k+t%k:=(by rw[Nat.mul_comm];exact(Nat.div_add_mod t k).symm);have c:i≠t/k:=fun h=>a (by rw[h];omega);rw[m,Jr hk (l.set i x) (t/k) (t%k) (by rw[List.length_set];exact d) e,Jr hk l (t/k) (t%k) d e,List.getElem_set_ne c]
  ·rw[List.getElem?_eq_none (by rw[Ce hk,List.length_set];omega),List.getElem?_eq_none (by rw[Ce hk];omega)]
theorem Xw (n:D7 enc k e B w (.slice (some ⟨g,0,none⟩) l.length c) l):∃ cur:Array Value,B≤g∧g<w.heap.size∧w.heap[g]? =some (.cells cur e (0,0))∧l.length≤c∧c≤maxLen∧cur.size=c*k∧∀ t,t<l.length*k→cur[t]? =(l.flatMap enc)[t]? :=by
 obtain⟨o,p⟩:=n;rcases p with⟨q,_⟩|⟨v,cap,cur,r,f,m,h,d,i,b⟩
 ·cases q
 injection r with a s j
 injection a with a
 injection a with a _ _
 subst a j;refine⟨cur,f,Bt m,m,h,d,i,fun t u=>?_⟩;rw[← b,List.getElem?_take,if_pos u,Array.getElem?_toList]
theorem qB {cur:Array Value}(hk:∀ x,(enc x).length=k)(b:B≤g)(d:w.heap[g]? =some (.cells cur e (0,0)))(f:l.length≤c)(i:c≤maxLen)(j:cur.size=c*k)(h:∀ t,t<l.length*k→cur[t]? =(l.flatMap enc)[t]?):D7 enc k e B w (.slice (some ⟨g,0,none⟩) l.length c) l:=by
 refine⟨Ce hk l,.inr ⟨g,c,cur,rfl,b,d,f,i,j,?_⟩⟩;refine List.ext_getElem? fun t=>?_;rw[List.getElem?_take]
 by_cases a:t<l.length*k
 ·rw[if_pos a,Array.getElem?_toList,h t a]
 ·rw[if_neg a,List.getElem?_eq_none (by rw[Ce hk];omega)]
theorem gS (hk:∀ x,(enc x).length=k)(n:D7 enc k e B w (.slice (some ⟨g,0,none⟩) l.length c) l)(i:Nat)(hi:i<l.length)(x:α):
 w.there g (i*k) k∧D7 enc k e B (w.setCells g (i*k) (enc x)) (.slice (some ⟨g,0,none⟩) (l.set i x).length c) (l.set i x)∧Below B w (w.setCells g (i*k) (enc x)):=by
 obtain⟨cur,d,z,b,f,o,p,q⟩:=Xw n;have r:i*k+k≤l.length*k:=by have:=Nat.mul_le_mul_right k (show i+1≤l.length from hi);rwa[Nat.add_mul,Nat.one_mul]at this
 have s:l.length*k≤c*k:=Nat.mul_le_mul_right _ f;obtain⟨m,u,v,y⟩:=Ll (enc x) (i*k) cur w b;refine⟨fun j A=>⟨by rw[Aa b,Array.getElem?_eq_getElem (by omega)];rfl,Ap b _⟩,qB hk d u (by rw[List.length_set];exact f) o (by rw[v];exact p) (fun t h=>?_),Jl d _ _ _⟩;rw[List.length_set]at h;rw[y,aU hk l i hi x t,hk]
 by_cases a:i*k≤t∧t<i*k+k
 ·rw[if_pos ⟨a.1,a.2,by omega⟩,if_pos a]
 ·rw[if_neg (fun h=>a ⟨h.1,h.2.1⟩),if_neg a,q t h]
end
theorem aV (s:Tx.St)(p:SP)(n:Int)(w:World):
 Cr 97 #[Ah s p,n] w (.bool (decide (0≤n∧n<s.zpages))):=by
 by_cases e:0≤n
 ·have a:decide (0≤n∧n<s.zpages)=decide (n<s.zpages):=by simp[e]
  rw[a];clear a;go_enter Tryz.func97,Tryz.ntmps97;go_upto_region 1 with fail;have c:=cG w (Ak s p) 36;obtain⟨d,b⟩:=E2 c;rw[← b]at c ⊢;clear b;have f:=show d.cell? ⟨w.heap.size,1,none⟩=some (.int .i64 s.zpages)from(by rw[Aa c.out.An];rfl);go_wp2_with fail;go_ret;exact⟨by simp,c.out.below⟩
 ·have a:decide (0≤n∧n<s.zpages)=false:=by simp[e]
  rw[a];clear a;go_enter Tryz.func97,Tryz.ntmps97;go_upto_region 1 with fail;have c:=cG w (Ak s p) 36;obtain⟨d,b⟩:=E2 c;rw[← b]at c ⊢;clear b;have f:=show d.cell? ⟨w.heap.size,1,none⟩=some (.int .i64 s.zpages)from(by rw[Aa c.out.An];rfl);go_wp2_with fail;go_ret;exact⟨by simp,c.out.below⟩
theorem eD (s:Tx.St)(p:SP)(n:Int)(g:0≤s.zlog∧s.zlog≤3000)(h:0≤n∧n≤1000)(w:World):
 Cr 142 #[Ah s p,n] w (.int .i64 (1+s.zlog+4*n)):=by
 go_enter Tryz.func142,Tryz.ntmps142;go_upto_region 1 with fail;have b:=cG w (Ak s p) 36;obtain⟨c,a⟩:=E2 b;rw[← a]at b ⊢;clear a;have i:=show c.cell? ⟨w.heap.size,0,none⟩=some (.int .i64 s.zlog)from by rw[Aa b.out.An];rfl
 have d:IntKind.i64.wrap (1+s.zlog)=1+s.zlog:=IntWalk.i64_in _ (by omega);have e:IntKind.i64.wrap (4*n)=4*n:=IntWalk.i64_in _ (by omega);have f:IntKind.i64.wrap (1+s.zlog+4*n)=1+s.zlog+4*n:=IntWalk.i64_in _ (by omega);go_wp2_with fail;go_ret;exact⟨rfl,b.out.below⟩
theorem gT (s:Tx.St)(p:SP)(fs:List Fr)(r:p.fn=fs.length)(J:fs.length≤100)(n:Int)(w:World)(I:Reads w p.F p.fc fs.length (fs.flatMap Kx)):
 Cq 98 #[Ah s p,n] w fun e w'=>((e= .returned (.int .i64 (-1))∧∀ j (hj:j<fs.length),fs[j].bytes≠⟨#[]⟩→fs[j].Ae≠n)∨∃ (k:Nat) (hk:k<fs.length),e= .returned (.int .i64 k)∧fs[k].bytes≠⟨#[]⟩∧fs[k].Ae=n)∧Bw w w':=by
 have K:=Hq I;clear I;have A:=Hq r;clear r;go_enter Tryz.func98,Tryz.ntmps98;go_upto_region 1 with fail;have q:=cG w (Ak s p) 36;obtain⟨B,t⟩:=E2 q;rw[← t]at q ⊢;clear t;have C:=show B.cell? ⟨w.heap.size,11,none⟩=some (.slice p.F fs.length p.fc)from by rw[Aa q.out.An,← A.out];rfl
 have v:=Hq q.out.below;have L:=Hq (fun u (M:Bw B u)=>show u.cell? ⟨w.heap.size,11,none⟩=some (.slice p.F fs.length p.fc)from by rw[M.cell (p:=⟨w.heap.size,11,none⟩) (q.out.lt (i:=0) (by simp))];exact C);clear q;go_wp2_with fail
 go_loopw [5] (fun i wr=>∃ k:Nat,k≤fs.length∧i= .int .i64 k∧(∀ j (hj:j<fs.length),j<k→fs[j].bytes≠⟨#[]⟩→fs[j].Ae≠n)∧Bw B wr) (fun i _=>fs.length-(intOf i).toNat)
 case atStart=>exact⟨0,Nat.zero_le _,rfl,fun _ _ h=>absurd h (by omega),Below.refl _ _⟩
 case round=>
  obtain⟨k,hk,rfl,c,d⟩:=hrel;have D:=v.out.trans (d.mono v.out.size);have C:=L.out wr d;have N:(0:Int)≤(k:Int):=by omega
  by_cases x:k<fs.length
  ·have O:(k:Int)<(fs.length:Int):=by omega
   have P:IntKind.i64.wrap ((k:Int)+1)=(k:Int)+1:=IntWalk.i64_in _ (by omega);obtain⟨b,off,E,Q,R,a⟩:=Cb Eb (K.out.below D) x;have l:=a 0 _ rfl;have y:=a 1 _ rfl;simp only[Nat.add_zero]at l;clear a;generalize g:fs[k]=f at l y;obtain⟨G,S,X,Y,Z⟩:=f;simp only at l y;rw[E]at C
   by_cases m:S=⟨#[]⟩
   ·subst m
    have T:=R0;go_wp2_with fail;go_roundw
    case rel=>exact⟨k+1,by omega,by go_num,fun j hj o=>by rcases Nat.lt_or_eq_of_le (Nat.le_of_lt_succ o)with h5|h5;(· exact c j hj h5);(· subst h5;rw[g];exact fun h=>absurd rfl h),d⟩
    case measure=>simp[intOf];omega
   ·obtain⟨U,V,W⟩:=eC m
    by_cases z:G=n
    ·have H:(G==n)=true:=beq_iff_eq.2 z
     go_wp2_with fail;go_ret;exact⟨.inr ⟨k,x,rfl,by rw[g];exact m,by rw[g];exact z⟩,D⟩
    ·have H:(G==n)=false:=beq_eq_false_iff_ne.2 z
     go_wp2_with fail;go_roundw
     case rel=>exact⟨k+1,by omega,by go_num,fun j hj o=>by rcases Nat.lt_or_eq_of_le (Nat.le_of_lt_succ o)with h5|h5;(· exact c j hj h5);(· subst h5;rw[g];exact fun _=>z),d⟩
     case measure=>simp[intOf];omega
  ·obtain rfl:k=fs.length:=by omega
   go_wp2_with fail;go_ret;exact⟨.inl ⟨rfl,fun j hj=>c j hj hj⟩,D⟩
theorem Lm (s:Tx.St)(p:SP)(fs:List Fr)(V:fs.length≤100)(k:Nat)(hk:k<fs.length)(f:Fr)(w:World)(h:Am w s p fs):
 Cq 99 #[Ah s p,k,.agg (Fw f)] w fun e w'=>∃ q,e= .returned (Ah s q)∧Am w' s q (fs.set k f)∧Bw w w':=by
 obtain⟨i0,E,G,H,I⟩:=info_parts Xv;have Q:=Hq h;have J:=Hq h.fn;clear h;go_enter Tryz.func99,Tryz.ntmps99;go_upto_region 1 with fail;have j:=Nr w (Ak s p) 36 (Fw f) 125 #[(),(),(),'s',(),false,(),(),(),(),"",'s',(),'s',()] 36;obtain⟨b,o⟩:=E2 j;rw[← o]at j ⊢;clear o;have m:=Hq (Q.out.below j.out.below);have R:=show b.cell? ⟨w.heap.size,11,none⟩=some (.slice p.F fs.length p.fc)from by rw[Aa j.out.An,← J.out];rfl
 have a:=Ac b (.cells #[] 125);have L:(b.alloc (.cells #[] 125)).cell? ⟨w.heap.size,11,none⟩=some (.slice p.F fs.length p.fc):=by rw[a.cell (p:=⟨w.heap.size,11,none⟩) (j.out.lt (i:=0) (by simp))];exact R
 have r:=m.out.fr.below a
 go_upto_region 2 with(at_builtin;refine Db Kr fun K W=>Js (b.alloc (.cells #[] 125)) (.tmp 8) (.tmp 11) 31 125 i0 (.agg #[(),"",(),false,()]) 5 48 tA E G H I rfl (by omega) rfl b.heap.size _ 0 [] rfl (Kg b 125 5) p.F fs.length p.fc (fs.flatMap Kx) rfl r (by rw[Ce Eb]) (gR fs) (by omega) (by omega) a.size ?_;intro v2 M t X S;refine W _ _ ?_)
 rw[List.nil_append,Nat.zero_add]at t;have n:=a.trans S;obtain⟨g,fc,rfl⟩:∃ g c,v2= .slice (some ⟨g,0,none⟩) fs.length c:=by
  rcases t.2 with⟨_,h0⟩|⟨g,cap,cur,Y,_⟩
  ·omega
  ·exact⟨g,cap,Y⟩
 have N:=Hq (j.out.step n);have O:=Hq (m.out.below n);have T:(0:Int)≤(k:Int):=by omega
 have Z:(k:Int)<(fs.length:Int):=by omega
 obtain⟨u,v,x⟩:=gS Eb t k hk f;have l:M.there g (k*5) (Fw f).size:=u;have a1:b.heap.size≤g:=by obtain⟨cur,h1,_⟩:=Xw t;exact h1
 go_upto_region 3 with(first|with_reducible refine lL N.out.Ar Ha ?_|with_reducible refine wpList_store_mid rfl 125 (.tmp 16) (.tmp 15) rfl g (k*5) (Fw f) rfl rfl l Kr Kr ?_)
 have hM:w.heap.size+3≤b.heap.size:=j.out.lt (i:=2) (by simp);have D:=Hq (N.out.under hM x);have y:=show(M.setCells g (k*5) (Kx f)).cell? ⟨w.heap.size,11,none⟩=some (.slice p.F p.fn p.fc)from by rw[Aa D.out.An];rfl
 have z:=Ap D.out.An 11;have A:=Hq v;rw[show([.int .i64 f.Ae,.string f.bytes,.int .i64 f.pins,.bool f.mark,.int .i64 f.rc]:List Value)=Kx f from rfl];generalize M.setCells g (k*5) (Kx f)=w3 at D y z A ⊢
 try simp only[Act.put]
 clear u l v x R L a r t X S n j m N O;go_upto_region 4 with fail;have B:=Hq (show Ed w.heap.size w [((Ak s {p with F:=some ⟨g,0,none⟩,fn:=fs.length,fc:=fc}),36),(Fw f,125),(#[(),(),(),'s',(),false,(),(),(),(),"",'s',(),'s',()],36)] (w3.setCell ⟨w.heap.size,11,none⟩ (.slice (some ⟨g,0,none⟩) fs.length fc))from D.out.set 0 11 (.slice (some ⟨g,0,none⟩) fs.length fc) _ rfl);have C:=Hq (J9 A.out ⟨w.heap.size,11,none⟩ (.slice (some ⟨g,0,none⟩) fs.length fc) (by show w.heap.size<b.heap.size;omega));generalize w3.setCell ⟨w.heap.size,11,none⟩ (.slice (some ⟨g,0,none⟩) fs.length fc)=w4 at B C ⊢;clear y z
 go_wp2_with(first|with_reducible refine lL B.out.An Aq ?_|with_reducible refine lS (Ak s {p with F:=some ⟨g,0,none⟩,fn:=fs.length,fc:=fc}) B.out.Bj ?_)
 have U:=Hq (B.out.row 2 (Ak s {p with F:=some ⟨g,0,none⟩,fn:=fs.length,fc:=fc}) _ rfl).below;refine rT1 B.out.Bj Aq ?_;have d:=I2 C.out (w.heap.size+2) (Ak s {p with F:=some ⟨g,0,none⟩,fn:=fs.length,fc:=fc}) (by omega);have P:(fs.set k f).length=fs.length:=List.length_set;refine⟨{p with F:=some ⟨g,0,none⟩,fn:=fs.length,fc:=fc},rfl,⟨(Q.out.st.below U.out).vS _ _ _,P.symm,?_,?_⟩,U.out⟩
 ·rw[P]at d ⊢
  exact C5 d
 ·rw[P]at d
  exact(De.own d).mono (Nat.zero_le _)
structure K8 (p:ByteArray):Prop where
 is:Bi p=true
 pl:Ny p=p
theorem K8.eq {p:ByteArray}(h:K8 p):Dl (Ab p)=p:=(Mm h.is).symm.trans h.pl
theorem K8.size {p:ByteArray}(h:K8 p):p.size=512:=Hm h.is
theorem Tt {x:Pg.Cw}(d:Pg.Small x)(e:Pg.Au x.Ai≤512)(f:∀ r∈x.Ai,r.size≤400)(a:Pg.trim x.Ai=x.Ai):K8 (Dl x)∧Ab (Dl x)=x:=by
 obtain⟨b,g⟩:=Mj d (by rw[a];exact e) f;have c:Ab (Dl x)=x:=by rw[g,a]
 exact⟨⟨b,by rw[Mm b,c]⟩,c⟩
theorem Pb {p:ByteArray}(h:Bi p=true){l:Nat}(a:l<281474976710656):K8 (Bk p (l:Int))∧Ab (Bk p (l:Int))=⟨l,(Ab p).kind,(Ab p).link,(Ab p).Ai⟩:=by
 obtain⟨c,b,_⟩:=Ik h a;refine⟨⟨c,?_⟩,b⟩;unfold Ny;rw[b];exact Ry h a a
theorem vT {p:ByteArray}(h:Bi p=true):K8 (Ny p)∧Ab (Ny p)=Ab p:=Pb h (Gu p)
theorem gU {p:ByteArray}(h:K8 p):Ny (Ek p)=p:=by
 obtain⟨a,b,_⟩:=G7 h.is;rw[Mm a,b,h.eq]
def Jm:ByteArray:=⟨(List.replicate 512 0).toArray⟩
theorem lH:Bi Jm=false:=by
 have h:Pg.right Jm.data.toList=none:=by
  have e:Jm.data.toList=List.replicate 512 0:=rfl;rw[e]
  decide+kernel
 unfold Bi;rw[h];rfl
theorem Vw {p:ByteArray}(h:Bi p=true):Ek p≠Jm:=fun e=>by
 have a:=(G7 h).1;rw[e,lH]at a
 cases a
theorem Ln (k:Nat)(hk:k≤4):K8 (Gm k)∧Ab (Gm k)=⟨0,k,0,[]⟩:=by
 have e:Gm (k:Int)=Dl ⟨0,k,0,[]⟩:=by unfold Gm;rw[if_neg (by omega)];rfl
 rw[e];exact Tt ⟨by show 0<281474976710656;omega,hk,by show 0<16777216;omega⟩ (by show 19≤512;omega) (fun r h=>by cases h) (Pg.Ef fun r h=>by cases h)
theorem lI {p q:ByteArray}(_hp:Bi p=true)(a:Bi q=true):K8 (Bk q ((Ab p).lsn:Nat))∧Ab (Bk q ((Ab p).lsn:Nat))=⟨(Ab p).lsn,(Ab q).kind,(Ab q).link,(Ab q).Ai⟩:=Pb a (Gu p)
theorem tC {p r b:ByteArray}(h:K8 p)(f:(Ab p).Ai=[b])(i:b.size≠0)(j:r.size≠0)(k:r.size≤400):
 Gn p 0 r=(Dl {Ab p with Ai:=[r]},0)∧K8 (Dl {Ab p with Ai:=[r]})∧Ab (Dl {Ab p with Ai:=[r]})={Ab p with Ai:=[r]}:=by
 have l:=Cf p;have d:Pg.Az (Ab p).Ai 0=b:=by rw[f];rfl
 have g:Pg.trim [r]=[r]:=Pg.Ef fun x a=>by simp at a;rw[← a];exact j
 have c:Pg.Au [r]≤512:=by unfold Pg.Au Pg.Ao Pg.Ao;simp;omega
 have m:=Tt (x:={Ab p with Ai:=[r]}) l.fine.small c (fun x a=>by simp at a;rw[a];exact k) g;refine⟨?_,m⟩;unfold Gn;rw[if_neg (by rw[h.is];decide),if_neg (by unfold He;rw[decide_eq_true (by omega)];decide),d,if_neg i];have e:Pg.putAt (Ab p).Ai (0:Int).toNat r=[r]:=by rw[f];rfl
 rw[e];exact J1 (x:=A4 p [r]) (by show Pg.Au (Pg.trim [r])≤512;rw[g];exact c)
end Go.Proofs.YtpogpkonojhakaaGreatDoor
namespace Ck
open Lg
open Rc
theorem qC {N:Nat}{l:List ByteArray}{i:Nat}(hi:i=0∨1+N≤i)(b:ByteArray)(a:Int)(dn:Bool)(d:Dk)(c:d.sectors=l):G9 1 N ⟨l.set i b,a,dn⟩=G9 1 N d:=by
 unfold G9;simp only;rw[c]
 congr 1
 apply List.ext_getElem?
 intro j;rw[List.getElem?_take,List.getElem?_take]
 split
 ·rw[List.getElem?_drop,List.getElem?_drop,List.getElem?_set_ne (by omega)]
 ·rfl
theorem lJ {l:List ByteArray}(h:Whole l)(i:Nat){b:ByteArray}(a:b.size=128):Whole (l.set i b):=fun x c=>by
 rcases List.mem_or_eq_of_mem_set c with h1|h1
 ·exact h x h1
 ·rw[h1];exact a
theorem Xx (d:Dk)(a:Int)(b:ByteArray):C8 d a b=(d,20)∧d.down=true∨d.down=false∧(C8 d a b=(d,1)∨(Hr d a∧b.size=128∧((d.left=0∧C8 d a b=({d with down:=true},20))∨(d.left≠0∧C8 d a b=(⟨d.sectors.set a.toNat b,if 0<d.left then d.left-1 else d.left,false⟩,0))))):=by
 unfold C8
 cases f:d.down with
 |true=>exact .inl ⟨by simp,rfl⟩
 |false=>
  refine .inr ⟨rfl,?_⟩
  by_cases c:Hr d a∧b.size=128
  ·refine .inr ⟨c.1,c.2,?_⟩
   by_cases e:d.left=0
   ·exact .inl ⟨e,by simp[c,e]⟩
   ·exact .inr ⟨e,by simp[c,e]⟩
  ·exact .inl (by simp[c])
theorem Hf.out {N:Nat}{d a:Dk}{g:Lo}{b r2:List Rec}(h:Hf 1 N d g b r2)(c:Whole a.sectors)(e:a.sectors.length=d.sectors.length)(f:G9 1 N a=G9 1 N d):Hf 1 N a g b r2:=
 ⟨c,by rw[e];exact h.room,h.hf,h.hn,h.row,by rw[f];exact h.pre,h.safe,h.end_,h.tail,h.fit⟩
structure Br (N:Nat) (d:Dk) (g:Lo):Prop where
 whole:Whole d.sectors
 len:d.sectors.length=N+17
 up:d.down=false
 left:d.left= -1
 inv:∃ r1 r2,Hf 1 N d g r1 r2
theorem Br.force {N:Nat}{d:Dk}{g:Lo}{a b:List Rec}(h:Hf 1 N d g a b)(e:d.down=false)(c:d.left= -1):
 (Bf d g).2.2=0∧Hf 1 N (Bf d g).1 (Bf d g).2.1 (a++b) []∧(Bf d g).1.down=false∧(Bf d g).1.left= -1∧(Bf d g).1.sectors.length=d.sectors.length:=by
 rcases h.force e (by omega)with⟨f,a2,a3,_,a5,i,_,_⟩|⟨_,_,_,a4,_⟩
 ·exact⟨f,a2,a3,a5 c,i⟩
 ·exact absurd c a4
theorem eE (base:Int)(all:List ByteArray)(j:Nat):∀ (i:Nat) (d:Dk),0≤base→base+(i:Int)≤(j:Int)→(Cp base all i d).1.sectors[j]? =d.sectors[j]? :=by
 intro i
 induction i with
 |zero=>intro d _ _;rfl
 |succ i ih=>
  intro d c f;have a:∀ b,(C8 d (base+(i:Int)) b).1.sectors[j]? =d.sectors[j]? :=fun b=>by
   rcases Xx d (base+(i:Int)) b with⟨e,_⟩|⟨_,e|⟨_,_,⟨_,e⟩|⟨_,e⟩⟩⟩<;>rw[e]
   show(d.sectors.set (base+(i:Int)).toNat b)[j]? =_
   rw[List.getElem?_set_ne (by omega)]
  unfold Cp
  split
  ·rw[ih _ c (by omega)];exact a _
  ·exact a _
theorem lK {N:Nat}{d:Dk}{g:Lo}{c a:List Rec}(h:Hf 1 N d g c a)(j:Nat)(k:1+N≤j):(Bf d g).1.sectors[j]? =d.sectors[j]? :=by
 by_cases b:a=[]
 ·have e:Bf d g=(d,g,0):=by unfold Bf;rw[if_pos (by rw[h.safe,h.end_,b,List.append_nil])]
  rw[e]
 ·obtain⟨n,f,_⟩:=h.vD b
  have l:=f.fits;have m:=h.Fl;have i:=h.hf;unfold Bf
  split
  ·rfl
  ·simp only
   split<;>exact eE _ _ _ _ _ (by omega) (by omega)
end Ck
namespace Sc
open Rc Lg Ck
structure Pw (N M:Nat) (d:Dk) (g:Lo):Prop where
 whole:Whole d.sectors
 len:d.sectors.length=M
 room:1+N≤M
 up:d.down=false
 left:d.left= -1
 inv:∃ r1 r2,Hf 1 N d g r1 r2
theorem vU (N M:Nat)(h:1+N≤M):Pw N M (Li M) ⟨1,N,0,0,⟨#[]⟩⟩:=by
 have b:(Li M).sectors.length=M:=by show(List.replicate M Da).length=_;rw[List.length_replicate]
 have a:Whole (Li M).sectors:=aR _;exact⟨a,b,h,rfl,rfl,[],[],Hf.new (F:=1) a (by omega)⟩
theorem Pw.yX {N M:Nat}{d:Dk}{g:Lo}(h:Pw N M d g):0≤g.end_∧g.end_≤(N:Int)*128:=by
 obtain⟨_,_,_,_,_,b,c,a⟩:=h;have e:=a.end_;have f:=a.fit;omega
theorem Pw.put {N M:Nat}{d:Dk}{g:Lo}(h:Pw N M d g)(r:Rec)(c:Bx {r with lsn:=g.end_+1})(p:g.end_+((D9 {r with lsn:=g.end_+1}).length:Int)≤(N:Int)*128):
 ∃ g2,As g r=(g2,g.end_+1,0)∧Pw N M d g2∧g2.end_=g.end_+((D9 {r with lsn:=g.end_+1}).length:Int):=by
 obtain⟨f,i,j,k,l,q,s,b⟩:=h;have t:=b.hn;have m:=b.append r;have e:As g r=((As g r).1,g.end_+1,0)∧(As g r).1.end_=g.end_+((D9 {r with lsn:=g.end_+1}).length:Int):=by
  unfold As;simp only;rw[if_neg (fun n=>n c),if_neg (by omega)];exact⟨rfl,rfl⟩
 rcases m with e1|e1|⟨_,o⟩
 ·have a:=e.1;rw[e1]at a;have:=congrArg (fun x=>x.2.2) a;simp at this
 ·have a:=e.1;rw[e1]at a;have:=congrArg (fun x=>x.2.2) a;simp at this
 ·exact⟨_,e.1,⟨f,i,j,k,l,_,_,o⟩,e.2⟩
theorem Pw.force {N M:Nat}{d:Dk}{g:Lo}(h:Pw N M d g):∃ d2 g2,Bf d g=(d2,g2,0)∧Pw N M d2 g2∧g2.end_=g.end_∧∀ j,1+N≤j→d2.sectors[j]? =d.sectors[j]? :=by
 obtain⟨l,c,e,f,i,m,n,b⟩:=h;obtain⟨k,a2,a3,a4,a5⟩:=Br.force b f i;have a:=lK b;refine⟨_,_,by rw[← k],⟨a2.whole,a5.trans c,e,a3,a4,_,_,a2⟩,?_,a⟩;rw[a2.end_,b.end_,List.append_nil]
theorem Pw.write {N M:Nat}{d:Dk}{g:Lo}(h:Pw N M d g){i:Nat}{b:ByteArray}(c:b.size=128)(hi:1+N≤i)(k:i<M):
 C8 d (i:Int) b=({d with sectors:=d.sectors.set i b},0)∧Pw N M {d with sectors:=d.sectors.set i b} g:=by
 obtain⟨l,e,m,f,a,n,o,p⟩:=h;have q:Hr d (i:Int):=⟨by omega,by rw[e];omega⟩;refine⟨?_,?_⟩
 ·unfold C8
  rw[if_neg (by rw[f];decide),if_neg (fun r=>r ⟨q,c⟩),if_neg (by rw[a];decide)];rw[show(if 0<d.left then d.left-1 else d.left)=d.left from by rw[a];rfl]
  rfl
 ·have s:G9 1 N ⟨d.sectors.set i b,d.left,d.down⟩=G9 1 N d:=qC (.inr hi) b _ _ d rfl
  have j:=lJ l i c;exact⟨j,by show(d.sectors.set i b).length=M;rw[List.length_set];exact e,m,f,a,n,o,Hf.out p j (by show(d.sectors.set _ _).length=_;rw[List.length_set]) s⟩
def Gb (d:Dk)(a:Nat):ByteArray:=⟨(flat ((d.sectors.drop a).take 4)).toArray⟩
theorem Qd {d b:Dk}{a:Nat}(h:∀ j,a≤j→j<a+4→b.sectors[j]? =d.sectors[j]?):Gb b a=Gb d a:=by
 have e:(b.sectors.drop a).take 4=(d.sectors.drop a).take 4:=by
  apply List.ext_getElem?
  intro j;rw[List.getElem?_take,List.getElem?_take]
  split
  ·rw[List.getElem?_drop,List.getElem?_drop];exact h _ (by omega) (by omega)
  ·rfl
 unfold Gb;rw[e]
theorem lM (b:ByteArray)(i n:Nat):(b.extract i (i+n)).data.toList=(b.data.toList.drop i).take n:=by
 rw[ByteArray.data_extract,Array.toList_extract,List.extract_eq_take_drop]
 congr 1
 omega
def Gx (b:ByteArray)(i:Nat):ByteArray:=b.extract (i*128) (i*128+128)
theorem Fj {b:ByteArray}(a:b.size=512){i:Nat}(hi:i<4):(Gx b i).size=128:=by
 unfold Gx;rw[ByteArray.size_extract];omega
def No (d:Dk)(a:Nat)(b:ByteArray):Dk:={d with sectors:=(((d.sectors.set a (Gx b 0)).set (a+1) (Gx b 1)).set (a+2) (Gx b 2)).set (a+3) (Gx b 3)}
theorem qD (d:Dk)(a:Nat)(b:ByteArray)(j:Nat)(h:j<a∨a+4≤j):(No d a b).sectors[j]? =d.sectors[j]? :=by
 unfold No;rw[List.getElem?_set_ne (by omega),List.getElem?_set_ne (by omega),List.getElem?_set_ne (by omega),List.getElem?_set_ne (by omega)]
theorem aW (d:Dk)(a c:Nat)(b:ByteArray)(h:c+4≤a∨a+4≤c):Gb (No d a b) c=Gb d c:=Qd fun j e f=>qD d a b j (by omega)
theorem gV {d:Dk}{a:Nat}{b:ByteArray}(c:b.size=512)(m:a+4≤d.sectors.length):Gb (No d a b) a=b:=by
 have e:((No d a b).sectors.drop a).take 4=[Gx b 0,Gx b 1,Gx b 2,Gx b 3]:=by
  apply List.ext_getElem?
  intro j;rw[List.getElem?_take]
  split
  ·rename_i n
   rw[List.getElem?_drop];unfold No;have:j=0∨j=1∨j=2∨j=3:=(by omega);rcases this with rfl|rfl|rfl|rfl
   ·rw[List.getElem?_set_ne (by omega),List.getElem?_set_ne (by omega),List.getElem?_set_ne (by omega),Nat.add_zero,List.getElem?_set_self (by omega)];rfl
   ·rw[List.getElem?_set_ne (by omega),List.getElem?_set_ne (by omega),List.getElem?_set_self (by rw[List.length_set];omega)];rfl
   ·rw[List.getElem?_set_ne (by omega),List.getElem?_set_self (by rw[List.length_set,List.length_set];omega)];rfl
   ·rw[List.getElem?_set_self (by rw[List.length_set,List.length_set,List.length_set];omega)];rfl
  ·rw[List.getElem?_eq_none (by simp;omega)]
 unfold Gb;rw[e];have f:b.data.toList.length=512:=by simpa using c
 apply ByteArray.ext
 apply Array.toList_inj.1
 show flat [Gx b 0,Gx b 1,Gx b 2,Gx b 3]=b.data.toList
 unfold flat Gx;simp only[List.flatMap_cons,List.flatMap_nil,List.append_nil,lM];generalize b.data.toList=l at f;have g:l=l.take 128++l.drop 128:=(List.take_append_drop 128 l).symm;have h:l.drop 128=(l.drop 128).take 128++l.drop 256:=by
  have:=(List.take_append_drop 128 (l.drop 128)).symm
  rwa[List.drop_drop]at this
 have i:l.drop 256=(l.drop 256).take 128++l.drop 384:=by
  have:=(List.take_append_drop 128 (l.drop 256)).symm
  rwa[List.drop_drop]at this
 have k:l.drop 384=(l.drop 384).take 128:=(List.take_of_length_le (by rw[List.length_drop];omega)).symm
 show l.take 128++((l.drop 128).take 128++((l.drop 256).take 128++(l.drop 384).take 128))=l
 rw[← k,← i,← h,← g]
theorem Pw.Ae {N M:Nat}{d:Dk}{g:Lo}(h:Pw N M d g){a:Nat}{b:ByteArray}(c:b.size=512)(e:1+N≤a)(f:a+4≤M):Pw N M (No d a b) g:=by
 have j:=(h.write (Fj c (i:=0) (by omega)) e (by omega)).2;have k:=(j.write (Fj c (i:=1) (by omega)) (i:=a+1) (by omega) (by omega)).2;have l:=(k.write (Fj c (i:=2) (by omega)) (i:=a+2) (by omega) (by omega)).2;exact(l.write (Fj c (i:=3) (by omega)) (i:=a+3) (by omega) (by omega)).2
theorem Vx {d:Dk}{a:Nat}(b:a+4≤d.sectors.length):Gb d a=((d.sectors[a]++d.sectors[a+1])++d.sectors[a+2])++d.sectors[a+3]:=by
 have e:(d.sectors.drop a).take 4=[d.sectors[a],d.sectors[a+1],d.sectors[a+2],d.sectors[a+3]]:=by
  apply List.ext_getElem?
  intro j;rw[List.getElem?_take]
  split
  ·rw[List.getElem?_drop]
   have:j=0∨j=1∨j=2∨j=3:=(by omega);rcases this with rfl|rfl|rfl|rfl<;>rw[List.getElem?_eq_getElem (by omega)]<;>rfl
  ·rw[List.getElem?_eq_none (by simp;omega)]
 unfold Gb;rw[e]
 apply ByteArray.ext
 apply Array.toList_inj.1
 unfold flat
 simp
end Sc
namespace Go.Proofs.YtpogpkonojhakaaGreatDoor
open Go.RowKit Sc
theorem vV:Rc.num 0:=⟨by decide,by decide⟩
abbrev Full (f:Fr):Prop:=f.bytes≠⟨#[]⟩
structure vW (n:Nat) (fs:List Fr) (C:Nat→ByteArray):Prop where
 at_:∀ i (hi:i<fs.length),Full fs[i]→∃ p:Nat,p<n∧fs[i].Ae=(p:Int)∧fs[i].bytes=C p
 ds:∀ i j (hi:i<fs.length) (hj:j<fs.length),i≠j→Full fs[i]→Full fs[j]→fs[i].Ae≠fs[j].Ae
 pin:∀ i (hi:i<fs.length),fs[i].pins=0
 rc:∀ i (hi:i<fs.length),Rc.num fs[i].rc
 sz:∀ i (hi:i<fs.length),fs[i].bytes.size≤512
def Qe (fs:List Fr)(p:Nat):Prop:=∃ i,∃ h:i<fs.length,Full fs[i]∧fs[i].Ae=(p:Int)∧fs[i].rc≠0
theorem Hb (fs:List Fr)(k:Nat)(f:Fr)(i:Nat)(hi:i<(fs.set k f).length):(i=k∧(fs.set k f)[i]=f)∨(i≠k∧∃ hi':i<fs.length,(fs.set k f)[i]=fs[i]):=by
 rw[List.getElem_set]
 by_cases e:k=i
 ·rw[if_pos e];exact .inl ⟨e.symm,rfl⟩
 ·rw[if_neg e];exact .inr ⟨fun h=>e h.symm,by simpa using hi,rfl⟩
theorem vW.set {n:Nat}{fs:List Fr}{C C':Nat→ByteArray}(h:vW n fs C)(k:Nat)(f:Fr)(t:f.pins=0)(u:Rc.num f.rc)(v:f.bytes.size≤512)
 (w:Full f→∃ p:Nat,p<n∧f.Ae=(p:Int)∧f.bytes=C' p) (r:Full f→∀ j (hj:j<fs.length),j≠k→Full fs[j]→f.Ae≠fs[j].Ae)
 (hC:∀ j (hj:j<fs.length) (p:Nat),j≠k→Full fs[j]→fs[j].Ae=(p:Int)→C' p=C p):vW n (fs.set k f) C':=by
 refine⟨fun i c b=>?_,fun i j c hj l b g=>?_,fun i c=>?_,fun i c=>?_,fun i c=>?_⟩
 ·rcases Hb fs k f i c with⟨_,e⟩|⟨x,a,e⟩
  ·rw[e]at b ⊢;exact w b
  ·rw[e]at b ⊢
   obtain⟨p,y,s,z⟩:=h.at_ i a b;exact⟨p,y,s,by rw[z,hC i a p x b s]⟩
 ·rcases Hb fs k f i c with⟨o,e⟩|⟨o,a,e⟩<;>rcases Hb fs k f j hj with⟨q,d⟩|⟨q,m,d⟩
  ·exact absurd (o.trans q.symm) l
  ·rw[e,d];rw[e]at b;rw[d]at g;exact r b j m q g
  ·rw[e,d];rw[e]at b;rw[d]at g;exact fun A=>r g i a o b A.symm
  ·rw[e,d];rw[e]at b;rw[d]at g;exact h.ds i j a m l b g
 ·rcases Hb fs k f i c with⟨_,e⟩|⟨_,a,e⟩
  ·rw[e];exact t
  ·rw[e];exact h.pin i a
 ·rcases Hb fs k f i c with⟨_,e⟩|⟨_,a,e⟩
  ·rw[e];exact u
  ·rw[e];exact h.rc i a
 ·rcases Hb fs k f i c with⟨_,e⟩|⟨_,a,e⟩
  ·rw[e];exact v
  ·rw[e];exact h.sz i a
theorem Qe.set {fs:List Fr}{k:Nat}{f:Fr}{p:Nat}(hk:k<fs.length)(h:Qe fs p)(d:Full fs[k]→fs[k].Ae=(p:Int)→fs[k].rc≠0→Full f∧f.Ae=(p:Int)∧f.rc≠0):Qe (fs.set k f) p:=by
 obtain⟨i,g,a,b,c⟩:=h;refine⟨i,by rw[List.length_set];exact g,?_⟩;rw[List.getElem_set]
 split
 ·rename_i e;subst e;exact d a b c
 ·exact⟨a,b,c⟩
def yY (N:Nat)(d:Lg.Dk)(p:Nat)(b:ByteArray):Prop:=Gb d (1+N+4*p)=Ek b∨(Gb d (1+N+4*p)=Jm∧b=Gm (0:Nat))
structure PI (N n:Nat) (s:Tx.St) (fs:List Fr) (C:Nat→ByteArray):Prop where
 zl:s.zlog=(N:Int)
 zp:s.zpages=(n:Int)
 n1:1≤n∧n≤60∧N≤3000
 pw:Pw N (1+N+4*n) s.Ay s.log
 nf:1≤fs.length∧fs.length≤64
 hd:0≤s.hand∧s.hand≤64
 fr:vW n fs C
 nm:∀ p,p<n→K8 (C p)
 dk:∀ p,p<n→¬ Qe fs p→yY N s.Ay p (C p)
theorem PI.mark {N n:Nat}{s:Tx.St}{fs:List Fr}{C:Nat→ByteArray}(h:PI N n s fs C){k:Nat}(hk:k<fs.length)(m:Bool):PI N n s (fs.set k {fs[k]with mark:=m}) C:=
 ⟨h.zl,h.zp,h.n1,h.pw,by rw[List.length_set];exact h.nf,h.hd,
   h.fr.set k _ (h.fr.pin k hk) (h.fr.rc k hk) (h.fr.sz k hk) (fun d=>h.fr.at_ k hk d) (fun g j i f d=>h.fr.ds k j hk i (fun e=>f e.symm) g d) (fun _ _ _ _ _ _=>rfl),
   h.nm,fun p l o=>h.dk p l fun q=>o (q.set hk fun a b c=>⟨a,b,c⟩)⟩
theorem PI.hand {N n:Nat}{s:Tx.St}{fs:List Fr}{C:Nat→ByteArray}(h:PI N n s fs C)(x:Int)(a:0≤x∧x≤64):PI N n {s with hand:=x} fs C:=
 ⟨h.zl,h.zp,h.n1,h.pw,h.nf,a,h.fr,h.nm,h.dk⟩
theorem PI.load {N n:Nat}{s:Tx.St}{fs:List Fr}{C:Nat→ByteArray}(h:PI N n s fs C){k:Nat}(hk:k<fs.length){p:Nat}(d:p<n)(f:Full fs[k]→fs[k].rc=0)(b:∀ j (hj:j<fs.length),Full fs[j]→fs[j].Ae≠(p:Int)):PI N n s (fs.set k ⟨(p:Int),C p,0,true,0⟩) C:=
 ⟨h.zl,h.zp,h.n1,h.pw,by rw[List.length_set];exact h.nf,h.hd,
   h.fr.set k _ rfl vV (Nat.le_of_eq (h.nm p d).size) (fun _=>⟨p,d,rfl,rfl⟩) (fun _ j hj _ g e=>b j hj g e.symm) (fun _ _ _ _ _ _=>rfl),
   h.nm,fun q i l=>h.dk q i fun m=>l (m.set hk fun a _ c=>absurd (f a) c)⟩
theorem PI.force {N n:Nat}{s:Tx.St}{fs:List Fr}{C:Nat→ByteArray}(h:PI N n s fs C):∃ d2 g2,Lg.Bf s.Ay s.log=(d2,g2,0)∧PI N n {s with Ay:=d2,log:=g2} fs C∧g2.end_=s.log.end_:=by
 obtain⟨d2,g2,e,c,d,f⟩:=h.pw.force;refine⟨d2,g2,e,⟨h.zl,h.zp,h.n1,c,h.nf,h.hd,h.fr,h.nm,fun p g i=>?_⟩,d⟩;have b:Gb d2 (1+N+4*p)=Gb s.Ay (1+N+4*p):=Qd fun j l _=>f j (by omega);rcases h.dk p g i with a|⟨a,k⟩
 ·exact .inl (b.trans a)
 ·exact .inr ⟨b.trans a,k⟩
theorem PI.flush {N n:Nat}{s:Tx.St}{fs:List Fr}{C:Nat→ByteArray}(h:PI N n s fs C){k:Nat}(hk:k<fs.length){p:Nat}(m:p<n)(_hf:Full fs[k])(c:fs[k].Ae=(p:Int)):
 PI N n {s with Ay:=No s.Ay (1+N+4*p) (Ek (C p))} (fs.set k {fs[k]with rc:=0}) C:=by
 have i:=(G7 (h.nm p m).is).2.2.2;have o:=h.pw.len;refine⟨h.zl,h.zp,h.n1,h.pw.Ae i (by omega) (by omega),by rw[List.length_set];exact h.nf,h.hd,
  h.fr.set k _ (h.fr.pin k hk) vV (h.fr.sz k hk) (fun d=>h.fr.at_ k hk d) (fun r j t f d=>h.fr.ds k j hk t (fun e=>f e.symm) r d) (fun _ _ _ _ _ _=>rfl),
  h.nm,fun q u v=>?_⟩
 by_cases a:q=p
 ·subst a
  exact .inl (gV i (by rw[o];omega))
 ·have l:=aW s.Ay (1+N+4*p) (1+N+4*q) (Ek (C p)) (by omega)
  have w:¬ Qe fs q:=fun x=>v (x.set hk fun _ b _=>absurd (Int.ofNat.inj (b.symm.trans c)) a);rcases h.dk q u w with g|⟨g,y⟩
  ·exact .inl (l.trans g)
  ·exact .inr ⟨l.trans g,y⟩
theorem PI.change {N n:Nat}{s s':Tx.St}{fs:List Fr}{C:Nat→ByteArray}(h:PI N n s fs C){k:Nat}(hk:k<fs.length){p:Nat}(y:p<n)(u:Full fs[k])(a:fs[k].Ae=(p:Int)){b:ByteArray}(i:K8 b){x:Int}(l:Rc.num x)(m:x≠0)
 (z:s'.zlog=s.zlog) (A:s'.zpages=s.zpages) (v:s'.Ay=s.Ay) (B:s'.hand=s.hand) (o:Pw N (1+N+4*n) s.Ay s'.log):
 PI N n s' (fs.set k ⟨(p:Int),b,0,true,x⟩) (fun q=>if q=p then b else C q):=by
 have r:b≠⟨#[]⟩:=fun e=>by have:=i.size;rw[e]at this;exact absurd this (by decide)
 refine⟨z.trans h.zl,A.trans h.zp,h.n1,by rw[v];exact o,by rw[List.length_set];exact h.nf,by rw[B];exact h.hd,
  h.fr.set k _ rfl l (Nat.le_of_eq i.size) (fun _=>⟨p,y,rfl,by rw[if_pos rfl]⟩) (fun _ j t c d=>by rw[show(⟨(p:Int),b,0,true,x⟩:Fr).Ae=fs[k].Ae from a.symm];exact h.fr.ds k j hk t (fun e=>c e.symm) u d) (fun j t q c d f=>if_neg fun e=>by
   subst e;exact h.fr.ds k j hk t (fun e=>c e.symm) u d (a.trans f.symm)),fun q f=>?_,fun q f w=>?_⟩
 ·by_cases e:q=p
  ·rw[if_pos e];exact i
  ·rw[if_neg e];exact h.nm q f
 ·have g:q≠p:=fun e=>w (by
   subst e;exact⟨k,by rw[List.length_set];exact hk,by rw[List.getElem_set_self];exact⟨r,rfl,m⟩⟩)
  rw[if_neg g,v];exact h.dk q f fun l=>w (l.set hk fun _ b _=>absurd (Int.ofNat.inj (b.symm.trans a)) g)
def Mp (p:Prop)(w:World)(e:Ending)(w':World):Prop:=∃ b:Bool,e= .returned (.bool b)∧(b=true↔p)∧Bw w w'
def Ib {α:Type}(P:α→Prop)(l:List α)(w:World)(e:Ending)(w':World):Prop:=
 ∃ k:Int,e= .returned (.int .i64 k)∧((k= -1∧∀ x∈l,¬ P x)∨∃ (i:Nat) (h:i<l.length),k=(i:Int)∧P l[i]∧∀ j (hj:j<i),¬ P (l[j]'(by omega)))∧Bw w w'
theorem aX {α:Type}{P:α→Prop}{l:List α}{w w':World}(h:∀ j (hj:j<l.length),¬ P l[j])(a:Bw w w'):Ib P l w (.returned (.int .i64 (-1))) w':=
 ⟨-1,rfl,.inl ⟨rfl,fun x b=>by obtain⟨j,hj,rfl⟩:=List.getElem_of_mem b;exact h j hj⟩,a⟩
theorem Vy {α:Type}{P:α→Prop}{l:List α}{w w':World}{k:Nat}(hk:k<l.length)(a:P l[k])(h:∀ j (hj:j<l.length),j<k→¬ P l[j])(b:Bw w w'):Ib P l w (.returned (.int .i64 (k:Int))) w':=
 ⟨(k:Int),rfl,.inr ⟨k,hk,rfl,a,fun j hj=>h j (by omega) hj⟩,b⟩
theorem Tu (P:Fr→Prop)(g:Nat)(K:Array Value)(eg:∀ args w,(callFunc g args).run Tryz.prog w= .ok (.enter g args) w)(l:List Fr)(hl:l.length≤140737488355328)(A:Option Addr)(c:Nat)(w:World)(L:Reads w A c l.length (l.flatMap Kx))
 (M:∀ x∈l,∀ W,Bw w W→Cq g (#[.agg (Fw x)]++K) W (Mp (P x) W)):
 Cq 203 #[.slice A l.length c,.func (.func g) #[] K] w (Ib P l w):=by
 have R:=Hq L;have S:=Hq M;have u:=Hq (fun h w' I=>aX (P:=P) (l:=l) (w:=w) (w':=w') h I);have m:=Hq (fun k hk n h w' I=>Vy (P:=P) (l:=l) (w:=w) (w':=w') (k:=k) hk n h I);generalize Ib P l w=Q at u m ⊢;clear L M;go_enter Tryz.func203,Tryz.ntmps203;go_wp2_with fail
 go_loopw [8] (fun i wr=>∃ k:Nat,k≤l.length∧i= .int .i64 k∧(∀ j (v:j<l.length),j<k→¬ P l[j])∧Bw w wr) (fun i _=>l.length-(intOf i).toNat)
 case atStart=>exact⟨0,Nat.zero_le _,rfl,fun _ _ h=>absurd h (by omega),Below.refl _ _⟩
 case round=>
  obtain⟨k,hk,rfl,o,d⟩:=hrel;have C:=Hq o;clear o
  by_cases p:k<l.length
  ·obtain⟨b,off,rfl,y,T,a⟩:=Cb Eb (R.out.below d) p
   have N:=Hq (fun n=>m.out k p n C.out);have O:=Hq (show ¬ P l[k]→∀ j (v:j<l.length),j<k+1→¬ P l[j]from fun h j v J=>by
    rcases Nat.lt_or_eq_of_le (Nat.le_of_lt_succ J)with h1|h1
    ·exact C.out j v h1
    ·subst h1;exact h)
   have r:=S.out l[k] (List.getElem_mem p) wr d;generalize l[k]=x at a N O r;obtain⟨D,E,F,G,H⟩:=x;have f:=Hq (show wr.rangeAt b (off+k*5) [.int .i64 D,.string E,.int .i64 F,.bool G,.int .i64 H]from a);have s:=Hq r;clear a C r;dsimp only[Fw]at s;have U:(0:Int)≤(k:Int):=(by omega);have V:(k:Int)<(l.length:Int):=(by omega);have X:IntKind.i64.wrap ((k:Int)+1)=(k:Int)+1:=IntWalk.i64_in _ (by omega)
   by_cases n:P ⟨D,E,F,G,H⟩
   ·have z:=Hq n
    clear n y
    go_wp2_with(first
     |with_reducible refine wpList_load_mid rfl 125 (.tmp 14) rfl b (off+k*5) rfl [.int .i64 D,.string E,.int .i64 F,.bool G,.int .i64 H] _ f.out Ha Kr Kr ?_
     |(go_at_fn g;(with_reducible refine s.out.mono ?_);rintro e Y ⟨q,rfl,B,t⟩;obtain rfl:q=true:=B.2 z.out;clear B))
    exact N.out z.out _ (Af d t)
   ·have z:=Hq n
    clear n y
    go_wp2_with(first
     |with_reducible refine wpList_load_mid rfl 125 (.tmp 14) rfl b (off+k*5) rfl [.int .i64 D,.string E,.int .i64 F,.bool G,.int .i64 H] _ f.out Ha Kr Kr ?_
     |(go_at_fn g;(with_reducible refine s.out.mono ?_);rintro e Y ⟨q,rfl,B,t⟩;obtain rfl:q=false:=(by cases q with|true=>exact absurd (B.1 rfl) z.out|false=>rfl);clear B))
    go_roundw
    case rel=>exact⟨k+1,by omega,by go_num,O.out z.out,Af d t⟩
    case measure=>simp[intOf];omega
  ·have Z:=Hq (u.out (fun j v=>C.out j v (by omega)) _ d)
   go_wp2_with fail;exact Z.out
abbrev nK (t:Rc.Bc):Array Value:=#[t.txn,t.last,t.next,t.done]
theorem eF (P:Rc.Bc→Prop)(g:Nat)(J:Array Value)(Z:∀ args w,(callFunc g args).run Tryz.prog w= .ok (.enter g args) w)(l:List Rc.Bc)(hl:l.length≤140737488355328)(A:Option Addr)(c:Nat)(w:World)(K:Reads w A c l.length (l.flatMap F7))
 (L:∀ x∈l,∀ W,Bw w W→Cq g (#[.agg (nK x)]++J) W (Mp (P x) W)):
 Cq 125 #[.slice A l.length c,.func (.func g) #[] J] w (Ib P l w):=by
 have O:=Hq K;have R:=Hq L;have u:=Hq (fun h w' H=>aX (P:=P) (l:=l) (w:=w) (w':=w') h H);have m:=Hq (fun k hk n h w' H=>Vy (P:=P) (l:=l) (w:=w) (w':=w') (k:=k) hk n h H);generalize Ib P l w=Q at u m ⊢;clear K L;go_enter Tryz.func125,Tryz.ntmps125;go_wp2_with fail
 go_loopw [8] (fun i wr=>∃ k:Nat,k≤l.length∧i= .int .i64 k∧(∀ j (v:j<l.length),j<k→¬ P l[j])∧Bw w wr) (fun i _=>l.length-(intOf i).toNat)
 case atStart=>exact⟨0,Nat.zero_le _,rfl,fun _ _ h=>absurd h (by omega),Below.refl _ _⟩
 case round=>
  obtain⟨k,hk,rfl,o,d⟩:=hrel;have C:=Hq o;clear o
  by_cases p:k<l.length
  ·obtain⟨b,off,rfl,y,S,a⟩:=Cb Dn (O.out.below d) p
   have M:=Hq (fun n=>m.out k p n C.out);have N:=Hq (show ¬ P l[k]→∀ j (v:j<l.length),j<k+1→¬ P l[j]from fun h j v I=>by
    rcases Nat.lt_or_eq_of_le (Nat.le_of_lt_succ I)with h1|h1
    ·exact C.out j v h1
    ·subst h1;exact h)
   have r:=R.out l[k] (List.getElem_mem p) wr d;generalize l[k]=x at a M N r;obtain⟨D,E,F,G⟩:=x;have f:=Hq (show wr.rangeAt b (off+k*4) [.int .i64 D,.int .i64 E,.int .i64 F,.bool G]from a);have s:=Hq r;clear a C r;dsimp only[nK]at s;have T:(0:Int)≤(k:Int):=(by omega);have U:(k:Int)<(l.length:Int):=(by omega);have V:IntKind.i64.wrap ((k:Int)+1)=(k:Int)+1:=IntWalk.i64_in _ (by omega)
   by_cases n:P ⟨D,E,F,G⟩
   ·have z:=Hq n
    clear n y
    go_wp2_with(first
     |with_reducible refine wpList_load_mid rfl 107 (.tmp 14) rfl b (off+k*4) rfl [.int .i64 D,.int .i64 E,.int .i64 F,.bool G] _ f.out Zm Kr Kr ?_
     |(go_at_fn g;(with_reducible refine s.out.mono ?_);rintro e X ⟨q,rfl,B,t⟩;obtain rfl:q=true:=B.2 z.out;clear B))
    exact M.out z.out _ (Af d t)
   ·have z:=Hq n
    clear n y
    go_wp2_with(first
     |with_reducible refine wpList_load_mid rfl 107 (.tmp 14) rfl b (off+k*4) rfl [.int .i64 D,.int .i64 E,.int .i64 F,.bool G] _ f.out Zm Kr Kr ?_
     |(go_at_fn g;(with_reducible refine s.out.mono ?_);rintro e X ⟨q,rfl,B,t⟩;obtain rfl:q=false:=(by cases q with|true=>exact absurd (B.1 rfl) z.out|false=>rfl);clear B))
    go_roundw
    case rel=>exact⟨k+1,by omega,by go_num,N.out z.out,Af d t⟩
    case measure=>simp[intOf];omega
  ·have Y:=Hq (u.out (fun j v=>C.out j v (by omega)) _ d)
   go_wp2_with fail;exact Y.out
theorem Tv (l:List Fr)(q:l.length≤1000000)(A:Option Addr)(c:Nat)(w:World)(a:Reads w A c l.length (l.flatMap Kx)):
 Cq 169 #[.slice A l.length c] w fun e w'=>∃ v,e= .returned v∧D7 Kx 5 125 w.heap.size w' v l∧Bw w w':=by
 obtain⟨i0,k,d,f,g⟩:=info_parts Xv;have m:=Hq a
 cases A with
 |none=>
  have h:l=[]:=by
   rcases Nat.eq_zero_or_pos l.length with h0|h0
   ·exact List.eq_nil_of_length_eq_zero h0
   ·obtain⟨b,off,e,_⟩:=a h0
    cases e
  subst h;clear a m;have n:∀ w,(binOp .eql 31 (.slice none 0 c) (.slice none 0 0)).run Tryz.prog w= .ok (.bool true) w:=fun w=>Lib.run_eql_slice_nil w 31 125 none 0 c 0 0 tA;simp only[List.length_nil];go_enter Tryz.func169,Tryz.ntmps169;go_wp2_with fail;go_ret;exact⟨_,rfl,Pu _ _ _ _,Below.refl _ _⟩
 |some ad=>
  have i:=Hq (a.below (Ac w (.cells #[] 125)));have n:∀ w,(binOp .eql 31 (.slice (some ad) l.length c) (.slice none 0 0)).run Tryz.prog w= .ok (.bool false) w:=fun w=>Lib.run_eql_slice_nil w 31 125 (some ad) l.length c 0 0 tA;clear a;go_enter Tryz.func169,Tryz.ntmps169
  go_wp2_with(at_builtin;refine Db Kr fun K o=>Js (w.alloc (.cells #[] 125)) (.tmp 5) (.tmp 6) 31 125 i0 (.agg #[(),"",(),false,()]) 5 48 tA k d f g rfl (by omega) rfl w.heap.size _ 0 [] rfl (Kg w 125 5) (some ad) l.length c (l.flatMap Kx) rfl i.out (by rw[Ce Eb]) (gR l) (by omega) (by omega) (by simp) ?_;intro v2 r j s p;refine o _ _ ?_)
  go_ret;rw[List.nil_append,Nat.zero_add]at j;exact⟨_,rfl,j,(Ac w (.cells #[] 125)).trans p⟩
end Go.Proofs.YtpogpkonojhakaaGreatDoor
