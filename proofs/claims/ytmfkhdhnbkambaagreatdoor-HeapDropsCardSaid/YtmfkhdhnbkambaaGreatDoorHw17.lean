import Derived.Test.YtmfkhdhnbkambaaGreatDoorHw00
import Derived.Test.YtmfkhdhnbkambaaGreatDoorCards
import Derived.Test.YtmfkhdhnbkambaaGreatDoorTie
import Derived.Test.YtmfkhdhnbkambaaGreatDoorHw01
import Derived.Test.YtmfkhdhnbkambaaGreatDoorHw15
import Derived.Deep.DeepHandedRow
import Derived.Deep.DeepWitnessRowRef
import Derived.Lib.LaidTab
import Derived.Stop.LaidErr
import Derived.LaidMore
import Derived.LaidLaws
import Derived.Test.YtmfkhdhnbkambaaGreatDoorHw06
import Derived.Deep.Slices
set_option maxRecDepth 100000
set_option maxHeartbeats 16000000
set_option linter.unusedSimpArgs false
namespace Go.Proofs.YtmfkhdhnbkambaaGreatDoor
open Go.ChangeShapes Go.WideShapes Go.ChangeAt Go.RowKit
def laidAll {H:Type}:List (String×DataW H):=[("math/bits.deBruijn32tab",Rows.laid_math_bits_deBruijn32tab),("math/bits.deBruijn64tab",Rows.laid_math_bits_deBruijn64tab),("internal/strconv.uint64pow10",Rows.laid_internal_strconv_uint64pow10),("strconv.ErrRange",Rows.laid_strconv_ErrRange),("strconv.ErrSyntax",Rows.laid_strconv_ErrSyntax)]
theorem tM:(Tryz.prog.globals[0]?).map (·.type)=some 255:=by kernel_rfl
theorem tN:(Tryz.prog.globals[1]?).map (·.type)=some 191:=by kernel_rfl
theorem tO:(Tryz.prog.globals[2]?).map (·.type)=some 191:=by kernel_rfl
theorem qF:Tryz.prog.cellsOf 255=20:=by kernel_rfl
theorem lQ:Tryz.prog.cellsOf 160=1:=by kernel_rfl
theorem star: "*"++ "errors.errorString"= "*errors.errorString":=by decide
theorem qG (u:TypeId)(h:Tryz.prog.typeName? 3 u=some "*errors.errorString"):u=283:=
 typeName_ptr_named (nm:= "errors.errorString") (by rw[star];kernel_rfl) Kr (by decide) u (by rw[star];exact h)
theorem aP:Tryz.prog.cellsOf 285=1:=by kernel_rfl
theorem aQ:Tryz.prog.cellsOf 9=1:=by kernel_rfl
theorem vU {W:World}{nm:String}{i:Nat}{v:Array Value}(b:Tryz.prog.globalNamed nm=some i)(h:W.var? Tryz.prog nm=some v):i<W.heap.size:=by
 unfold World.var? at h;simp only[b,Option.bind_some]at h;rcases Nat.lt_or_ge i W.heap.size with a|hge
 ·exact a
 ·rw[Array.getElem?_eq_none hge]at h;cases h
theorem vars_of_laid {W:World}(h:laidMet Tryz.prog laidAll W):Gl W:=by
 have c:∃ d p,W.var? Tryz.prog "strconv.ErrRange"=some #[.iface d p]:=by
  obtain⟨a,s,b,_⟩:=laid_sentinel h.tail.tail.tail vP tO nE qG uG uH rfl rfl bM aP aQ;exact⟨_,_,b⟩
 have e:2<W.heap.size:=by obtain⟨_,_,b⟩:=c;exact vU vP b
 refine⟨?_,?_,c,e⟩
 ·have f:=h.tail.tail
  exact Lib.tabIs_of_head xN tM uF nD lQ qF f
 ·obtain⟨a,s,b,_⟩:=laid_sentinel h.tail.tail.tail.tail xO tN nE qG uG uH rfl rfl bM aP aQ
  exact⟨_,_,b⟩
theorem laid_met (os:Os)(args:Array Value):laidMet Tryz.prog laidAll ((World.doorLaid Tryz.prog 334 os).forCall (fun _ _=>0) ⟨#[],args,[]⟩).memory:=
 laidMet_of_run' 8 Kr Kr
end Go.Proofs.YtmfkhdhnbkambaaGreatDoor
namespace Lg
end Lg
namespace Go.Proofs.YtmfkhdhnbkambaaGreatDoor
open Go.RowKit
structure yI where
 r:Rc.Rec
 A:Option Addr
 c:Nat
 B:Option Addr
 d:Nat
open Go.ChangeShapes Go.WideShapes Go.ChangeAt
theorem vV:Tryz.prog.cellsOf 3=1:=by kernel_rfl
theorem vW {w:World}{a:Addr}{v:Value}(h:w.cell? a=some v):a=⟨a.block,a.off,none⟩∧a.block<w.heap.size:=by
 obtain⟨b,off,sp⟩:=a;unfold World.cell? at h
 cases d:w.heap[b]? with
 |none=>simp[d]at h
 |some o=>
  have e:b<w.heap.size:=(Array.getElem?_eq_some_iff.1 d).1
  cases o with
  |cells c t f=>
   simp only[d]at h
   cases sp with
   |none=>exact⟨rfl,e⟩
   |some x=>simp at h
  |_=>simp[d]at h
def Vt {H:Type}(t:TypeId)(d:DataW H):Prop:=∀ n∈DataW.weights Tryz.prog t d,n≤reachBytes
theorem light_of {H:Type}{a:List TypeId}{b:List (DataW H)}{j:Nat}{t:TypeId}{d:DataW H}(h:(DataW.weightsEach Tryz.prog a b).all (·≤reachBytes)=true)(c:a[j]? =some t)(e:b[j]? =some d):Vt t d:=fun n f=>by
 have:=List.all_eq_true.1 h _ (DataW.weights_mem_each c e n f)
 simpa using this
theorem Q7 {H:Type}{P:Program}{e:TypeId}{d:DataW H}{n:Nat}(b:n∈DataW.weights P e d):∀ {l:List (DataW H)},d∈l→n∈DataW.weightsAll P e l:=by
 intro l
 induction l with
 |nil=>intro h;cases h
 |cons a l c=>
  intro h;unfold DataW.weightsAll;rcases List.mem_cons.1 h with h1|h1
  ·subst h1;exact List.mem_append_left _ b
  ·exact List.mem_append_right _ (c h1)
section
variable {H : Type} {enc : TypeId × Value → H} {w : World} {base : Nat} {spare : Nat → Bool} {held : Bool}
theorem qH {α:Type}[Inhabited α]{en:α→List Value}{k:Nat}(hk:∀ x,(en x).length=k)(g:0<k){t e:TypeId}(z:Tryz.prog.underlying t=some (.slice e))(B:Tryz.prog.cellsOf e=k)(C:1≤Tryz.prog.bytesOf e){Q:α→Prop}
 (T:∀ (fuel:Nat) (cs:List Value) (x:DataW H×List MemPlace),DataW.trod enc Tryz.prog w base spare held fuel e cs=some x→Vt e x.1→∃ o,cs=en o∧Q o)
 {fuel:Nat} {cs:List Value} {x:DataW H×List MemPlace} (E:Vt t x.1) (h:DataW.trod enc Tryz.prog w base spare held fuel t cs=some x):
 ∃ (A:Option Addr) (c:Nat) (l:List α),cs=[.slice A l.length c]∧Reads w A c l.length (l.flatMap en)∧(∀ o∈l,Q o)∧l.length≤140737488355328:=by
 rcases Deep.open_slice z h with⟨b,_⟩|⟨r,len',s,m,n,D,Pl,b,hb,U,hm,F,V,a⟩
 ·exact⟨none,0,[],b,Reads.none_ _ _ _ _,(fun _ h=>by cases h),Nat.zero_le _⟩
 ·have W:len'≤m:=by rw[F];split<;>omega
  rw[B]at a;rw[V]at E;have hlen:len'≤140737488355328:=by
   have G:=E _ (by unfold DataW.weights;rw[z];exact List.mem_cons_self ..);rw[List.length_map,List.length_range]at G;have R:=reachBytes_lt;have S:=Nat.le_mul_of_pos_right (len'+(List.map (fun j=>D (len'+j)) (List.range (m-len'))).length) C;omega
  have I:∀ i,i<len'→Vt e (D i):=fun i d X J=>E X (by
   unfold DataW.weights;rw[z];exact List.mem_cons_of_mem _ (List.mem_append_left _ (Q7 J (List.mem_map.2 ⟨i,List.mem_range.2 d,rfl⟩))))
  obtain⟨f,K⟩:=Deep.choose_lt (α:=α) (n:=len') (p:=fun i o=>(∀ q u,(en o)[q]? =some u→w.cell? ((r.add (i*k)).add q)=some u)∧Q o) (fun i d=>by
   obtain⟨Y,G,R⟩:=a i (by omega);obtain⟨o,rfl,Z⟩:=T _ _ _ R (I i d);obtain⟨_,_,S⟩:=World.cells?_some G;refine⟨o,fun q u v=>?_,Z⟩;have L:q<k:=(by have:=(List.getElem?_eq_some_iff.1 v).1;rw[hk]at this;exact this);rw[S q L];exact v)
  refine⟨some r,s,(List.range len').map f,by rw[b];simp,?_,?_,by simpa using hlen⟩
  ·intro h0
   have M:0<len':=(by simpa using h0);obtain⟨u,hu⟩:∃ u,(en (f 0))[0]? =some u:=⟨_,List.getElem?_eq_getElem (by rw[hk];exact g)⟩;have hz:=(K 0 M).1 0 u hu;have N:w.cell? r=some u:=(by simpa[Addr.add]using hz);obtain⟨y,O⟩:=vW N;refine⟨r.block,r.off,by rw[← y],by simpa using U,O,fun j u P=>?_⟩;have a1:j<len'*k:=by
    have:=(List.getElem?_eq_some_iff.1 P).1;rw[Co hk]at this
    simpa using this
   obtain⟨q,i,d,rfl⟩:∃ q i,i<k∧j=q*k+i:=⟨j/k,j%k,Nat.mod_lt _ g,by rw[Nat.mul_comm];exact(Nat.div_add_mod j k).symm⟩;have v:q<len':=by
    rcases Nat.lt_or_ge q len' with h5|h5
    ·exact h5
    ·have:=Nat.mul_le_mul_right k h5;omega
   rw[Jt hk _ q i (by simpa using v) d]at P;have h5:=(K q v).1 i u (by simpa using P);rw[y,Addr.add_mid,Addr.add_mid]at h5;rw[← Nat.add_assoc];exact h5
  ·intro o ho
   obtain⟨i,d,rfl⟩:=List.mem_map.1 ho;exact(K i (List.mem_range.1 d)).2
instance:Inhabited Rc.Be:=⟨⟨0,0,0,false⟩⟩
instance:Inhabited Rc.Bx:=⟨⟨0,0⟩⟩
instance:Inhabited yI:=⟨⟨⟨0,0,0,0,0,0,0,⟨0,0,⟨#[]⟩,⟨#[]⟩⟩,0,0,⟨⟨#[]⟩,0,0⟩,[],[]⟩,none,0,none,0⟩⟩
end
end Go.Proofs.YtmfkhdhnbkambaaGreatDoor
