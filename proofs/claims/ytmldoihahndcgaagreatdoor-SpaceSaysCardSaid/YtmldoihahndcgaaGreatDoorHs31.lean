import Derived.Test.YtmldoihahndcgaaGreatDoorHs00
import Derived.Test.YtmldoihahndcgaaGreatDoorCards
import Derived.Test.YtmldoihahndcgaaGreatDoorTie
import Derived.Test.YtmldoihahndcgaaGreatDoorHs01
import Derived.Test.YtmldoihahndcgaaGreatDoorHs30
import Derived.Deep.Slices
import Derived.Deep.DeepHandedRow
import Derived.Deep.DeepWitnessRowRef
import Derived.LaidMore
import Derived.LaidLaws
set_option maxRecDepth 100000
set_option maxHeartbeats 16000000
set_option linter.unusedSimpArgs false
namespace Go.Proofs.YtmldoihahndcgaaGreatDoor
open Go.ChangeShapes Go.WideShapes Go.ChangeAt Go.RowKit
def laidAll {H:Type}:List (String×DataW H):=[("math/bits.deBruijn32tab",Rows.laid_math_bits_deBruijn32tab),("math/bits.deBruijn64tab",Rows.laid_math_bits_deBruijn64tab),("internal/strconv.uint64pow10",Rows.laid_internal_strconv_uint64pow10),("strconv.ErrRange",Rows.laid_strconv_ErrRange),("strconv.ErrSyntax",Rows.laid_strconv_ErrSyntax)]
theorem laid_met (os:Os)(args:Array Value):laidMet Tryz.prog laidAll ((World.doorLaid Tryz.prog 393 os).forCall (fun _ _=>0) ⟨#[],args,[]⟩).memory:=
 laidMet_of_run' 8 Kr Kr
theorem u8_nat {n:Int}(h:(Lit.int .u8 n).wf=true):∃ x:Nat,n=(x:Int)∧x<256:=by
 have a:=bounds_u8 h;exact⟨n.toNat,by omega,by omega⟩
theorem dW:∃ f0 f1:Field,Tryz.prog.underlying 43=some (.struct #[f0,f1])∧(f0.offset=0∧f1.offset=1)∧f0.type=4∧f1.type=3:=⟨_,_,vF,⟨rfl,rfl⟩,rfl,rfl⟩
theorem Vc:Tryz.prog.cellsOf 43=2:=by kernel_rfl
theorem qT:Tryz.prog.cellsOf 4=1:=by kernel_rfl
theorem qU:Tryz.prog.cellsOf 3=1:=by kernel_rfl
theorem tT {α:Type}{l:List α}(h:l.length=2):∃ a b,l=[a,b]:=by
 match l,h with
 |[a,b],_=>exact⟨a,b,rfl⟩
section
variable {H : Type} {enc : TypeId × Value → H} {w : World} {base : Nat} {spare : Nat → Bool} {held : Bool}
theorem oP {fuel:Nat}{cs:List Value}{x:DataW H×List MemPlace}(h:DataW.trod enc Tryz.prog w base spare held fuel 43 cs=some x):∃ o:sE,cs=kO o:=by
 obtain⟨f0,f1,f,⟨g,o1⟩,t0,t1⟩:=dW;obtain⟨k,l,n,m,a,b,c⟩:=trod_struct2 f h;rw[Vc]at a;obtain⟨c0,c1,rfl⟩:=tT a;rw[g,t0,qT]at b;rw[o1,t1,qU]at c;obtain⟨i,d,_⟩:=DataW.trod_bool uK b;obtain⟨j,e,_,_⟩:=DataW.trod_int uV c
 simp at d e
 exact⟨⟨i,j⟩,by rw[d,e];rfl⟩
theorem Wu {w:World}{a:Addr}{v:Value}(h:w.cell? a=some v):a=⟨a.block,a.off,none⟩∧a.block<w.heap.size:=by
 obtain⟨b,off,sp⟩:=a;unfold World.cell? at h
 cases d:w.heap[b]? with
 |none=>simp[d]at h
 |some o=>
  have e:b<w.heap.size:=(Array.getElem?_eq_some_iff.1 d).1
  cases o with
  |cells c t f=>
   simp only[d]at h
   cases sp with
   |none=>exact⟨rfl,e⟩
   |some x=>simp at h
  |_=>simp[d]at h
theorem open_sacs {r:Reach}{J:Nat}{v:Value}{d:DataW H}{K:List MemPlace}(g:Value.okWide Tryz.prog w r J 22 v)(L:DataW.Trod enc Tryz.prog w base (fun _=>true) held 22 v d K):
 ∃ (A:Option Addr) (c:Nat) (l:List sE),v= .slice A l.length c∧Reads w A c l.length (l.flatMap kO):=by
 obtain⟨a,len,cap,rfl⟩:=okWide_slice uJ g;obtain⟨fuel,s⟩:=L;rcases Deep.open_slice uJ s with⟨b,_⟩|⟨k,len',cap',m,n,D,V,b,W,M,X,t,N,h⟩
 ·have e:Value.slice a len cap= .slice none 0 0:=by simpa[Value.cells]using b
  rw[e];exact⟨none,0,[],rfl,Reads.none_ _ _ _ _⟩
 ·have e:Value.slice a len cap= .slice (some k) len' cap':=by simpa[Value.cells]using b
  rw[e];clear e b g s N;rw[if_pos rfl]at t;subst t;rw[Vc]at h
  haveI:Inhabited sE:=⟨⟨false,0⟩⟩
  obtain⟨f,s⟩:=Deep.choose_lt (α:=sE) (n:=len') (p:=fun i o=>∀ q u,(kO o)[q]? =some u→w.cell? ((k.add (i*2)).add q)=some u) (fun i G=>by
   obtain⟨O,P,Q⟩:=h i (by omega);obtain⟨o,rfl⟩:=oP Q;obtain⟨_,_,R⟩:=World.cells?_some P;refine⟨o,fun q u x=>?_⟩;have z:q<2:=(by have:=(List.getElem?_eq_some_iff.1 x).1;simpa[kO]using this);rw[R q z];exact x)
  refine⟨some k,m,(List.range len').map f,by simp,?_⟩;intro S;have B:0<len':=by simpa using S
  have T:=s 0 B 0 _ rfl;have C:w.cell? k=some (.bool (f 0).fr):=by simpa[Addr.add]using T
  obtain⟨y,E⟩:=Wu C;refine⟨k.block,k.off,by rw[← y],by simpa using M,E,fun j u F=>?_⟩;have U:j<len'*2:=by
   have:=(List.getElem?_eq_some_iff.1 F).1;rw[Cc Ti]at this
   simpa using this
  obtain⟨q,i,G,rfl⟩:∃ q i,i<2∧j=q*2+i:=⟨j/2,j%2,Nat.mod_lt _ (by omega),by omega⟩;have x:q<len':=by omega
  rw[Ih Ti _ q i (by simpa using x) G]at F;have I:=s q x i u (by simpa using F);rw[y,Addr.add_mid,Addr.add_mid]at I;rw[← Nat.add_assoc];exact I
end
end Go.Proofs.YtmldoihahndcgaaGreatDoor
