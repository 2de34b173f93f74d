import Derived.Test.YtmldoihahndcgaaGreatDoorHq00
import Derived.Test.YtmldoihahndcgaaGreatDoorCards
import Derived.Test.YtmldoihahndcgaaGreatDoorTie
import Derived.Test.YtmldoihahndcgaaGreatDoorHq01
import Derived.Test.YtmldoihahndcgaaGreatDoorHq14
import Derived.Deep.DeepHandedRow
import Derived.Deep.DeepWitnessRowRef
import Derived.Lib.LaidTab
import Derived.Stop.LaidErr
import Derived.LaidMore
import Derived.LaidLaws
import Derived.Test.YtmldoihahndcgaaGreatDoorHq06
import Derived.Deep.Slices
import Derived.Test.YtmldoihahndcgaaGreatDoorHq10
import Derived.Test.YtmldoihahndcgaaGreatDoorHq13
set_option maxRecDepth 100000
set_option maxHeartbeats 16000000
set_option linter.unusedSimpArgs false
namespace Go.Proofs.YtmldoihahndcgaaGreatDoor
open Go.ChangeShapes Go.WideShapes Go.ChangeAt Go.RowKit
def laidAll {H:Type}:List (String×DataW H):=[("math/bits.deBruijn32tab",Rows.laid_math_bits_deBruijn32tab),("math/bits.deBruijn64tab",Rows.laid_math_bits_deBruijn64tab),("internal/strconv.uint64pow10",Rows.laid_internal_strconv_uint64pow10),("strconv.ErrRange",Rows.laid_strconv_ErrRange),("strconv.ErrSyntax",Rows.laid_strconv_ErrSyntax)]
theorem rI:(Tryz.prog.globals[1]?).map (·.type)=some 279:=by kernel_rfl
theorem rJ:(Tryz.prog.globals[4]?).map (·.type)=some 166:=by kernel_rfl
theorem rK:(Tryz.prog.globals[5]?).map (·.type)=some 166:=by kernel_rfl
theorem nZ:Tryz.prog.cellsOf 279=20:=by kernel_rfl
theorem jM:Tryz.prog.cellsOf 200=1:=by kernel_rfl
theorem star:"*"++"errors.errorString"="*errors.errorString":=by decide
theorem oC (u:TypeId)(h:Tryz.prog.typeName? 3 u=some "*errors.errorString"):u=302:=
 typeName_ptr_named (nm:="errors.errorString") (by rw[star];kernel_rfl) Kr (by decide) u (by rw[star];exact h)
theorem Zn:Tryz.prog.cellsOf 304=1:=by kernel_rfl
theorem Zo:Tryz.prog.cellsOf 9=1:=by kernel_rfl
theorem uG {W:World}{nm:String}{i:Nat}{v:Array Value}(b:Tryz.prog.globalNamed nm=some i)(h:W.var? Tryz.prog nm=some v):i<W.heap.size:=by
 unfold World.var? at h;simp only[b,Option.bind_some]at h;rcases Nat.lt_or_ge i W.heap.size with a|hge
 ·exact a
 ·rw[Array.getElem?_eq_none hge]at h;cases h
theorem vars_of_laid {W:World}(h:laidMet Tryz.prog laidAll W):Gf W:=by
 have c:∃ d p,W.var? Tryz.prog "strconv.ErrRange"=some #[.iface d p]:=by
  obtain⟨a,s,b,_⟩:=laid_sentinel h.tail.tail.tail tX rK kO oC sM sO rfl rfl W9 Zn Zo;exact⟨_,_,b⟩
 have e:5<W.heap.size:=by obtain⟨_,_,b⟩:=c;exact uG tX b
 refine⟨?_,?_,c,e⟩
 ·have f:=h.tail.tail
  exact Lib.tabIs_of_head vT rI sL dX jM nZ f
 ·obtain⟨a,s,b,_⟩:=laid_sentinel h.tail.tail.tail.tail vU rJ kO oC sM sO rfl rfl W9 Zn Zo
  exact⟨_,_,b⟩
theorem laid_met (os:Os)(args:Array Value):laidMet Tryz.prog laidAll ((World.doorLaid Tryz.prog 393 os).forCall (fun _ _=>0) ⟨#[],args,[]⟩).memory:=
 laidMet_of_run' 8 Kr Kr
end Go.Proofs.YtmldoihahndcgaaGreatDoor
namespace Lg
end Lg
namespace Go.Proofs.YtmldoihahndcgaaGreatDoor
open Go.RowKit
structure jN where
 r:Rc.Rec
 A:Option Addr
 c:Nat
 B:Option Addr
 d:Nat
def recC (p:jN):List Value:=[.int .i64 p.r.lsn,.int .i64 p.r.prev,.int .i64 p.r.txn,.int .i64 p.r.kind,.int .i64 p.r.page,.int .i64 p.r.next,.int .i64 p.r.num,.int .i64 p.r.op.kind,.int .i64 p.r.op.slot,.string p.r.op.Bd,.string p.r.op.new,.int .i64 p.r.how,.int .i64 p.r.root,.string p.r.e.key,.int .i64 p.r.e.page,.int .i64 p.r.e.slot,.slice p.A p.r.txns.length p.c,.slice p.B p.r.dirty.length p.d]
abbrev fE (w:World)(p:jN):Prop:=Iy w p.r p.A p.c p.B p.d
open Go.ChangeShapes Go.WideShapes Go.ChangeAt
theorem Tg:Tryz.prog.cellsOf 9=1:=by kernel_rfl
theorem Es:Tryz.prog.cellsOf 3=1:=by kernel_rfl
theorem uH:Tryz.prog.cellsOf 4=1:=by kernel_rfl
theorem Oy:Tryz.prog.cellsOf 83=4:=by kernel_rfl
theorem fF:Tryz.prog.cellsOf 85=3:=by kernel_rfl
theorem rL:Tryz.prog.cellsOf 60=2:=by kernel_rfl
theorem fG:Tryz.prog.cellsOf 134=4:=by kernel_rfl
theorem fH:Tryz.prog.cellsOf 94=2:=by kernel_rfl
theorem rM:Tryz.prog.cellsOf 34=1:=by kernel_rfl
theorem rN:Tryz.prog.cellsOf 86=1:=by kernel_rfl
theorem fI:Tryz.prog.cellsOf 88=18:=by kernel_rfl
theorem Zp:∃ f0 f1 f2 f3:Field,Tryz.prog.underlying 83=some (.struct #[f0,f1,f2,f3])∧(f0.offset=0∧f1.offset=1∧f2.offset=2∧f3.offset=3)∧f0.type=3∧f1.type=3∧f2.type=9∧f3.type=9:=⟨_,_,_,_,gF,⟨rfl,rfl,rfl,rfl⟩,rfl,rfl,rfl,rfl⟩
theorem oD:∃ f0 f1:Field,Tryz.prog.underlying 85=some (.struct #[f0,f1])∧(f0.offset=0∧f1.offset=1)∧f0.type=9∧f1.type=60:=⟨_,_,wE,⟨rfl,rfl⟩,rfl,rfl⟩
theorem oE:∃ f0 f1:Field,Tryz.prog.underlying 60=some (.struct #[f0,f1])∧(f0.offset=0∧f1.offset=1)∧f0.type=3∧f1.type=3:=⟨_,_,wD,⟨rfl,rfl⟩,rfl,rfl⟩
theorem oF:∃ f0 f1 f2 f3:Field,Tryz.prog.underlying 134=some (.struct #[f0,f1,f2,f3])∧(f0.offset=0∧f1.offset=1∧f2.offset=2∧f3.offset=3)∧f0.type=3∧f1.type=3∧f2.type=3∧f3.type=4:=⟨_,_,_,_,lX,⟨rfl,rfl,rfl,rfl⟩,rfl,rfl,rfl,rfl⟩
theorem oG:∃ f0 f1:Field,Tryz.prog.underlying 94=some (.struct #[f0,f1])∧(f0.offset=0∧f1.offset=1)∧f0.type=3∧f1.type=3:=⟨_,_,tG,⟨rfl,rfl⟩,rfl,rfl⟩
theorem Zq:∃ f0 f1 f2 f3 f4 f5 f6 f7 f8 f9 f10 f11 f12:Field,Tryz.prog.underlying 88=some (.struct #[f0,f1,f2,f3,f4,f5,f6,f7,f8,f9,f10,f11,f12])∧
 (f0.offset=0∧f1.offset=1∧f2.offset=2∧f3.offset=3∧f4.offset=4∧f5.offset=5∧f6.offset=6∧f7.offset=7∧f8.offset=11∧f9.offset=12∧f10.offset=13∧f11.offset=16∧f12.offset=17)∧
 (f0.type=3∧f1.type=3∧f2.type=3∧f3.type=3∧f4.type=3∧f5.type=3∧f6.type=3∧f7.type=83∧f8.type=3∧f9.type=3∧f10.type=85∧f11.type=34∧f12.type=86):=
 ⟨_,_,_,_,_,_,_,_,_,_,_,_,_,Ds,⟨rfl,rfl,rfl,rfl,rfl,rfl,rfl,rfl,rfl,rfl,rfl,rfl,rfl⟩,⟨rfl,rfl,rfl,rfl,rfl,rfl,rfl,rfl,rfl,rfl,rfl,rfl,rfl⟩⟩
theorem uI {α:Type}{l:List α}(h:l.length=2):∃ a b,l=[a,b]:=by
 match l,h with
 |[a,b],_=>exact⟨a,b,rfl⟩
theorem uJ {α:Type}{l:List α}(h:l.length=3):∃ a b c,l=[a,b,c]:=by
 match l,h with
 |[a,b,c],_=>exact⟨a,b,c,rfl⟩
theorem dA {α:Type}{l:List α}(h:l.length=4):∃ a b c d,l=[a,b,c,d]:=by
 match l,h with
 |[a,b,c,d],_=>exact⟨a,b,c,d,rfl⟩
theorem uK {α:Type}{l:List α}(h:l.length=18):∃ a0 a1 a2 a3 a4 a5 a6 a7 a8 a9 b0 b1 b2 b3 b4 b5 b6 b7,l=[a0,a1,a2,a3,a4,a5,a6,a7,a8,a9,b0,b1,b2,b3,b4,b5,b6,b7]:=by
 match l,h with
 |[a0,a1,a2,a3,a4,a5,a6,a7,a8,a9,b0,b1,b2,b3,b4,b5,b6,b7],_=>exact⟨a0,a1,a2,a3,a4,a5,a6,a7,a8,a9,b0,b1,b2,b3,b4,b5,b6,b7,rfl⟩
theorem uL {w:World}{a:Addr}{v:Value}(h:w.cell? a=some v):a=⟨a.block,a.off,none⟩∧a.block<w.heap.size:=by
 obtain⟨b,off,sp⟩:=a;unfold World.cell? at h
 cases d:w.heap[b]? with
 |none=>simp[d]at h
 |some o=>
  have e:b<w.heap.size:=(Array.getElem?_eq_some_iff.1 d).1
  cases o with
  |cells c t f=>
   simp only[d]at h
   cases sp with
   |none=>exact⟨rfl,e⟩
   |some x=>simp at h
  |_=>simp[d]at h
def J3 {H:Type}(t:TypeId)(d:DataW H):Prop:=∀ n∈DataW.weights Tryz.prog t d,n≤reachBytes
theorem light_of {H:Type}{a:List TypeId}{b:List (DataW H)}{j:Nat}{t:TypeId}{d:DataW H}(h:(DataW.weightsEach Tryz.prog a b).all (·≤reachBytes)=true)(c:a[j]? =some t)(e:b[j]? =some d):J3 t d:=fun n f=>by
 have:=List.all_eq_true.1 h _ (DataW.weights_mem_each c e n f)
 simpa using this
theorem Q2 {H:Type}{P:Program}{e:TypeId}{d:DataW H}{n:Nat}(b:n∈DataW.weights P e d):∀ {l:List (DataW H)},d∈l→n∈DataW.weightsAll P e l:=by
 intro l
 induction l with
 |nil=>intro h;cases h
 |cons a l c=>
  intro h;unfold DataW.weightsAll;rcases List.mem_cons.1 h with h1|h1
  ·subst h1;exact List.mem_append_left _ b
  ·exact List.mem_append_right _ (c h1)
theorem rO:1≤Tryz.prog.bytesOf 134:=by decide+kernel
theorem rP:1≤Tryz.prog.bytesOf 94:=by decide+kernel
section
variable {H : Type} {enc : TypeId × Value → H} {w : World} {base : Nat} {spare : Nat → Bool} {held : Bool}
theorem Fs {t:TypeId}{fs:Array Field}{fuel:Nat}{cs:List Value}{x:DataW H×List MemPlace}(c:Tryz.prog.underlying t=some (.struct fs))(h:DataW.trod enc Tryz.prog w base spare held fuel t cs=some x):
 ∃ n,cs.length=Tryz.prog.cellsOf t∧∀ (i:Nat) (f:Field),fs[i]? =some f→∃ y,DataW.trod enc Tryz.prog w base spare held n f.type ((cs.drop f.offset).take (Tryz.prog.cellsOf f.type))=some y∧(J3 t x.1→J3 f.type y.1):=by
 obtain⟨xs,n,_,rfl,e,hlen,g⟩:=DataW.trod_struct c h;refine⟨n,e,fun i f b=>?_⟩;have a:i<xs.length:=by rw[hlen];exact(Array.getElem?_eq_some_iff.1 b).1
 refine⟨xs[i],by rw[g i f b,List.getElem?_eq_getElem a],fun k m l=>k m ?_⟩;unfold DataW.weights;rw[c];exact DataW.weights_mem_each (j:=i) (t:=f.type) (d:=xs[i].1) (by simp[b]) (by simp[a]) m l
theorem Th {α:Type}[Inhabited α]{en:α→List Value}{k:Nat}(z:∀ x,(en x).length=k)(g:0<k){t e:TypeId}(B:Tryz.prog.underlying t=some (.slice e))(C:Tryz.prog.cellsOf e=k)(E:1≤Tryz.prog.bytesOf e){Q:α→Prop}
 (U:∀ (fuel:Nat) (cs:List Value) (x:DataW H×List MemPlace),DataW.trod enc Tryz.prog w base spare held fuel e cs=some x→J3 e x.1→∃ o,cs=en o∧Q o)
 {fuel:Nat} {cs:List Value} {x:DataW H×List MemPlace} (F:J3 t x.1) (h:DataW.trod enc Tryz.prog w base spare held fuel t cs=some x):
 ∃ (A:Option Addr) (c:Nat) (l:List α),cs=[.slice A l.length c]∧Reads w A c l.length (l.flatMap en)∧(∀ o∈l,Q o)∧l.length≤140737488355328:=by
 rcases Deep.open_slice B h with⟨b,_⟩|⟨r,len',s,m,n,D,Pl,b,hb,V,hm,G,W,a⟩
 ·exact⟨none,0,[],b,Reads.none_ _ _ _ _,(fun _ h=>by cases h),Nat.zero_le _⟩
 ·have X:len'≤m:=by rw[G];split<;>omega
  rw[C]at a;rw[W]at F;have hlen:len'≤140737488355328:=by
   have I:=F _ (by unfold DataW.weights;rw[B];exact List.mem_cons_self ..);rw[List.length_map,List.length_range]at I;have S:=reachBytes_lt;have T:=Nat.le_mul_of_pos_right (len'+(List.map (fun j=>D (len'+j)) (List.range (m-len'))).length) E;omega
  have J:∀ i,i<len'→J3 e (D i):=fun i d Y K=>F Y (by
   unfold DataW.weights;rw[B];exact List.mem_cons_of_mem _ (List.mem_append_left _ (Q2 K (List.mem_map.2 ⟨i,List.mem_range.2 d,rfl⟩))))
  obtain⟨f,L⟩:=Deep.choose_lt (α:=α) (n:=len') (p:=fun i o=>(∀ q u,(en o)[q]? =some u→w.cell? ((r.add (i*k)).add q)=some u)∧Q o) (fun i d=>by
   obtain⟨Z,I,S⟩:=a i (by omega);obtain⟨o,rfl,hQ⟩:=U _ _ _ S (J i d);obtain⟨_,_,T⟩:=World.cells?_some I;refine⟨o,fun q u v=>?_,hQ⟩;have M:q<k:=(by have:=(List.getElem?_eq_some_iff.1 v).1;rw[z]at this;exact this);rw[T q M];exact v)
  refine⟨some r,s,(List.range len').map f,by rw[b];simp,?_,?_,by simpa using hlen⟩
  ·intro h0
   have N:0<len':=(by simpa using h0);obtain⟨u,hu⟩:∃ u,(en (f 0))[0]? =some u:=⟨_,List.getElem?_eq_getElem (by rw[z];exact g)⟩;have hz:=(L 0 N).1 0 u hu;have O:w.cell? r=some u:=(by simpa[Addr.add]using hz);obtain⟨y,P⟩:=uL O;refine⟨r.block,r.off,by rw[← y],by simpa using V,P,fun j u R=>?_⟩;have a1:j<len'*k:=by
    have:=(List.getElem?_eq_some_iff.1 R).1;rw[Di z]at this
    simpa using this
   obtain⟨q,i,d,rfl⟩:∃ q i,i<k∧j=q*k+i:=⟨j/k,j%k,Nat.mod_lt _ g,by rw[Nat.mul_comm];exact(Nat.div_add_mod j k).symm⟩;have v:q<len':=by
    rcases Nat.lt_or_ge q len' with h5|h5
    ·exact h5
    ·have:=Nat.mul_le_mul_right k h5;omega
   rw[Hu z _ q i (by simpa using v) d]at R;have h5:=(L q v).1 i u (by simpa using R);rw[y,Addr.add_mid,Addr.add_mid]at h5;rw[← Nat.add_assoc];exact h5
  ·intro o ho
   obtain⟨i,d,rfl⟩:=List.mem_map.1 ho;exact(L i (List.mem_range.1 d)).2
theorem rQ (fuel:Nat)(cs:List Value)(x:DataW H×List MemPlace)(h:DataW.trod enc Tryz.prog w base spare held fuel 134 cs=some x)(_:J3 134 x.1):∃ o:Rc.Ci,cs=Lb o∧True:=by
 obtain⟨f0,f1,f2,f3,l,⟨m,o1,p,q⟩,t0,t1,t2,t3⟩:=oF;obtain⟨n,b,a⟩:=Fs l h;rw[fG]at b;obtain⟨c0,c1,c2,c3,rfl⟩:=dA b;obtain⟨y,c,r⟩:=a 0 f0 rfl;obtain⟨z,d,s⟩:=a 1 f1 rfl;obtain⟨A,e,t⟩:=a 2 f2 rfl;obtain⟨B,f,u⟩:=a 3 f3 rfl;rw[m,t0,Es]at c;rw[o1,t1,Es]at d;rw[p,t2,Es]at e;rw[q,t3,uH]at f;obtain⟨i0,g,_,_⟩:=DataW.trod_int O4 c;obtain⟨i1,i,_,_⟩:=DataW.trod_int O4 d;obtain⟨i2,j,_,_⟩:=DataW.trod_int O4 e;obtain⟨v,k,_⟩:=DataW.trod_bool uN f
 simp at g i j k
 exact⟨⟨i0,i1,i2,v⟩,by rw[g,i,j,k];rfl,trivial⟩
theorem rR (fuel:Nat)(cs:List Value)(x:DataW H×List MemPlace)(h:DataW.trod enc Tryz.prog w base spare held fuel 94 cs=some x)(_:J3 94 x.1):∃ o:Rc.C9,cs=pX o∧True:=by
 obtain⟨f0,f1,g,⟨i,o1⟩,t0,t1⟩:=oG;obtain⟨n,a,b⟩:=Fs g h;rw[fH]at a;obtain⟨c0,c1,rfl⟩:=uI a;obtain⟨l,c,j⟩:=b 0 f0 rfl;obtain⟨m,d,k⟩:=b 1 f1 rfl;rw[i,t0,Es]at c;rw[o1,t1,Es]at d;obtain⟨i0,e,_,_⟩:=DataW.trod_int O4 c;obtain⟨i1,f,_,_⟩:=DataW.trod_int O4 d
 simp at e f
 exact⟨⟨i0,i1⟩,by rw[e,f];rfl,trivial⟩
theorem oH {fuel:Nat}{cs:List Value}{x:DataW H×List MemPlace}(h:DataW.trod enc Tryz.prog w base spare held fuel 83 cs=some x):∃ o:Rc.Op,cs=[.int .i64 o.kind,.int .i64 o.slot,.string o.Bd,.string o.new]:=by
 obtain⟨f0,f1,f2,f3,l,⟨m,o1,p,q⟩,t0,t1,t2,t3⟩:=Zp;obtain⟨n,b,a⟩:=Fs l h;rw[Oy]at b;obtain⟨c0,c1,c2,c3,rfl⟩:=dA b;obtain⟨v,c,r⟩:=a 0 f0 rfl;obtain⟨y,d,s⟩:=a 1 f1 rfl;obtain⟨z,e,t⟩:=a 2 f2 rfl;obtain⟨A,f,u⟩:=a 3 f3 rfl;rw[m,t0,Es]at c;rw[o1,t1,Es]at d;rw[p,t2,Tg]at e;rw[q,t3,Tg]at f;obtain⟨i0,g,_,_⟩:=DataW.trod_int O4 c;obtain⟨i1,i,_,_⟩:=DataW.trod_int O4 d;obtain⟨i2,j,_,_⟩:=DataW.trod_string W9 e;obtain⟨i3,k,_,_⟩:=DataW.trod_string W9 f
 simp at g i j k
 exact⟨⟨i0,i1,i2,i3⟩,by rw[g,i,j,k]⟩
theorem rS {fuel:Nat}{cs:List Value}{x:DataW H×List MemPlace}(h:DataW.trod enc Tryz.prog w base spare held fuel 85 cs=some x):∃ o:Rc.Key,cs=[.string o.key,.int .i64 o.page,.int .i64 o.slot]:=by
 obtain⟨f0,f1,m,⟨p,o1⟩,t0,t1⟩:=oD;obtain⟨g0,g1,b,⟨q,r⟩,s,t⟩:=oE;obtain⟨n,c,d⟩:=Fs m h;rw[fF]at c;obtain⟨c0,c1,c2,rfl⟩:=uJ c;obtain⟨B,e,u⟩:=d 0 f0 rfl;obtain⟨C,f,v⟩:=d 1 f1 rfl;rw[p,t0,Tg]at e;rw[o1,t1,rL]at f;obtain⟨i0,g,_,_⟩:=DataW.trod_string W9 e;obtain⟨D,y,a⟩:=Fs b f;obtain⟨E,i,z⟩:=a 0 g0 rfl;obtain⟨F,j,A⟩:=a 1 g1 rfl;rw[q,s,Es]at i;rw[r,t,Es]at j;obtain⟨i2,k,_,_⟩:=DataW.trod_int O4 i;obtain⟨i3,l,_,_⟩:=DataW.trod_int O4 j
 simp at g k l
 exact⟨⟨i0,i2,i3⟩,by rw[g,k,l]⟩
instance:Inhabited Rc.Ci:=⟨⟨0,0,0,false⟩⟩
instance:Inhabited Rc.C9:=⟨⟨0,0⟩⟩
instance:Inhabited jN:=⟨⟨⟨0,0,0,0,0,0,0,⟨0,0,⟨#[]⟩,⟨#[]⟩⟩,0,0,⟨⟨#[]⟩,0,0⟩,[],[]⟩,none,0,none,0⟩⟩
theorem oI (fuel:Nat)(cs:List Value)(x:DataW H×List MemPlace)(h:DataW.trod enc Tryz.prog w base spare held fuel 88 cs=some x)(I:J3 88 x.1):∃ p:jN,cs=recC p∧fE w p:=by
 obtain⟨f0,f1,f2,f3,f4,f5,f6,f7,f8,f9,f10,f11,f12,hu,⟨o0,o1,o2,o3,o4,o5,o6,o7,o8,o9,s,t,u⟩,⟨t0,t1,t2,t3,t4,t5,t6,t7,t8,t9,t10,t11,t12⟩⟩:=Zq;obtain⟨n,J,a⟩:=Fs hu h;rw[fI]at J;obtain⟨a0,a1,a2,a3,a4,a5,a6,a7,a8,a9,b0,b1,b2,b3,b4,b5,b6,b7,rfl⟩:=uK J;obtain⟨y0,K,aa⟩:=a 0 f0 rfl;obtain⟨y1,L,ad⟩:=a 1 f1 rfl;obtain⟨y2,M,ae⟩:=a 2 f2 rfl;obtain⟨y3,N,af⟩:=a 3 f3 rfl;obtain⟨y4,O,ag⟩:=a 4 f4 rfl;obtain⟨y5,P,ah⟩:=a 5 f5 rfl;obtain⟨y6,R,ai⟩:=a 6 f6 rfl;obtain⟨y7,S,aj⟩:=a 7 f7 rfl;obtain⟨y8,T,ak⟩:=a 8 f8 rfl;obtain⟨y9,U,al⟩:=a 9 f9 rfl;obtain⟨an,b,V⟩:=a 10 f10 rfl;obtain⟨ao,e,f⟩:=a 11 f11 rfl;obtain⟨aq,g,i⟩:=a 12 f12 rfl;rw[o0,t0,Es]at K;rw[o1,t1,Es]at L;rw[o2,t2,Es]at M;rw[o3,t3,Es]at N;rw[o4,t4,Es]at O;rw[o5,t5,Es]at P;rw[o6,t6,Es]at R;rw[o7,t7,Oy]at S;rw[o8,t8,Es]at T;rw[o9,t9,Es]at U;rw[s,t10,fF]at b;rw[t,t11,rM]at e;rw[u,t12,rN]at g;obtain⟨i0,W,_,_⟩:=DataW.trod_int O4 K;obtain⟨i1,X,_,_⟩:=DataW.trod_int O4 L;obtain⟨i2,Y,_,_⟩:=DataW.trod_int O4 M;obtain⟨i3,Z,_,_⟩:=DataW.trod_int O4 N;obtain⟨i4,e4,_,_⟩:=DataW.trod_int O4 O;obtain⟨i5,e5,_,_⟩:=DataW.trod_int O4 P;obtain⟨i6,e6,_,_⟩:=DataW.trod_int O4 R;obtain⟨op,e7⟩:=oH S;obtain⟨i8,e8,_,_⟩:=DataW.trod_int O4 T;obtain⟨i9,e9,_,_⟩:=DataW.trod_int O4 U;obtain⟨ek,j⟩:=rS b;obtain⟨A,c,ts,l,v,_,y⟩:=Th (en:=Lb) (k:=4) (fun _=>rfl) (by omega) nA fG rO (Q:=fun _=>True) rQ (by rw[← t11];exact f I) e;obtain⟨B,d,ds,m,z,_,C⟩:=Th (en:=pX) (k:=2) (fun _=>rfl) (by omega) kV fH rP (Q:=fun _=>True) rR (by rw[← t12];exact i I) g
 simp at W X Y Z e4 e5 e6 e7 e8 e9 j l m
 obtain⟨D,E,F,G⟩:=e7;obtain⟨o,q,r⟩:=j;refine⟨⟨⟨i0,i1,i2,i3,i4,i5,i6,op,i8,i9,ek,ts,ds⟩,A,c,B,d⟩,?_,⟨v,z,y,C⟩⟩;rw[W,X,Y,Z,e4,e5,e6,D,E,F,G,e8,e9,o,q,r,l,m]
 rfl
theorem fJ (fuel:Nat)(cs:List Value)(x:DataW H×List MemPlace)(h:DataW.trod enc Tryz.prog w base spare held fuel 9 cs=some x)(a:J3 9 x.1):∃ o:ByteArray,cs=G9 o∧o.size≤140737488355328:=by
 obtain⟨b,e,rfl,_⟩:=DataW.trod_string W9 h;refine⟨b,e,?_⟩;have c:=a b.data.toList.length (by unfold DataW.weights;exact List.mem_singleton.2 rfl);have d:=reachBytes_lt;have f:b.data.toList.length=b.size:=by simp
 omega
end
structure D1 where
 kind:Int
 page:Int
 n:Int
 o:Rc.Op
 p:jN
def sV (a:D1):List Value:=.int .i64 a.kind:: .int .i64 a.page:: .int .i64 a.n:: .int .i64 a.o.kind:: .int .i64 a.o.slot:: .string a.o.Bd:: .string a.o.new::recC a.p
abbrev F5 (a:D1):Array Value:=#[a.kind,a.page,a.n,a.o.kind,a.o.slot,a.o.Bd,a.o.new,a.p.r.lsn,a.p.r.prev,a.p.r.txn,a.p.r.kind,a.p.r.page,a.p.r.next,a.p.r.num,a.p.r.op.kind,a.p.r.op.slot,a.p.r.op.Bd,a.p.r.op.new,a.p.r.how,a.p.r.root,a.p.r.e.key,a.p.r.e.page,a.p.r.e.slot,.slice a.p.A a.p.r.txns.length a.p.c,.slice a.p.B a.p.r.dirty.length a.p.d]
theorem fK (a:D1):(sV a).length=25:=rfl
instance:Inhabited D1:=⟨⟨0,0,0,⟨0,0,⟨#[]⟩,⟨#[]⟩⟩,⟨⟨0,0,0,0,0,0,0,⟨0,0,⟨#[]⟩,⟨#[]⟩⟩,0,0,⟨⟨#[]⟩,0,0⟩,[],[]⟩,none,0,none,0⟩⟩⟩
theorem fL:Tryz.prog.cellsOf 90=25:=by kernel_rfl
theorem rT:1≤Tryz.prog.bytesOf 90:=by decide+kernel
theorem oJ:∃ f0 f1 f2 f3 f4:Field,Tryz.prog.underlying 90=some (.struct #[f0,f1,f2,f3,f4])∧(f0.offset=0∧f1.offset=1∧f2.offset=2∧f3.offset=3∧f4.offset=7)∧f0.type=3∧f1.type=3∧f2.type=3∧f3.type=83∧f4.type=88:=⟨_,_,_,_,_,rU,⟨rfl,rfl,rfl,rfl,rfl⟩,rfl,rfl,rfl,rfl,rfl⟩
section
variable {H : Type} {enc : TypeId × Value → H} {w : World} {base : Nat} {spare : Nat → Bool} {held : Bool}
theorem Zr {fuel:Nat}{cs:List Value}{x:DataW H×List MemPlace}(h:DataW.trod enc Tryz.prog w base spare held fuel 83 cs=some x)(d:J3 83 x.1):∃ o:Rc.Op,cs=[.int .i64 o.kind,.int .i64 o.slot,.string o.Bd,.string o.new]∧o.Bd.size≤140737488355328∧o.new.size≤140737488355328:=by
 obtain⟨f0,f1,f2,f3,q,⟨r,o1,s,t⟩,t0,t1,t2,t3⟩:=Zp;obtain⟨n,e,a⟩:=Fs q h;rw[Oy]at e;obtain⟨c0,c1,c2,c3,rfl⟩:=dA e;obtain⟨y,f,u⟩:=a 0 f0 rfl;obtain⟨z,g,v⟩:=a 1 f1 rfl;obtain⟨A,i,b⟩:=a 2 f2 rfl;obtain⟨B,j,c⟩:=a 3 f3 rfl;rw[r,t0,Es]at f;rw[o1,t1,Es]at g;rw[s,t2,Tg]at i;rw[t,t3,Tg]at j;have g2:=b d;have g3:=c d;rw[t2]at g2;rw[t3]at g3;obtain⟨i0,k,_,_⟩:=DataW.trod_int O4 f;obtain⟨i1,l,_,_⟩:=DataW.trod_int O4 g;obtain⟨i2,m,z2⟩:=fJ _ _ _ i g2;obtain⟨i3,p,z3⟩:=fJ _ _ _ j g3
 simp[G9]at k l m p
 exact⟨⟨i0,i1,i2,i3⟩,by rw[k,l,m,p],z2,z3⟩
theorem rV {fuel:Nat}{p:jN}{x:DataW H×List MemPlace}(h:DataW.trod enc Tryz.prog w base spare held fuel 88 (recC p)=some x)(c:J3 88 x.1):p.r.op.new.size≤140737488355328:=by
 obtain⟨f0,f1,f2,f3,f4,f5,f6,f7,f8,f9,f10,f11,f12,d,⟨m,o1,q,s,t,u,o6,f,v,y,g,i,j⟩,⟨t0,t1,t2,t3,t4,t5,t6,t7,t8,t9,t10,t11,t12⟩⟩:=Zq;obtain⟨n,z,k⟩:=Fs d h;obtain⟨A,b,a⟩:=k 7 f7 rfl;rw[f,t7,Oy]at b;obtain⟨o,e,_,z2⟩:=Zr b (by rw[← t7];exact a c);have l:((recC p).drop 7).take 4=[.int .i64 p.r.op.kind,.int .i64 p.r.op.slot,.string p.r.op.Bd,.string p.r.op.new]:=rfl;rw[l]at e
 simp at e
 rw[e.2.2.2];exact z2
theorem dB (fuel:Nat)(cs:List Value)(x:DataW H×List MemPlace)(h:DataW.trod enc Tryz.prog w base spare held fuel 90 cs=some x)(s:J3 90 x.1):∃ a:D1,cs=sV a∧fE w a.p∧a.o.Bd.size≤140737488355328∧a.o.new.size≤140737488355328∧a.n≤9223372036854775807∧a.p.r.op.new.size≤140737488355328:=by
 obtain⟨f0,f1,f2,f3,f4,N,⟨O,o1,P,Q,R⟩,t0,t1,t2,t3,t4⟩:=oJ;obtain⟨n,b,d⟩:=Fs N h;rw[fL]at b;obtain⟨c0,e,rfl⟩:∃ c l,cs=c::l:=by cases cs with|nil=>simp at b|cons c l=>exact⟨c,l,rfl⟩
 obtain⟨c1,f,rfl⟩:∃ c l,e=c::l:=by cases e with|nil=>simp at b|cons c l=>exact⟨c,l,rfl⟩
 obtain⟨c2,g,rfl⟩:∃ c l,f=c::l:=by cases f with|nil=>simp at b|cons c l=>exact⟨c,l,rfl⟩
 obtain⟨c3,i,rfl⟩:∃ c l,g=c::l:=by cases g with|nil=>simp at b|cons c l=>exact⟨c,l,rfl⟩
 obtain⟨c4,j,rfl⟩:∃ c l,i=c::l:=by cases i with|nil=>simp at b|cons c l=>exact⟨c,l,rfl⟩
 obtain⟨c5,k,rfl⟩:∃ c l,j=c::l:=by cases j with|nil=>simp at b|cons c l=>exact⟨c,l,rfl⟩
 obtain⟨S,cs7,rfl⟩:∃ c l,k=c::l:=by cases k with|nil=>simp at b|cons c l=>exact⟨c,l,rfl⟩
 have T:cs7.length=18:=by simpa using b
 obtain⟨Z,D,U⟩:=d 0 f0 rfl;obtain⟨y1,E,V⟩:=d 1 f1 rfl;obtain⟨y2,F,W⟩:=d 2 f2 rfl;obtain⟨y3,G,t⟩:=d 3 f3 rfl;obtain⟨y4,m,q⟩:=d 4 f4 rfl;rw[O,t0,Es]at D;rw[o1,t1,Es]at E;rw[P,t2,Es]at F;rw[Q,t3,Oy]at G;rw[R,t4,fI]at m;obtain⟨i0,I,_,_⟩:=DataW.trod_int O4 D;obtain⟨i1,J,_,_⟩:=DataW.trod_int O4 E;obtain⟨i2,K,_,u⟩:=DataW.trod_int O4 F;obtain⟨o,L,X,z2⟩:=Zr G (by rw[← t3];exact t s);have v:((c0::c1::c2::c3::c4::c5::S::cs7).drop 7).take 18=cs7:=by
  show cs7.take 18=cs7
  exact List.take_of_length_le (by omega)
 rw[v]at m;obtain⟨p,M,Y⟩:=oI _ _ _ m (by rw[← t4];exact q s);have y:p.r.op.new.size≤140737488355328:=by
  rw[M]at m;exact rV m (by rw[← t4];exact q s)
 simp at I J K L
 obtain⟨z,A,B,C⟩:=L;exact⟨⟨i0,i1,i2,o,p⟩,by rw[I,J,K,z,A,B,C,M];rfl,Y,X,z2,(bnd u).2,y⟩
theorem open_pkacts2 {r:Reach}{e:Nat}{v:Value}{d:DataW H}{f:List MemPlace}(b:Value.okWide Tryz.prog w r e 76 v)(g:DataW.Trod enc Tryz.prog w base spare held 76 v d f)(h:J3 76 d):
 ∃ (A:Option Addr) (c:Nat) (l:List D1),v= .slice A l.length c∧Reads w A c l.length (l.flatMap sV)∧(∀ a∈l,fE w a.p∧a.o.Bd.size≤140737488355328∧a.o.new.size≤140737488355328∧a.n≤9223372036854775807∧a.p.r.op.new.size≤140737488355328)∧l.length≤140737488355328:=by
 obtain⟨a,len,cap,rfl⟩:=okWide_slice wI b;obtain⟨fuel,i⟩:=g;obtain⟨A,c,l,j,m,q,s⟩:=Th (en:=sV) (k:=25) fK (by omega) wI fL rT (Q:=fun a=>fE w a.p∧a.o.Bd.size≤140737488355328∧a.o.new.size≤140737488355328∧a.n≤9223372036854775807∧a.p.r.op.new.size≤140737488355328) dB h i;exact⟨A,c,l,by simpa[Value.cells]using j,m,q,s⟩
end
open Sc
def He (a:D1):Rc.Rec:=if a.kind=4 then⟨0,0,1,3,a.page,a.n,0,a.o,0,0,Rc.Ey,[],[]⟩else⟨0,0,1,2,a.page,0,0,a.o,1,0,Rc.Ey,[],[]⟩
def Ti (o:Rc.Op)(b:ByteArray):ByteArray×Int:=eP b ⟨o.kind,o.slot,o.Bd,o.new⟩
theorem L8 (o:Rc.Op)(b:ByteArray)(h:(Ti o b).2=0):Bj (Ti o b).1=true:=by
 unfold Ti eP at h ⊢
 split
 ·rename_i a
  have c:=(qH a).2.1;unfold Fe at c;rw[Bool.and_eq_true]at c;exact c.1
 ·rename_i a
  rw[if_neg a]at h;exact absurd h (by decide)
noncomputable def Cx (s:Tx.St) (fs:List Fr) (a:D1):Px×ByteArray:=
 if a.kind=0 then Jm s fs a.page else
 if a.kind=1 then(My s fs a.page,⟨#[]⟩)else
 if a.kind=2 then(Ff s fs a.page,⟨#[]⟩)else
 if a.kind=3∨a.kind=4 then(D5 s fs (He a) (Ti a.o),⟨#[]⟩)else
 if a.kind=5 then(Df s fs a.page,⟨#[]⟩)else
 if a.kind=6 then(Qz s fs,⟨#[]⟩)else
 (⟨{s with Am:=Lg.Bp s.Am},fs,0⟩,⟨#[]⟩)
theorem U8 (z:Int)(_hz: -9223372036854775808≤z∧z≤9223372036854775807)(w:World):
 Cq 46 #[z] w fun e w'=>∃ k:Nat,(1≤k∧k≤5)∧(k:Int)=1+Int.tmod (Int.tmod z 5+5) 5∧e= .returned (.agg #[.int .i64 ((700:Nat):Int),.int .i64 ((8:Nat):Int),.int .i64 (k:Int)])∧Bw w w':=by
 obtain⟨m,c⟩:=ex (Int.tmod z 5);have i: -5<m∧m<5:=by
  rw[c];have j:=Int.tmod_lt_of_pos z (show(0:Int)<5 by decide);have l:=Int.lt_tmod_of_pos z (show(0:Int)<5 by decide);exact⟨l,j⟩
 obtain⟨q,d⟩:=ex (Int.tmod (m+5) 5);have n:0≤q∧q<5:=by rw[d];exact⟨Int.tmod_nonneg _ (by omega),Int.tmod_lt_of_pos _ (by decide)⟩
 have f:Int.tmod z 5=m:=c.symm;have g:Int.tmod (m+5) 5=q:=d.symm;have o:IntKind.i64.wrap m=m:=IntWalk.i64_in _ (by omega);have p:IntKind.i64.wrap (m+5)=m+5:=IntWalk.i64_in _ (by omega);have r:IntKind.i64.wrap q=q:=IntWalk.i64_in _ (by omega);have s:IntKind.i64.wrap (1+q)=1+q:=IntWalk.i64_in _ (by omega);have h:=Hq (fun w' (t:Bw w w')=>show(fun(e:Ending) (w':World)=>∃ k:Nat,(1≤k∧k≤5)∧(k:Int)=1+Int.tmod (Int.tmod z 5+5) 5∧e= .returned (.agg #[.int .i64 ((700:Nat):Int),.int .i64 ((8:Nat):Int),.int .i64 (k:Int)])∧Bw w w') (.returned (.agg #[.int .i64 700,.int .i64 8,.int .i64 (1+q)])) w' from
  ⟨(1+q).toNat,by omega,by rw[f,g];omega,by rw[show(((1+q).toNat:Nat):Int)=1+q by omega];rfl,t⟩)
 generalize (fun(e:Ending) (w':World)=>∃ k:Nat,(1≤k∧k≤5)∧(k:Int)=1+Int.tmod (Int.tmod z 5+5) 5∧e= .returned (.agg #[.int .i64 ((700:Nat):Int),.int .i64 ((8:Nat):Int),.int .i64 (k:Int)])∧Bw w w')=Q at h ⊢;clear c d;go_enter Tryz.func46,Tryz.ntmps46;go_upto_region 1 with fail;have a:=Tq w #[(),(),()] 25;obtain⟨u,b⟩:=Dr a;rw[← b]at a ⊢;clear b
 go_wp2_with(with_reducible refine lS #[.int .i64 700,.int .i64 8,.int .i64 (1+q)] a.out.Ag ?_)
 refine rT1 a.out.Ag qW ?_;exact h.out _ (a.out.row 0 _ _ rfl).below
theorem Zs (a:D1)(w:World):
 Cr 108 #[.agg #[a.kind,a.page,a.n,a.o.kind,a.o.slot,a.o.Bd,a.o.new,a.p.r.lsn,a.p.r.prev,a.p.r.txn,a.p.r.kind,a.p.r.page,a.p.r.next,a.p.r.num,a.p.r.op.kind,a.p.r.op.slot,a.p.r.op.Bd,a.p.r.op.new,a.p.r.how,a.p.r.root,a.p.r.e.key,a.p.r.e.page,a.p.r.e.slot,.slice a.p.A a.p.r.txns.length a.p.c,.slice a.p.B a.p.r.dirty.length a.p.d]] w (.agg (D7 (He a) (.slice none 0 0) (.slice none 0 0))):=by
 have N:=Hq (fun(v:a.kind=4) w' (O:Bw w w')=>show(fun(e:Ending) (w':World)=>e= .returned (.agg (D7 (He a) (.slice none 0 0) (.slice none 0 0)))∧Bw w w') (.returned (.agg #[(),(),.int .i64 1,.int .i64 3,a.page,a.n,(),a.o.kind,a.o.slot,a.o.Bd,a.o.new,(),(),"",(),(),'s','s'])) w' from by
  refine⟨?_,O⟩;unfold He;rw[if_pos v];rfl)
 have P:=Hq (fun(v:¬ a.kind=4) w' (O:Bw w w')=>show(fun(e:Ending) (w':World)=>e= .returned (.agg (D7 (He a) (.slice none 0 0) (.slice none 0 0)))∧Bw w w') (.returned (.agg #[(),(),.int .i64 1,.int .i64 2,a.page,(),(),a.o.kind,a.o.slot,a.o.Bd,a.o.new,.int .i64 1,(),"",(),(),'s','s'])) w' from by
  refine⟨?_,O⟩;unfold He;rw[if_neg v];rfl)
 unfold Cr;generalize (fun(e:Ending) (w':World)=>e= .returned (.agg (D7 (He a) (.slice none 0 0) (.slice none 0 0)))∧Bw w w')=Q at N P ⊢;go_enter Tryz.func108,Tryz.ntmps108;go_upto_region 1 with fail;have D:=Il w #[a.kind,a.page,a.n,a.o.kind,a.o.slot,a.o.Bd,a.o.new,a.p.r.lsn,a.p.r.prev,a.p.r.txn,a.p.r.kind,a.p.r.page,a.p.r.next,a.p.r.num,a.p.r.op.kind,a.p.r.op.slot,a.p.r.op.Bd,a.p.r.op.new,a.p.r.how,a.p.r.root,a.p.r.e.key,a.p.r.e.page,a.p.r.e.slot,.slice a.p.A a.p.r.txns.length a.p.c,.slice a.p.B a.p.r.dirty.length a.p.d] 90 #[(),(),(),(),(),(),(),(),(),"","",(),(),"",(),(),'s','s'] 88;obtain⟨F,G⟩:=Dr D;rw[← G]at D ⊢;clear G;have R:=show F.cell? ⟨w.heap.size,1,none⟩=some (.int .i64 a.page)from by rw[Aa D.out.Ag];rfl
 go_upto_region 2 with(first|with_reducible refine lP #[a.o.kind,a.o.slot,a.o.Bd,a.o.new] D.out.Ag gF ?_|with_reducible refine sN #[(),(),.int .i64 1,.int .i64 2,a.page,(),(),a.o.kind,a.o.slot,a.o.Bd,a.o.new,.int .i64 1,(),"",(),(),'s','s'] ?_)
 have T:w.heap.size+1<F.heap.size:=D.out.lt (i:=1) (by simp);have H:=Ad F (.cells #[(),(),.int .i64 1,.int .i64 2,a.page,(),(),a.o.kind,a.o.slot,a.o.Bd,a.o.new,.int .i64 1,(),"",(),(),'s','s'] 88);have H1:=Hq (D.out.step H);have E:=Hq (heap_alloc_new F (.cells #[(),(),.int .i64 1,.int .i64 2,a.page,(),(),a.o.kind,a.o.slot,a.o.Bd,a.o.new,.int .i64 1,(),"",(),(),'s','s'] 88));obtain⟨g,L⟩:=ex F.heap.size;obtain⟨q,y⟩:=ex (F.alloc (.cells #[(),(),.int .i64 1,.int .i64 2,a.page,(),(),a.o.kind,a.o.slot,a.o.Bd,a.o.new,.int .i64 1,(),"",(),(),'s','s'] 88));rw[← L,← y]at E;rw[← y]at H1;rw[← y,← L];rw[← L]at T;clear y L H D R
 try simp only[Act.put]
 have Y:=show q.cell? ⟨w.heap.size,0,none⟩=some (.int .i64 a.kind)from by rw[Aa H1.out.Ag];rfl
 by_cases v:a.kind=4
 ·have U:(a.kind==4)=true:=by rw[v];rfl
  have V:=Hq v;clear v P;go_upto_region 3 with fail
  go_cut [13] (fun x wc=>wc.heap[g]? =some (.cells #[(),(),.int .i64 1,.int .i64 3,a.page,a.n,(),a.o.kind,a.o.slot,a.o.Bd,a.o.new,(),(),"",(),(),'s','s'] 88 (0,0))∧Below g q wc)
  case first=>
   have hSn:q.drew.cell? ⟨w.heap.size,2,none⟩=some (.int .i64 a.n):=(by rw[show q.drew.cell? ⟨w.heap.size,2,none⟩=q.cell? ⟨w.heap.size,2,none⟩from rfl,Aa H1.out.Ag];rfl);have f:=show q.drew.heap[g]? =some (.cells #[(),(),.int .i64 1,.int .i64 2,a.page,(),(),a.o.kind,a.o.slot,a.o.Bd,a.o.new,.int .i64 1,(),"",(),(),'s','s'] 88 (0,0))from E.out;have m:Below g q q.drew:=(show Below g q q from⟨rfl,rfl,rfl,Nat.le_refl _,fun _ _=>rfl⟩).drew;refine E4 (S:=(fun u=>u.cell? ⟨w.heap.size,2,none⟩=some (.int .i64 a.n))) (fun h=>?_);generalize q.drew=w8 at hSn f m ⊢;refine Au 0 ?_ (hy:=by
    intro u b;have z:=b;clear b;go_simp;(try with_reducible rfl))
   refine Au 1 ?_ (hy:=by
    intro u b;have z:=b;clear b;go_simp;(try with_reducible rfl))
   refine Au 2 ?_ (hy:=by
    intro u b;have z:=b;clear b;go_simp;(try with_reducible rfl))
   refine Bx 3 fun K C=>?_;have s:=show w8.cell? ⟨g,3,none⟩=some (.int .i64 2)from(by rw[Aa f];rfl);have t:=Ao f 3
   go_simp
   clear s t;have j:=show(w8.setCell ⟨g,3,none⟩ (.int .i64 3)).heap[g]? =some (.cells #[(),(),.int .i64 1,.int .i64 3,a.page,(),(),a.o.kind,a.o.slot,a.o.Bd,a.o.new,.int .i64 1,(),"",(),(),'s','s'] 88 (0,0))from(by have:=Bs 3 f (.int .i64 3);simpa using this);have k:=show(w8.setCell ⟨g,3,none⟩ (.int .i64 3)).cell? ⟨w.heap.size,2,none⟩=some (.int .i64 a.n)from(by rw[((show Below g w8 w8 from⟨rfl,rfl,rfl,Nat.le_refl _,fun _ _=>rfl⟩).setCell (p:=⟨g,3,none⟩) (Nat.le_refl _) (.int .i64 3)).cell (p:=⟨w.heap.size,2,none⟩) (by show w.heap.size<g;omega)];exact hSn);have l:=m.setCell (p:=⟨g,3,none⟩) (Nat.le_refl _) (.int .i64 3);clear hSn f m;have f:=j;have hSn:=k;have m:=l;clear j k l;generalize w8.setCell ⟨g,3,none⟩ (.int .i64 3)=w3 at f hSn m ⊢;refine Bl C (fun h=>?_);clear C K;refine Au 4 ?_ (hy:=by
    intro u b;have z:=b;clear b;go_simp;(try with_reducible rfl))
   refine Bx 5 fun K C=>?_;have s:=show w3.cell? ⟨g,11,none⟩=some (.int .i64 1)from(by rw[Aa f];rfl);have t:=Ao f 11
   go_simp
   clear s t;have j:=show(w3.setCell ⟨g,11,none⟩ (.int .i64 0)).heap[g]? =some (.cells #[(),(),.int .i64 1,.int .i64 3,a.page,(),(),a.o.kind,a.o.slot,a.o.Bd,a.o.new,(),(),"",(),(),'s','s'] 88 (0,0))from(by have:=Bs 11 f (.int .i64 0);simpa using this);have k:=show(w3.setCell ⟨g,11,none⟩ (.int .i64 0)).cell? ⟨w.heap.size,2,none⟩=some (.int .i64 a.n)from(by rw[((show Below g w3 w3 from⟨rfl,rfl,rfl,Nat.le_refl _,fun _ _=>rfl⟩).setCell (p:=⟨g,11,none⟩) (Nat.le_refl _) (.int .i64 0)).cell (p:=⟨w.heap.size,2,none⟩) (by show w.heap.size<g;omega)];exact hSn);have l:=m.setCell (p:=⟨g,11,none⟩) (Nat.le_refl _) (.int .i64 0);clear hSn f m;have f:=j;have hSn:=k;have m:=l;clear j k l;generalize w3.setCell ⟨g,11,none⟩ (.int .i64 0)=w4 at f hSn m ⊢;refine Bl C (fun h=>?_);clear C K;refine Au 6 ?_ (hy:=by
    intro u b;have z:=b;clear b;go_simp;(try with_reducible rfl))
   refine Bx 7 fun K C=>?_;have s:=show w4.cell? ⟨g,5,none⟩=some (.int .i64 0)from(by rw[Aa f];rfl);have t:=Ao f 5
   go_simp
   clear s t;have j:=show(w4.setCell ⟨g,5,none⟩ (.int .i64 a.n)).heap[g]? =some (.cells #[(),(),.int .i64 1,.int .i64 3,a.page,a.n,(),a.o.kind,a.o.slot,a.o.Bd,a.o.new,(),(),"",(),(),'s','s'] 88 (0,0))from(by have:=Bs 5 f (.int .i64 a.n);simpa using this);have k:=show(w4.setCell ⟨g,5,none⟩ (.int .i64 a.n)).cell? ⟨w.heap.size,2,none⟩=some (.int .i64 a.n)from(by rw[((show Below g w4 w4 from⟨rfl,rfl,rfl,Nat.le_refl _,fun _ _=>rfl⟩).setCell (p:=⟨g,5,none⟩) (Nat.le_refl _) (.int .i64 a.n)).cell (p:=⟨w.heap.size,2,none⟩) (by show w.heap.size<g;omega)];exact hSn);have l:=m.setCell (p:=⟨g,5,none⟩) (Nat.le_refl _) (.int .i64 a.n);clear hSn f m;have f:=j;have hSn:=k;have m:=l;clear j k l;generalize w4.setCell ⟨g,5,none⟩ (.int .i64 a.n)=w5 at f hSn m ⊢;refine Bl C (fun h=>?_);clear C K;refine wpAnyH_done Kr ?_ _;clear h;go_wp2_with fail;go_meet
   case rel=>exact⟨f,m⟩
  case rest=>
   obtain⟨I,J⟩:=hcut;have W:=Hq (H1.out.under (M:=g) (by simp;omega) J);have X:=Hq I;clear I J
   go_wp2_with(first|with_reducible refine lL X.out Ds ?_|with_reducible refine lS #[(),(),.int .i64 1,.int .i64 3,a.page,a.n,(),a.o.kind,a.o.slot,a.o.Bd,a.o.new,(),(),"",(),(),'s','s'] W.out.Ah ?_)
   refine rT1 W.out.Ah Ds ?_;exact N.out V.out _ (W.out.row 1 _ _ rfl).below
 ·have U:(a.kind==4)=false:=beq_eq_false_iff_ne.2 v
  have V:=Hq v;clear v N
  go_wp2_with(first|with_reducible refine lL E.out Ds ?_|with_reducible refine lS #[(),(),.int .i64 1,.int .i64 2,a.page,(),(),a.o.kind,a.o.slot,a.o.Bd,a.o.new,.int .i64 1,(),"",(),(),'s','s'] H1.out.Ah ?_)
  refine rT1 H1.out.Ah Ds ?_;exact P.out V.out _ (H1.out.row 1 _ _ rfl).below
end Go.Proofs.YtmldoihahndcgaaGreatDoor
