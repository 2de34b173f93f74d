import Derived.Test.YtdfkambdagoojaaGreatDoorHd00
import Derived.Test.YtdfkambdagoojaaGreatDoorCards
import Derived.Test.YtdfkambdagoojaaGreatDoorTie
import Derived.Test.YtdfkambdagoojaaGreatDoorHd01
import Derived.Test.YtdfkambdagoojaaGreatDoorHd14
import Derived.Deep.DeepHandedRow
import Derived.Deep.DeepWitnessRowRef
import Derived.Lib.LaidTab
import Derived.Stop.LaidErr
import Derived.LaidMore
import Derived.LaidLaws
import Derived.Test.YtdfkambdagoojaaGreatDoorHd06
import Derived.Deep.Slices
import Derived.Test.YtdfkambdagoojaaGreatDoorHd10
import Derived.Test.YtdfkambdagoojaaGreatDoorHd13
set_option maxRecDepth 100000
set_option maxHeartbeats 16000000
set_option linter.unusedSimpArgs false
namespace Go.Proofs.YtdfkambdagoojaaGreatDoor
open Go.ChangeShapes Go.WideShapes Go.ChangeAt Go.RowKit
def laidAll {H:Type}:List (String×DataW H):=[("math/bits.deBruijn32tab",Rows.laid_math_bits_deBruijn32tab),("math/bits.deBruijn64tab",Rows.laid_math_bits_deBruijn64tab),("internal/strconv.uint64pow10",Rows.laid_internal_strconv_uint64pow10),("strconv.ErrRange",Rows.laid_strconv_ErrRange),("strconv.ErrSyntax",Rows.laid_strconv_ErrSyntax)]
theorem wJ:(Tryz.prog.globals[3]?).map (·.type)=some 264:=by kernel_rfl
theorem wK:(Tryz.prog.globals[0]?).map (·.type)=some 188:=by kernel_rfl
theorem wL:(Tryz.prog.globals[1]?).map (·.type)=some 188:=by kernel_rfl
theorem sU:Tryz.prog.cellsOf 264=20:=by kernel_rfl
theorem oM:Tryz.prog.cellsOf 155=1:=by kernel_rfl
theorem g64:Tryz.prog.globalNamed "math/bits.deBruijn64tab"=some 5:=by kernel_rfl
theorem star:"*"++"errors.errorString"="*errors.errorString":=by decide
theorem sV (u:TypeId)(h:Tryz.prog.typeName? 3 u=some "*errors.errorString"):u=260:=
 typeName_ptr_named (nm:="errors.errorString") (by rw[star];kernel_rfl) Kr (by decide) u (by rw[star];exact h)
theorem dM:Tryz.prog.cellsOf 262=1:=by kernel_rfl
theorem dN:Tryz.prog.cellsOf 9=1:=by kernel_rfl
theorem Zk {W:World}(h:laidMet Tryz.prog laidAll W):5≤W.heap.size:=by
 have d:=h.tail;obtain⟨j,⟨g0,t0,e,f0,k,l,b,f,a,g,_,m⟩,_⟩:=d;obtain rfl:=Option.some.inj (g64.symm.trans b);unfold World.var? at a;simp only[g64,Option.bind_some]at a;rcases Nat.lt_or_ge 5 W.heap.size with i|c
 ·omega
 ·rw[Array.getElem?_eq_none c]at a;cases a
theorem vars_of_laid {W:World}(h:laidMet Tryz.prog laidAll W):I8 W:=by
 refine⟨?_,?_,?_,Zk h⟩
 ·have c:=h.tail.tail
  exact Lib.tabIs_of_head Abe wJ xX jE oM sU c
 ·obtain⟨a,s,b,_⟩:=laid_sentinel h.tail.tail.tail.tail Abf wK pN sV xY xZ rfl rfl Ua dM dN
  exact⟨_,_,b⟩
 ·obtain⟨a,s,b,_⟩:=laid_sentinel h.tail.tail.tail Abg wL pN sV xY xZ rfl rfl Ua dM dN
  exact⟨_,_,b⟩
theorem laid_met (os:Os)(args:Array Value):laidMet Tryz.prog laidAll ((World.doorLaid Tryz.prog 309 os).forCall (fun _ _=>0) ⟨#[],args,[]⟩).memory:=
 laidMet_of_run' 8 Kr Kr
end Go.Proofs.YtdfkambdagoojaaGreatDoor
namespace Lg
theorem sX {d:Dk}(g:∀ b∈d.Ad,b.size≤128):∀ (n:Nat) {f:Int} {l:List UInt8},Fh d f n= .ok l→l.length≤n*128∧(n=0∨0≤f∧f+(n:Int)≤(d.Ad.length:Int)):=by
 intro n
 induction n with
 |zero=>intro f l h;unfold Fh at h;injection h with h;subst h;exact⟨by simp,.inl rfl⟩
 |succ n i=>
  intro f l h;unfold Fh at h
  split at h
  ·rename_i j
   obtain⟨c,k⟩:=cE j
   cases a:Fh d (f+1) n with
   |error e=>rw[a]at h;cases h
   |ok l2=>
    rw[a]at h
    injection h with h
    obtain⟨i1,i2⟩:=i a;have o:(Fy d f).1.size≤128:=by
     rw[k];unfold Qb
     cases m:d.Ad[f.toNat]? with
     |none=>show(0:Nat)≤128;omega
     |some b=>exact g b (List.mem_of_getElem? m)
    refine⟨?_,.inr ⟨c.1,?_⟩⟩
    ·rw[← h,List.length_append]
     have:(Fy d f).1.data.toList.length=(Fy d f).1.size:=(by simp);omega
    ·rcases i2 with i2|i2
     ·subst i2;have:=c.2;omega
     ·omega
  ·cases h
theorem oN {s:List UInt8}{a b:Nat}{r:Rc.Rec}(h:Jz s a=some (r,b)):Rc.Bz r∧a+8≤b∧b≤s.length:=by
 by_cases c:Is s a
 ·rw[Qa c]at h
  injection h with h
  injection h with d e
  rw[← d,← e];exact⟨c.2.2.1,by omega,c.1⟩
 ·rw[Mu c]at h;cases h
theorem iK {s:List UInt8}{f a:Nat}(h:Jz s a=none):Dx s (f+1) a=([],a):=by unfold Dx;rw[h]
theorem iL {s:List UInt8}{f a b:Nat}{r:Rc.Rec}(h:Jz s a=some (r,b))(c:¬ r.lsn=(a:Int)+1):Dx s (f+1) a=([],a):=by unfold Dx;rw[h];simp only;rw[if_neg c]
theorem sY {s:List UInt8}{f a b:Nat}{r:Rc.Rec}(h:Jz s a=some (r,b))(c:r.lsn=(a:Int)+1):Dx s (f+1) a=(r::(Dx s f b).1,(Dx s f b).2):=by
 conv=>lhs;unfold Dx
 rw[h];simp only;rw[if_pos c]
end Lg
namespace Go.Proofs.YtdfkambdagoojaaGreatDoor
open Go.RowKit
theorem dO {w v:World}{B g n size:Nat}{e t:TypeId}{x:Value}{xs:List Value}{cur:Array Value}{fr:Nat×Nat}(h:w.ownsRow B e size x n xs)(c:w.heap[g]? =some (.cells cur t fr))(d:e≠t)(k:Fe g (g+1) w v):v.ownsRow B e size x n xs:=by
 refine⟨h.1,?_⟩;rcases h.2 with l|⟨f,cap,a,m,i,j,r⟩
 ·exact .inl l
 ·refine .inr ⟨f,cap,a,m,i,(k.block f (C8 j) ?_).trans j,r⟩
  rcases Nat.lt_trichotomy f g with b|b|b
  ·exact .inl b
  ·exfalso
   subst b;rw[j]at c
   injection c with c
   injection c with _ o
   exact d o
  ·exact .inr b
structure Qx where
 r:Rc.Rec
 A:Option Addr
 c:Nat
 B:Option Addr
 d:Nat
def recC (p:Qx):List Value:=[.int .i64 p.r.lsn,.int .i64 p.r.prev,.int .i64 p.r.txn,.int .i64 p.r.kind,.int .i64 p.r.Ab,.int .i64 p.r.next,.int .i64 p.r.num,.int .i64 p.r.op.kind,.int .i64 p.r.op.slot,.string p.r.op.A5,.string p.r.op.new,.int .i64 p.r.how,.int .i64 p.r.root,.string p.r.e.key,.int .i64 p.r.e.Ab,.int .i64 p.r.e.slot,.slice p.A p.r.txns.length p.c,.slice p.B p.r.dirty.length p.d]
theorem sZ (p:Qx):(recC p).length=18:=rfl
theorem tA (p:Qx):∀ u∈recC p,u.oneCell'=true:=by
 intro u a;simp only[recC,List.mem_cons,List.not_mem_nil,or_false]at a;rcases a with rfl|rfl|rfl|rfl|rfl|rfl|rfl|rfl|rfl|rfl|rfl|rfl|rfl|rfl|rfl|rfl|rfl|rfl<;>rfl
def Kx (n:Nat)(w:World)(ps:List Qx):Prop:=∀ p∈ps,L7 n w p.r p.A p.c p.B p.d
abbrev kJ (w:World)(p:Qx):Prop:=Hc w p.r p.A p.c p.B p.d
theorem Kx.nil (n:Nat)(w:World):Kx n w []:=fun _ h=>by cases h
theorem Kx.below {n:Nat}{w w':World}{a:List Qx}(h:Kx n w a)(b:Bw w w'):Kx n w' a:=fun p c=>(h p c).below b
theorem Kx.push {n:Nat}{w:World}{b:List Qx}{p:Qx}(h:Kx n w b)(e:L7 n w p.r p.A p.c p.B p.d):Kx n w (b++[p]):=fun q f=>by
 rcases List.mem_append.1 f with a|a
 ·exact h q a
 ·rw[List.mem_singleton.1 a];exact e
theorem oO:(Tryz.prog.info? 47).map (fun i=>(i.zero,i.size,i.bytes))=some (some (.agg Dl),18,200):=by kernel_rfl
def Tu (x:Lg.Lo×List Rc.Rec×Int)(w:World)(e:Ending)(w':World):Prop:=
 ∃ ps v,ps.map (·.r)=x.2.1∧e= .returned (.tuple #[Qc x.1,v,x.2.2])∧Ep recC 18 47 w.heap.size w' v ps∧Kx w.heap.size w' ps∧Bw w w'
open Go.ChangeShapes Go.WideShapes Go.ChangeAt
theorem Vr:Tryz.prog.cellsOf 9=1:=by kernel_rfl
theorem E2:Tryz.prog.cellsOf 3=1:=by kernel_rfl
theorem zR:Tryz.prog.cellsOf 4=1:=by kernel_rfl
theorem Qy:Tryz.prog.cellsOf 40=4:=by kernel_rfl
theorem kK:Tryz.prog.cellsOf 44=3:=by kernel_rfl
theorem wM:Tryz.prog.cellsOf 42=2:=by kernel_rfl
theorem kL:Tryz.prog.cellsOf 83=4:=by kernel_rfl
theorem kM:Tryz.prog.cellsOf 65=2:=by kernel_rfl
theorem wN:Tryz.prog.cellsOf 34=1:=by kernel_rfl
theorem wO:Tryz.prog.cellsOf 45=1:=by kernel_rfl
theorem kN:Tryz.prog.cellsOf 47=18:=by kernel_rfl
theorem dP:∃ f0 f1 f2 f3:Field,Tryz.prog.underlying 40=some (.struct #[f0,f1,f2,f3])∧(f0.offset=0∧f1.offset=1∧f2.offset=2∧f3.offset=3)∧f0.type=3∧f1.type=3∧f2.type=9∧f3.type=9:=⟨_,_,_,_,fC,⟨rfl,rfl,rfl,rfl⟩,rfl,rfl,rfl,rfl⟩
theorem tC:∃ f0 f1:Field,Tryz.prog.underlying 44=some (.struct #[f0,f1])∧(f0.offset=0∧f1.offset=1)∧f0.type=9∧f1.type=42:=⟨_,_,Abw,⟨rfl,rfl⟩,rfl,rfl⟩
theorem tD:∃ f0 f1:Field,Tryz.prog.underlying 42=some (.struct #[f0,f1])∧(f0.offset=0∧f1.offset=1)∧f0.type=3∧f1.type=3:=⟨_,_,Abv,⟨rfl,rfl⟩,rfl,rfl⟩
theorem tE:∃ f0 f1 f2 f3:Field,Tryz.prog.underlying 83=some (.struct #[f0,f1,f2,f3])∧(f0.offset=0∧f1.offset=1∧f2.offset=2∧f3.offset=3)∧f0.type=3∧f1.type=3∧f2.type=3∧f3.type=4:=⟨_,_,_,_,lR,⟨rfl,rfl,rfl,rfl⟩,rfl,rfl,rfl,rfl⟩
theorem tF:∃ f0 f1:Field,Tryz.prog.underlying 65=some (.struct #[f0,f1])∧(f0.offset=0∧f1.offset=1)∧f0.type=3∧f1.type=3:=⟨_,_,Aal,⟨rfl,rfl⟩,rfl,rfl⟩
theorem dQ:∃ f0 f1 f2 f3 f4 f5 f6 f7 f8 f9 f10 f11 f12:Field,Tryz.prog.underlying 47=some (.struct #[f0,f1,f2,f3,f4,f5,f6,f7,f8,f9,f10,f11,f12])∧
 (f0.offset=0∧f1.offset=1∧f2.offset=2∧f3.offset=3∧f4.offset=4∧f5.offset=5∧f6.offset=6∧f7.offset=7∧f8.offset=11∧f9.offset=12∧f10.offset=13∧f11.offset=16∧f12.offset=17)∧
 (f0.type=3∧f1.type=3∧f2.type=3∧f3.type=3∧f4.type=3∧f5.type=3∧f6.type=3∧f7.type=40∧f8.type=3∧f9.type=3∧f10.type=44∧f11.type=34∧f12.type=45):=
 ⟨_,_,_,_,_,_,_,_,_,_,_,_,_,Ca,⟨rfl,rfl,rfl,rfl,rfl,rfl,rfl,rfl,rfl,rfl,rfl,rfl,rfl⟩,⟨rfl,rfl,rfl,rfl,rfl,rfl,rfl,rfl,rfl,rfl,rfl,rfl,rfl⟩⟩
theorem zS {α:Type}{l:List α}(h:l.length=2):∃ a b,l=[a,b]:=by
 match l,h with
 |[a,b],_=>exact⟨a,b,rfl⟩
theorem zT {α:Type}{l:List α}(h:l.length=3):∃ a b c,l=[a,b,c]:=by
 match l,h with
 |[a,b,c],_=>exact⟨a,b,c,rfl⟩
theorem iM {α:Type}{l:List α}(h:l.length=4):∃ a b c d,l=[a,b,c,d]:=by
 match l,h with
 |[a,b,c,d],_=>exact⟨a,b,c,d,rfl⟩
theorem zU {α:Type}{l:List α}(h:l.length=18):∃ a0 a1 a2 a3 a4 a5 a6 a7 a8 a9 b0 b1 b2 b3 b4 b5 b6 b7,l=[a0,a1,a2,a3,a4,a5,a6,a7,a8,a9,b0,b1,b2,b3,b4,b5,b6,b7]:=by
 match l,h with
 |[a0,a1,a2,a3,a4,a5,a6,a7,a8,a9,b0,b1,b2,b3,b4,b5,b6,b7],_=>exact⟨a0,a1,a2,a3,a4,a5,a6,a7,a8,a9,b0,b1,b2,b3,b4,b5,b6,b7,rfl⟩
theorem zV {w:World}{a:Addr}{v:Value}(h:w.cell? a=some v):a=⟨a.block,a.off,none⟩∧a.block<w.heap.size:=by
 obtain⟨b,off,sp⟩:=a;unfold World.cell? at h
 cases d:w.heap[b]? with
 |none=>simp[d]at h
 |some o=>
  have e:b<w.heap.size:=(Array.getElem?_eq_some_iff.1 d).1
  cases o with
  |cells c t f=>
   simp only[d]at h
   cases sp with
   |none=>exact⟨rfl,e⟩
   |some x=>simp at h
  |_=>simp[d]at h
def Ln {H:Type}(t:TypeId)(d:DataW H):Prop:=∀ n∈DataW.weights Tryz.prog t d,n≤reachBytes
theorem light_of {H:Type}{a:List TypeId}{b:List (DataW H)}{j:Nat}{t:TypeId}{d:DataW H}(h:(DataW.weightsEach Tryz.prog a b).all (·≤reachBytes)=true)(c:a[j]? =some t)(e:b[j]? =some d):Ln t d:=fun n f=>by
 have:=List.all_eq_true.1 h _ (DataW.weights_mem_each c e n f)
 simpa using this
theorem Tf {H:Type}{P:Program}{e:TypeId}{d:DataW H}{n:Nat}(c:n∈DataW.weights P e d):∀ {l:List (DataW H)},d∈l→n∈DataW.weightsAll P e l:=by
 intro l
 induction l with
 |nil=>intro h;cases h
 |cons a l f=>
  intro h;unfold DataW.weightsAll;rcases List.mem_cons.1 h with b|b
  ·subst b;exact List.mem_append_left _ c
  ·exact List.mem_append_right _ (f b)
theorem wP:1≤Tryz.prog.bytesOf 83:=by decide+kernel
theorem wQ:1≤Tryz.prog.bytesOf 65:=by decide+kernel
section
variable {H : Type} {enc : TypeId × Value → H} {w : World} {base : Nat} {spare : Nat → Bool} {held : Bool}
theorem F6 {t:TypeId}{fs:Array Field}{fuel:Nat}{cs:List Value}{x:DataW H×List MemPlace}(c:Tryz.prog.underlying t=some (.struct fs))(h:DataW.trod enc Tryz.prog w base spare held fuel t cs=some x):
 ∃ n,cs.length=Tryz.prog.cellsOf t∧∀ (i:Nat) (f:Field),fs[i]? =some f→∃ y,DataW.trod enc Tryz.prog w base spare held n f.type ((cs.drop f.offset).take (Tryz.prog.cellsOf f.type))=some y∧(Ln t x.1→Ln f.type y.1):=by
 obtain⟨xs,n,_,rfl,e,hlen,g⟩:=DataW.trod_struct c h;refine⟨n,e,fun i f b=>?_⟩;have a:i<xs.length:=by rw[hlen];exact(Array.getElem?_eq_some_iff.1 b).1
 refine⟨xs[i],by rw[g i f b,List.getElem?_eq_getElem a],fun k m l=>k m ?_⟩;unfold DataW.weights;rw[c];exact DataW.weights_mem_each (j:=i) (t:=f.type) (d:=xs[i].1) (by simp[b]) (by simp[a]) m l
theorem Vs {α:Type}[Inhabited α]{en:α→List Value}{k:Nat}(B:∀ x,(en x).length=k)(r:0<k){t e:TypeId}(C:Tryz.prog.underlying t=some (.slice e))(E:Tryz.prog.cellsOf e=k)(F:1≤Tryz.prog.bytesOf e){Q:α→Prop}
 (V:∀ (fuel:Nat) (cs:List Value) (x:DataW H×List MemPlace),DataW.trod enc Tryz.prog w base spare held fuel e cs=some x→Ln e x.1→∃ o,cs=en o∧Q o)
 {fuel:Nat} {cs:List Value} {x:DataW H×List MemPlace} (G:Ln t x.1) (h:DataW.trod enc Tryz.prog w base spare held fuel t cs=some x):
 ∃ (A:Option Addr) (c:Nat) (l:List α),cs=[.slice A l.length c]∧Reads w A c l.length (l.flatMap en)∧(∀ o∈l,Q o)∧l.length≤140737488355328:=by
 rcases Deep.open_slice C h with⟨b,_⟩|⟨s,len',v,m,n,D,Pl,b,hb,W,hm,I,X,a⟩
 ·exact⟨none,0,[],b,Reads.none_ _ _ _ _,(fun _ h=>by cases h),Nat.zero_le _⟩
 ·have Y:len'≤m:=by rw[I];split<;>omega
  rw[E]at a;rw[X]at G;have hlen:len'≤140737488355328:=by
   have J:=G _ (by unfold DataW.weights;rw[C];exact List.mem_cons_self ..);rw[List.length_map,List.length_range]at J;have T:=reachBytes_lt;have U:=Nat.le_mul_of_pos_right (len'+(List.map (fun j=>D (len'+j)) (List.range (m-len'))).length) F;omega
  have K:∀ i,i<len'→Ln e (D i):=fun i d Z L=>G Z (by
   unfold DataW.weights;rw[C];exact List.mem_cons_of_mem _ (List.mem_append_left _ (Tf L (List.mem_map.2 ⟨i,List.mem_range.2 d,rfl⟩))))
  obtain⟨f,M⟩:=Deep.choose_lt (α:=α) (n:=len') (p:=fun i o=>(∀ q u,(en o)[q]? =some u→w.cell? ((s.add (i*k)).add q)=some u)∧Q o) (fun i d=>by
   obtain⟨a1,J,T⟩:=a i (by omega);obtain⟨o,rfl,hQ⟩:=V _ _ _ T (K i d);obtain⟨_,_,U⟩:=World.cells?_some J;refine⟨o,fun q u y=>?_,hQ⟩;have N:q<k:=(by have:=(List.getElem?_eq_some_iff.1 y).1;rw[B]at this;exact this);rw[U q N];exact y)
  refine⟨some s,v,(List.range len').map f,by rw[b];simp,?_,?_,by simpa using hlen⟩
  ·intro h0
   have O:0<len':=(by simpa using h0);obtain⟨u,hu⟩:∃ u,(en (f 0))[0]? =some u:=⟨_,List.getElem?_eq_getElem (by rw[B];exact r)⟩;have hz:=(M 0 O).1 0 u hu;have P:w.cell? s=some u:=(by simpa[Addr.add]using hz);obtain⟨z,R⟩:=zV P;refine⟨s.block,s.off,by rw[← z],by simpa using W,R,fun j u S=>?_⟩;have a6:j<len'*k:=by
    have:=(List.getElem?_eq_some_iff.1 S).1;rw[Dc B]at this
    simpa using this
   obtain⟨q,i,d,rfl⟩:∃ q i,i<k∧j=q*k+i:=⟨j/k,j%k,Nat.mod_lt _ r,by rw[Nat.mul_comm];exact(Nat.div_add_mod j k).symm⟩;have y:q<len':=by
    rcases Nat.lt_or_ge q len' with g|g
    ·exact g
    ·have:=Nat.mul_le_mul_right k g;omega
   rw[Ju B _ q i (by simpa using y) d]at S;have g:=(M q y).1 i u (by simpa using S);rw[z,Addr.add_mid,Addr.add_mid]at g;rw[← Nat.add_assoc];exact g
  ·intro o ho
   obtain⟨i,d,rfl⟩:=List.mem_map.1 ho;exact(M i (List.mem_range.1 d)).2
theorem wR (fuel:Nat)(cs:List Value)(x:DataW H×List MemPlace)(h:DataW.trod enc Tryz.prog w base spare held fuel 83 cs=some x)(_:Ln 83 x.1):∃ o:Rc.Cw,cs=P8 o∧True:=by
 obtain⟨f0,f1,f2,f3,l,⟨m,o1,p,q⟩,t0,t1,t2,t3⟩:=tE;obtain⟨n,b,a⟩:=F6 l h;rw[kL]at b;obtain⟨c0,c1,c2,c3,rfl⟩:=iM b;obtain⟨y,c,r⟩:=a 0 f0 rfl;obtain⟨z,d,s⟩:=a 1 f1 rfl;obtain⟨A,e,t⟩:=a 2 f2 rfl;obtain⟨B,f,u⟩:=a 3 f3 rfl;rw[m,t0,E2]at c;rw[o1,t1,E2]at d;rw[p,t2,E2]at e;rw[q,t3,zR]at f;obtain⟨i0,g,_,_⟩:=DataW.trod_int Q4 c;obtain⟨i1,i,_,_⟩:=DataW.trod_int Q4 d;obtain⟨i2,j,_,_⟩:=DataW.trod_int Q4 e;obtain⟨v,k,_⟩:=DataW.trod_bool zZ f
 simp at g i j k
 exact⟨⟨i0,i1,i2,v⟩,by rw[g,i,j,k];rfl,trivial⟩
theorem wS (fuel:Nat)(cs:List Value)(x:DataW H×List MemPlace)(h:DataW.trod enc Tryz.prog w base spare held fuel 65 cs=some x)(_:Ln 65 x.1):∃ o:Rc.Cx,cs=jQ o∧True:=by
 obtain⟨f0,f1,g,⟨i,o1⟩,t0,t1⟩:=tF;obtain⟨n,a,b⟩:=F6 g h;rw[kM]at a;obtain⟨c0,c1,rfl⟩:=zS a;obtain⟨l,c,j⟩:=b 0 f0 rfl;obtain⟨m,d,k⟩:=b 1 f1 rfl;rw[i,t0,E2]at c;rw[o1,t1,E2]at d;obtain⟨i0,e,_,_⟩:=DataW.trod_int Q4 c;obtain⟨i1,f,_,_⟩:=DataW.trod_int Q4 d
 simp at e f
 exact⟨⟨i0,i1⟩,by rw[e,f];rfl,trivial⟩
theorem tG {fuel:Nat}{cs:List Value}{x:DataW H×List MemPlace}(h:DataW.trod enc Tryz.prog w base spare held fuel 40 cs=some x):∃ o:Rc.Op,cs=[.int .i64 o.kind,.int .i64 o.slot,.string o.A5,.string o.new]:=by
 obtain⟨f0,f1,f2,f3,l,⟨m,o1,p,q⟩,t0,t1,t2,t3⟩:=dP;obtain⟨n,b,a⟩:=F6 l h;rw[Qy]at b;obtain⟨c0,c1,c2,c3,rfl⟩:=iM b;obtain⟨v,c,r⟩:=a 0 f0 rfl;obtain⟨y,d,s⟩:=a 1 f1 rfl;obtain⟨z,e,t⟩:=a 2 f2 rfl;obtain⟨A,f,u⟩:=a 3 f3 rfl;rw[m,t0,E2]at c;rw[o1,t1,E2]at d;rw[p,t2,Vr]at e;rw[q,t3,Vr]at f;obtain⟨i0,g,_,_⟩:=DataW.trod_int Q4 c;obtain⟨i1,i,_,_⟩:=DataW.trod_int Q4 d;obtain⟨i2,j,_,_⟩:=DataW.trod_string Ua e;obtain⟨i3,k,_,_⟩:=DataW.trod_string Ua f
 simp at g i j k
 exact⟨⟨i0,i1,i2,i3⟩,by rw[g,i,j,k]⟩
theorem wT {fuel:Nat}{cs:List Value}{x:DataW H×List MemPlace}(h:DataW.trod enc Tryz.prog w base spare held fuel 44 cs=some x):∃ o:Rc.Key,cs=[.string o.key,.int .i64 o.Ab,.int .i64 o.slot]:=by
 obtain⟨f0,f1,m,⟨p,o1⟩,t0,t1⟩:=tC;obtain⟨g0,g1,b,⟨q,r⟩,s,t⟩:=tD;obtain⟨n,c,d⟩:=F6 m h;rw[kK]at c;obtain⟨c0,c1,c2,rfl⟩:=zT c;obtain⟨B,e,u⟩:=d 0 f0 rfl;obtain⟨C,f,v⟩:=d 1 f1 rfl;rw[p,t0,Vr]at e;rw[o1,t1,wM]at f;obtain⟨i0,g,_,_⟩:=DataW.trod_string Ua e;obtain⟨D,y,a⟩:=F6 b f;obtain⟨E,i,z⟩:=a 0 g0 rfl;obtain⟨F,j,A⟩:=a 1 g1 rfl;rw[q,s,E2]at i;rw[r,t,E2]at j;obtain⟨i2,k,_,_⟩:=DataW.trod_int Q4 i;obtain⟨i3,l,_,_⟩:=DataW.trod_int Q4 j
 simp at g k l
 exact⟨⟨i0,i2,i3⟩,by rw[g,k,l]⟩
instance:Inhabited Rc.Cw:=⟨⟨0,0,0,false⟩⟩
instance:Inhabited Rc.Cx:=⟨⟨0,0⟩⟩
instance:Inhabited Qx:=⟨⟨⟨0,0,0,0,0,0,0,⟨0,0,⟨#[]⟩,⟨#[]⟩⟩,0,0,⟨⟨#[]⟩,0,0⟩,[],[]⟩,none,0,none,0⟩⟩
theorem tH (fuel:Nat)(cs:List Value)(x:DataW H×List MemPlace)(h:DataW.trod enc Tryz.prog w base spare held fuel 47 cs=some x)(I:Ln 47 x.1):∃ p:Qx,cs=recC p∧kJ w p:=by
 obtain⟨f0,f1,f2,f3,f4,f5,f6,f7,f8,f9,f10,f11,f12,hu,⟨o0,o1,o2,o3,o4,o5,o6,o7,o8,o9,s,t,u⟩,⟨t0,t1,t2,t3,t4,t5,t6,t7,t8,t9,t10,t11,t12⟩⟩:=dQ;obtain⟨n,J,a⟩:=F6 hu h;rw[kN]at J;obtain⟨a0,a1,a2,a3,a4,a5,a6,a7,a8,a9,b0,b1,b2,b3,b4,b5,b6,b7,rfl⟩:=zU J;obtain⟨y0,K,aa⟩:=a 0 f0 rfl;obtain⟨y1,L,ad⟩:=a 1 f1 rfl;obtain⟨y2,M,ae⟩:=a 2 f2 rfl;obtain⟨y3,N,af⟩:=a 3 f3 rfl;obtain⟨y4,O,ag⟩:=a 4 f4 rfl;obtain⟨y5,P,ah⟩:=a 5 f5 rfl;obtain⟨y6,R,ai⟩:=a 6 f6 rfl;obtain⟨y7,S,aj⟩:=a 7 f7 rfl;obtain⟨y8,T,ak⟩:=a 8 f8 rfl;obtain⟨y9,U,an⟩:=a 9 f9 rfl;obtain⟨ao,b,V⟩:=a 10 f10 rfl;obtain⟨aq,e,f⟩:=a 11 f11 rfl;obtain⟨ar,g,i⟩:=a 12 f12 rfl;rw[o0,t0,E2]at K;rw[o1,t1,E2]at L;rw[o2,t2,E2]at M;rw[o3,t3,E2]at N;rw[o4,t4,E2]at O;rw[o5,t5,E2]at P;rw[o6,t6,E2]at R;rw[o7,t7,Qy]at S;rw[o8,t8,E2]at T;rw[o9,t9,E2]at U;rw[s,t10,kK]at b;rw[t,t11,wN]at e;rw[u,t12,wO]at g;obtain⟨i0,W,_,_⟩:=DataW.trod_int Q4 K;obtain⟨i1,X,_,_⟩:=DataW.trod_int Q4 L;obtain⟨i2,Y,_,_⟩:=DataW.trod_int Q4 M;obtain⟨i3,Z,_,_⟩:=DataW.trod_int Q4 N;obtain⟨i4,e4,_,_⟩:=DataW.trod_int Q4 O;obtain⟨i5,e5,_,_⟩:=DataW.trod_int Q4 P;obtain⟨i6,e6,_,_⟩:=DataW.trod_int Q4 R;obtain⟨op,e7⟩:=tG S;obtain⟨i8,e8,_,_⟩:=DataW.trod_int Q4 T;obtain⟨i9,e9,_,_⟩:=DataW.trod_int Q4 U;obtain⟨ek,j⟩:=wT b;obtain⟨A,c,ts,l,v,_,y⟩:=Vs (en:=P8) (k:=4) (fun _=>rfl) (by omega) vI kL wP (Q:=fun _=>True) wR (by rw[← t11];exact f I) e;obtain⟨B,d,ds,m,z,_,C⟩:=Vs (en:=jQ) (k:=2) (fun _=>rfl) (by omega) yN kM wQ (Q:=fun _=>True) wS (by rw[← t12];exact i I) g
 simp at W X Y Z e4 e5 e6 e7 e8 e9 j l m
 obtain⟨D,E,F,G⟩:=e7;obtain⟨o,q,r⟩:=j;refine⟨⟨⟨i0,i1,i2,i3,i4,i5,i6,op,i8,i9,ek,ts,ds⟩,A,c,B,d⟩,?_,⟨v,z,y,C⟩⟩;rw[W,X,Y,Z,e4,e5,e6,D,E,F,G,e8,e9,o,q,r,l,m]
 rfl
theorem kO (fuel:Nat)(cs:List Value)(x:DataW H×List MemPlace)(h:DataW.trod enc Tryz.prog w base spare held fuel 9 cs=some x)(a:Ln 9 x.1):∃ o:ByteArray,cs=I3 o∧o.size≤140737488355328:=by
 obtain⟨b,e,rfl,_⟩:=DataW.trod_string Ua h;refine⟨b,e,?_⟩;have c:=a b.data.toList.length (by unfold DataW.weights;exact List.mem_singleton.2 rfl);have d:=reachBytes_lt;have f:b.data.toList.length=b.size:=by simp
 omega
end
structure Gq where
 kind:Int
 Ab:Int
 n:Int
 o:Rc.Op
 p:Qx
def zW (a:Gq):List Value:=.int .i64 a.kind:: .int .i64 a.Ab:: .int .i64 a.n:: .int .i64 a.o.kind:: .int .i64 a.o.slot:: .string a.o.A5:: .string a.o.new::recC a.p
theorem kP (a:Gq):(zW a).length=25:=rfl
instance:Inhabited Gq:=⟨⟨0,0,0,⟨0,0,⟨#[]⟩,⟨#[]⟩⟩,⟨⟨0,0,0,0,0,0,0,⟨0,0,⟨#[]⟩,⟨#[]⟩⟩,0,0,⟨⟨#[]⟩,0,0⟩,[],[]⟩,none,0,none,0⟩⟩⟩
theorem kQ:Tryz.prog.cellsOf 49=25:=by kernel_rfl
theorem wU:1≤Tryz.prog.bytesOf 49:=by decide+kernel
theorem tI:∃ f0 f1 f2 f3 f4:Field,Tryz.prog.underlying 49=some (.struct #[f0,f1,f2,f3,f4])∧(f0.offset=0∧f1.offset=1∧f2.offset=2∧f3.offset=3∧f4.offset=7)∧f0.type=3∧f1.type=3∧f2.type=3∧f3.type=40∧f4.type=47:=⟨_,_,_,_,_,Abi,⟨rfl,rfl,rfl,rfl,rfl⟩,rfl,rfl,rfl,rfl,rfl⟩
section
variable {H : Type} {enc : TypeId × Value → H} {w : World} {base : Nat} {spare : Nat → Bool} {held : Bool}
theorem dR {fuel:Nat}{cs:List Value}{x:DataW H×List MemPlace}(h:DataW.trod enc Tryz.prog w base spare held fuel 40 cs=some x)(d:Ln 40 x.1):∃ o:Rc.Op,cs=[.int .i64 o.kind,.int .i64 o.slot,.string o.A5,.string o.new]∧o.A5.size≤140737488355328∧o.new.size≤140737488355328:=by
 obtain⟨f0,f1,f2,f3,q,⟨r,o1,s,t⟩,t0,t1,t2,t3⟩:=dP;obtain⟨n,e,a⟩:=F6 q h;rw[Qy]at e;obtain⟨c0,c1,c2,c3,rfl⟩:=iM e;obtain⟨y,f,u⟩:=a 0 f0 rfl;obtain⟨z,g,v⟩:=a 1 f1 rfl;obtain⟨A,i,b⟩:=a 2 f2 rfl;obtain⟨B,j,c⟩:=a 3 f3 rfl;rw[r,t0,E2]at f;rw[o1,t1,E2]at g;rw[s,t2,Vr]at i;rw[t,t3,Vr]at j;have g2:=b d;have g3:=c d;rw[t2]at g2;rw[t3]at g3;obtain⟨i0,k,_,_⟩:=DataW.trod_int Q4 f;obtain⟨i1,l,_,_⟩:=DataW.trod_int Q4 g;obtain⟨i2,m,z2⟩:=kO _ _ _ i g2;obtain⟨i3,p,z3⟩:=kO _ _ _ j g3
 simp[I3]at k l m p
 exact⟨⟨i0,i1,i2,i3⟩,by rw[k,l,m,p],z2,z3⟩
theorem wV {fuel:Nat}{p:Qx}{x:DataW H×List MemPlace}(h:DataW.trod enc Tryz.prog w base spare held fuel 47 (recC p)=some x)(c:Ln 47 x.1):p.r.op.new.size≤140737488355328:=by
 obtain⟨f0,f1,f2,f3,f4,f5,f6,f7,f8,f9,f10,f11,f12,d,⟨m,o1,q,s,t,u,o6,f,v,y,g,i,j⟩,⟨t0,t1,t2,t3,t4,t5,t6,t7,t8,t9,t10,t11,t12⟩⟩:=dQ;obtain⟨n,z,k⟩:=F6 d h;obtain⟨A,b,a⟩:=k 7 f7 rfl;rw[f,t7,Qy]at b;obtain⟨o,e,_,z2⟩:=dR b (by rw[← t7];exact a c);have l:((recC p).drop 7).take 4=[.int .i64 p.r.op.kind,.int .i64 p.r.op.slot,.string p.r.op.A5,.string p.r.op.new]:=rfl;rw[l]at e
 simp at e
 rw[e.2.2.2];exact z2
theorem iN (fuel:Nat)(cs:List Value)(x:DataW H×List MemPlace)(h:DataW.trod enc Tryz.prog w base spare held fuel 49 cs=some x)(s:Ln 49 x.1):∃ a:Gq,cs=zW a∧kJ w a.p∧a.o.A5.size≤140737488355328∧a.o.new.size≤140737488355328∧a.n≤9223372036854775807∧a.p.r.op.new.size≤140737488355328:=by
 obtain⟨f0,f1,f2,f3,f4,N,⟨O,o1,P,Q,R⟩,t0,t1,t2,t3,t4⟩:=tI;obtain⟨n,b,d⟩:=F6 N h;rw[kQ]at b;obtain⟨c0,e,rfl⟩:∃ c l,cs=c::l:=by cases cs with|nil=>simp at b|cons c l=>exact⟨c,l,rfl⟩
 obtain⟨c1,f,rfl⟩:∃ c l,e=c::l:=by cases e with|nil=>simp at b|cons c l=>exact⟨c,l,rfl⟩
 obtain⟨c2,g,rfl⟩:∃ c l,f=c::l:=by cases f with|nil=>simp at b|cons c l=>exact⟨c,l,rfl⟩
 obtain⟨c3,i,rfl⟩:∃ c l,g=c::l:=by cases g with|nil=>simp at b|cons c l=>exact⟨c,l,rfl⟩
 obtain⟨c4,j,rfl⟩:∃ c l,i=c::l:=by cases i with|nil=>simp at b|cons c l=>exact⟨c,l,rfl⟩
 obtain⟨c5,k,rfl⟩:∃ c l,j=c::l:=by cases j with|nil=>simp at b|cons c l=>exact⟨c,l,rfl⟩
 obtain⟨S,cs7,rfl⟩:∃ c l,k=c::l:=by cases k with|nil=>simp at b|cons c l=>exact⟨c,l,rfl⟩
 have T:cs7.length=18:=by simpa using b
 obtain⟨Z,D,U⟩:=d 0 f0 rfl;obtain⟨y1,E,V⟩:=d 1 f1 rfl;obtain⟨y2,F,W⟩:=d 2 f2 rfl;obtain⟨y3,G,t⟩:=d 3 f3 rfl;obtain⟨y4,m,q⟩:=d 4 f4 rfl;rw[O,t0,E2]at D;rw[o1,t1,E2]at E;rw[P,t2,E2]at F;rw[Q,t3,Qy]at G;rw[R,t4,kN]at m;obtain⟨i0,I,_,_⟩:=DataW.trod_int Q4 D;obtain⟨i1,J,_,_⟩:=DataW.trod_int Q4 E;obtain⟨i2,K,_,u⟩:=DataW.trod_int Q4 F;obtain⟨o,L,X,z2⟩:=dR G (by rw[← t3];exact t s);have v:((c0::c1::c2::c3::c4::c5::S::cs7).drop 7).take 18=cs7:=by
  show cs7.take 18=cs7
  exact List.take_of_length_le (by omega)
 rw[v]at m;obtain⟨p,M,Y⟩:=tH _ _ _ m (by rw[← t4];exact q s);have y:p.r.op.new.size≤140737488355328:=by
  rw[M]at m;exact wV m (by rw[← t4];exact q s)
 simp at I J K L
 obtain⟨z,A,B,C⟩:=L;exact⟨⟨i0,i1,i2,o,p⟩,by rw[I,J,K,z,A,B,C,M];rfl,Y,X,z2,(bnd u).2,y⟩
theorem open_pkacts2 {r:Reach}{e:Nat}{v:Value}{d:DataW H}{f:List MemPlace}(b:Value.okWide Tryz.prog w r e 22 v)(g:DataW.Trod enc Tryz.prog w base spare held 22 v d f)(h:Ln 22 d):
 ∃ (A:Option Addr) (c:Nat) (l:List Gq),v= .slice A l.length c∧Reads w A c l.length (l.flatMap zW)∧(∀ a∈l,kJ w a.p∧a.o.A5.size≤140737488355328∧a.o.new.size≤140737488355328∧a.n≤9223372036854775807∧a.p.r.op.new.size≤140737488355328)∧l.length≤140737488355328:=by
 obtain⟨a,len,cap,rfl⟩:=okWide_slice Aca b;obtain⟨fuel,i⟩:=g;obtain⟨A,c,l,j,m,q,s⟩:=Vs (en:=zW) (k:=25) kP (by omega) Aca kQ wU (Q:=fun a=>kJ w a.p∧a.o.A5.size≤140737488355328∧a.o.new.size≤140737488355328∧a.n≤9223372036854775807∧a.p.r.op.new.size≤140737488355328) iN h i;exact⟨A,c,l,by simpa[Value.cells]using j,m,q,s⟩
end
open Sc
def Jt (a:Gq):Rc.Rec:=if a.kind=4 then⟨0,0,1,3,a.Ab,a.n,0,a.o,0,0,Rc.D6,[],[]⟩else⟨0,0,1,2,a.Ab,0,0,a.o,1,0,Rc.D6,[],[]⟩
def Lp (o:Rc.Op)(b:ByteArray):ByteArray×Int:=jZ b ⟨o.kind,o.slot,o.A5,o.new⟩
theorem Jq (o:Rc.Op)(b:ByteArray)(h:(Lp o b).2=0):Bo (Lp o b).1=true:=by
 unfold Lp jZ at h ⊢
 split
 ·rename_i a
  have c:=(vD a).2.1;unfold Fs at c;rw[Bool.and_eq_true]at c;exact c.1
 ·rename_i a
  rw[if_neg a]at h;exact absurd h (by decide)
noncomputable def Fu (s:Tx.St) (fs:List Fr) (a:Gq):Px×ByteArray:=
 if a.kind=0 then J6 s fs a.Ab else
 if a.kind=1 then(Qr s fs a.Ab,⟨#[]⟩)else
 if a.kind=2 then(E7 s fs a.Ab,⟨#[]⟩)else
 if a.kind=3∨a.kind=4 then(Dy s fs (Jt a) (Lp a.o),⟨#[]⟩)else
 if a.kind=5 then(D4 s fs a.Ab,⟨#[]⟩)else
 if a.kind=6 then(Te s fs,⟨#[]⟩)else
 (⟨{s with Ai:=Lg.Bs s.Ai},fs,0⟩,⟨#[]⟩)
theorem Xr (z:Int)(_hz: -9223372036854775808≤z∧z≤9223372036854775807)(w:World):
 Cq 8 #[z] w fun e w'=>∃ k:Nat,(1≤k∧k≤5)∧(k:Int)=1+Int.tmod (Int.tmod z 5+5) 5∧e= .returned (.agg #[.int .i64 ((700:Nat):Int),.int .i64 ((8:Nat):Int),.int .i64 (k:Int)])∧Bw w w':=by
 obtain⟨m,c⟩:=ex (Int.tmod z 5);have i: -5<m∧m<5:=by
  rw[c];have j:=Int.tmod_lt_of_pos z (show(0:Int)<5 by decide);have l:=Int.lt_tmod_of_pos z (show(0:Int)<5 by decide);exact⟨l,j⟩
 obtain⟨q,d⟩:=ex (Int.tmod (m+5) 5);have n:0≤q∧q<5:=by rw[d];exact⟨Int.tmod_nonneg _ (by omega),Int.tmod_lt_of_pos _ (by decide)⟩
 have f:Int.tmod z 5=m:=c.symm;have g:Int.tmod (m+5) 5=q:=d.symm;have o:IntKind.i64.wrap m=m:=IntWalk.i64_in _ (by omega);have p:IntKind.i64.wrap (m+5)=m+5:=IntWalk.i64_in _ (by omega);have r:IntKind.i64.wrap q=q:=IntWalk.i64_in _ (by omega);have s:IntKind.i64.wrap (1+q)=1+q:=IntWalk.i64_in _ (by omega);have h:=Hq (fun w' (t:Bw w w')=>show(fun(e:Ending) (w':World)=>∃ k:Nat,(1≤k∧k≤5)∧(k:Int)=1+Int.tmod (Int.tmod z 5+5) 5∧e= .returned (.agg #[.int .i64 ((700:Nat):Int),.int .i64 ((8:Nat):Int),.int .i64 (k:Int)])∧Bw w w') (.returned (.agg #[.int .i64 700,.int .i64 8,.int .i64 (1+q)])) w' from
  ⟨(1+q).toNat,by omega,by rw[f,g];omega,by rw[show(((1+q).toNat:Nat):Int)=1+q by omega];rfl,t⟩)
 generalize (fun(e:Ending) (w':World)=>∃ k:Nat,(1≤k∧k≤5)∧(k:Int)=1+Int.tmod (Int.tmod z 5+5) 5∧e= .returned (.agg #[.int .i64 ((700:Nat):Int),.int .i64 ((8:Nat):Int),.int .i64 (k:Int)])∧Bw w w')=Q at h ⊢;clear c d;go_enter Tryz.func8,Tryz.ntmps8;go_upto_region 1 with fail;have a:=yB w #[(),(),()] 25;obtain⟨u,b⟩:=Gz a;rw[← b]at a ⊢;clear b
 go_wp2_with(with_reducible refine lS #[.int .i64 700,.int .i64 8,.int .i64 (1+q)] a.out.Am ?_)
 refine rT1 a.out.Am Abd ?_;exact h.out _ (a.out.row 0 _ _ rfl).below
theorem tJ (a:Gq)(w:World):
 Cr 35 #[.agg #[a.kind,a.Ab,a.n,a.o.kind,a.o.slot,a.o.A5,a.o.new,a.p.r.lsn,a.p.r.prev,a.p.r.txn,a.p.r.kind,a.p.r.Ab,a.p.r.next,a.p.r.num,a.p.r.op.kind,a.p.r.op.slot,a.p.r.op.A5,a.p.r.op.new,a.p.r.how,a.p.r.root,a.p.r.e.key,a.p.r.e.Ab,a.p.r.e.slot,.slice a.p.A a.p.r.txns.length a.p.c,.slice a.p.B a.p.r.dirty.length a.p.d]] w (.agg (Ec (Jt a) (.slice none 0 0) (.slice none 0 0))):=by
 have HY:=Hq (fun(h4:a.kind=4) w' (hb:Bw w w')=>show(fun(e:Ending) (w':World)=>e= .returned (.agg (Ec (Jt a) (.slice none 0 0) (.slice none 0 0)))∧Bw w w') (.returned (.agg #[(),(),.int .i64 1,.int .i64 3,a.Ab,a.n,(),a.o.kind,a.o.slot,a.o.A5,a.o.new,(),(),"",(),(),'s','s'])) w' from by
  refine⟨?_,hb⟩
  unfold Jt
  rw[if_pos h4];rfl)
 have HN:=Hq (fun(h4:¬ a.kind=4) w' (hb:Bw w w')=>show(fun(e:Ending) (w':World)=>e= .returned (.agg (Ec (Jt a) (.slice none 0 0) (.slice none 0 0)))∧Bw w w') (.returned (.agg #[(),(),.int .i64 1,.int .i64 2,a.Ab,(),(),a.o.kind,a.o.slot,a.o.A5,a.o.new,.int .i64 1,(),"",(),(),'s','s'])) w' from by
  refine⟨?_,hb⟩
  unfold Jt
  rw[if_neg h4];rfl)
 unfold Cr
 generalize (fun(e:Ending) (w':World)=>e= .returned (.agg (Ec (Jt a) (.slice none 0 0) (.slice none 0 0)))∧Bw w w')=Q at HY HN ⊢
 go_enter Tryz.func35,Tryz.ntmps35
 go_upto_region 1 with fail
 have H0:=O2 w #[a.kind,a.Ab,a.n,a.o.kind,a.o.slot,a.o.A5,a.o.new,a.p.r.lsn,a.p.r.prev,a.p.r.txn,a.p.r.kind,a.p.r.Ab,a.p.r.next,a.p.r.num,a.p.r.op.kind,a.p.r.op.slot,a.p.r.op.A5,a.p.r.op.new,a.p.r.how,a.p.r.root,a.p.r.e.key,a.p.r.e.Ab,a.p.r.e.slot,.slice a.p.A a.p.r.txns.length a.p.c,.slice a.p.B a.p.r.dirty.length a.p.d] 49 #[(),(),(),(),(),(),(),(),(),"","",(),(),"",(),(),'s','s'] 47
 obtain⟨W0,hW0⟩:=Gz H0
 rw[← hW0]at H0 ⊢
 clear hW0
 have hc1:=show W0.cell? ⟨w.heap.size,1,none⟩=some (.int .i64 a.Ab)from by rw[Aa H0.out.Am];rfl
 go_upto_region 2 with(first|with_reducible refine lP #[a.o.kind,a.o.slot,a.o.A5,a.o.new] H0.out.Am fC ?_|with_reducible refine sN #[(),(),.int .i64 1,.int .i64 2,a.Ab,(),(),a.o.kind,a.o.slot,a.o.A5,a.o.new,.int .i64 1,(),"",(),(),'s','s'] ?_)
 have hlt:w.heap.size+1<W0.heap.size:=H0.out.lt (i:=1) (by simp)
 have hb1:=Ag W0 (.cells #[(),(),.int .i64 1,.int .i64 2,a.Ab,(),(),a.o.kind,a.o.slot,a.o.A5,a.o.new,.int .i64 1,(),"",(),(),'s','s'] 47)
 have H1:=Hq (H0.out.step hb1)
 have HG1:=Hq (heap_alloc_new W0 (.cells #[(),(),.int .i64 1,.int .i64 2,a.Ab,(),(),a.o.kind,a.o.slot,a.o.A5,a.o.new,.int .i64 1,(),"",(),(),'s','s'] 47))
 obtain⟨g,hg⟩:=ex W0.heap.size
 obtain⟨w1,hw1⟩:=ex (W0.alloc (.cells #[(),(),.int .i64 1,.int .i64 2,a.Ab,(),(),a.o.kind,a.o.slot,a.o.A5,a.o.new,.int .i64 1,(),"",(),(),'s','s'] 47))
 rw[← hg,← hw1]at HG1
 rw[← hw1]at H1
 rw[← hw1,← hg]
 rw[← hg]at hlt
 clear hw1 hg hb1 H0 hc1
 try simp only[Act.put]
 have hc0:=show w1.cell? ⟨w.heap.size,0,none⟩=some (.int .i64 a.kind)from by rw[Aa H1.out.Am];rfl
 by_cases h4:a.kind=4
 ·have hkb:(a.kind==4)=true:=by rw[h4];rfl
  have HK:=Hq h4
  clear h4 HN
  go_upto_region 3 with fail
  go_cut [13] (fun x wc=>wc.heap[g]? =some (.cells #[(),(),.int .i64 1,.int .i64 3,a.Ab,a.n,(),a.o.kind,a.o.slot,a.o.A5,a.o.new,(),(),"",(),(),'s','s'] 47 (0,0))∧Below g w1 wc)
  case first=>
   have hSn:w1.drew.cell? ⟨w.heap.size,2,none⟩=some (.int .i64 a.n):=by rw[show w1.drew.cell? ⟨w.heap.size,2,none⟩=w1.cell? ⟨w.heap.size,2,none⟩from rfl,Aa H1.out.Am];rfl
   have hG:=show w1.drew.heap[g]? =some (.cells #[(),(),.int .i64 1,.int .i64 2,a.Ab,(),(),a.o.kind,a.o.slot,a.o.A5,a.o.new,.int .i64 1,(),"",(),(),'s','s'] 47 (0,0))from HG1.out
   have hQ:Below g w1 w1.drew:=(show Below g w1 w1 from⟨rfl,rfl,rfl,Nat.le_refl _,fun _ _=>rfl⟩).drew
   refine Hw (S:=(fun u=>u.cell? ⟨w.heap.size,2,none⟩=some (.int .i64 a.n))) (fun hHeld=>?_)
   generalize w1.drew=w8 at hSn hG hQ ⊢
   refine Be 0 ?_ (hy:=by
    intro u hSu;have hcl:=hSu
    clear hSu;go_simp;(try with_reducible rfl))
   refine Be 1 ?_ (hy:=by
    intro u hSu;have hcl:=hSu
    clear hSu;go_simp;(try with_reducible rfl))
   refine Be 2 ?_ (hy:=by
    intro u hSu;have hcl:=hSu
    clear hSu;go_simp;(try with_reducible rfl))
   refine D3 3 fun K hK=>?_
   have hcq:=show w8.cell? ⟨g,3,none⟩=some (.int .i64 2)from by rw[Aa hG];rfl
   have hzq:=Aj hG 3
   go_simp
   clear hcq hzq
   have hGm:=show(w8.setCell ⟨g,3,none⟩ (.int .i64 3)).heap[g]? =some (.cells #[(),(),.int .i64 1,.int .i64 3,a.Ab,(),(),a.o.kind,a.o.slot,a.o.A5,a.o.new,.int .i64 1,(),"",(),(),'s','s'] 47 (0,0))from by have:=Cb 3 hG (.int .i64 3);simpa using this
   have hSm:=show(w8.setCell ⟨g,3,none⟩ (.int .i64 3)).cell? ⟨w.heap.size,2,none⟩=some (.int .i64 a.n)from by rw[((show Below g w8 w8 from⟨rfl,rfl,rfl,Nat.le_refl _,fun _ _=>rfl⟩).setCell (p:=⟨g,3,none⟩) (Nat.le_refl _) (.int .i64 3)).cell (p:=⟨w.heap.size,2,none⟩) (by show w.heap.size<g;omega)];exact hSn
   have hQm:=hQ.setCell (p:=⟨g,3,none⟩) (Nat.le_refl _) (.int .i64 3)
   clear hSn hG hQ
   have hG:=hGm
   have hSn:=hSm
   have hQ:=hQm
   clear hGm hSm hQm
   generalize w8.setCell ⟨g,3,none⟩ (.int .i64 3)=w3 at hG hSn hQ ⊢
   refine Db hK (fun hHeld=>?_)
   clear hK K
   refine Be 4 ?_ (hy:=by
    intro u hSu;have hcl:=hSu
    clear hSu;go_simp;(try with_reducible rfl))
   refine D3 5 fun K hK=>?_
   have hcq:=show w3.cell? ⟨g,11,none⟩=some (.int .i64 1)from by rw[Aa hG];rfl
   have hzq:=Aj hG 11
   go_simp
   clear hcq hzq
   have hGm:=show(w3.setCell ⟨g,11,none⟩ (.int .i64 0)).heap[g]? =some (.cells #[(),(),.int .i64 1,.int .i64 3,a.Ab,(),(),a.o.kind,a.o.slot,a.o.A5,a.o.new,(),(),"",(),(),'s','s'] 47 (0,0))from by have:=Cb 11 hG (.int .i64 0);simpa using this
   have hSm:=show(w3.setCell ⟨g,11,none⟩ (.int .i64 0)).cell? ⟨w.heap.size,2,none⟩=some (.int .i64 a.n)from by rw[((show Below g w3 w3 from⟨rfl,rfl,rfl,Nat.le_refl _,fun _ _=>rfl⟩).setCell (p:=⟨g,11,none⟩) (Nat.le_refl _) (.int .i64 0)).cell (p:=⟨w.heap.size,2,none⟩) (by show w.heap.size<g;omega)];exact hSn
   have hQm:=hQ.setCell (p:=⟨g,11,none⟩) (Nat.le_refl _) (.int .i64 0)
   clear hSn hG hQ
   have hG:=hGm
   have hSn:=hSm
   have hQ:=hQm
   clear hGm hSm hQm
   generalize w3.setCell ⟨g,11,none⟩ (.int .i64 0)=w4 at hG hSn hQ ⊢
   refine Db hK (fun hHeld=>?_)
   clear hK K
   refine Be 6 ?_ (hy:=by
    intro u hSu;have hcl:=hSu
    clear hSu;go_simp;(try with_reducible rfl))
   refine D3 7 fun K hK=>?_
   have hcq:=show w4.cell? ⟨g,5,none⟩=some (.int .i64 0)from by rw[Aa hG];rfl
   have hzq:=Aj hG 5
   go_simp
   clear hcq hzq
   have hGm:=show(w4.setCell ⟨g,5,none⟩ (.int .i64 a.n)).heap[g]? =some (.cells #[(),(),.int .i64 1,.int .i64 3,a.Ab,a.n,(),a.o.kind,a.o.slot,a.o.A5,a.o.new,(),(),"",(),(),'s','s'] 47 (0,0))from by have:=Cb 5 hG (.int .i64 a.n);simpa using this
   have hSm:=show(w4.setCell ⟨g,5,none⟩ (.int .i64 a.n)).cell? ⟨w.heap.size,2,none⟩=some (.int .i64 a.n)from by rw[((show Below g w4 w4 from⟨rfl,rfl,rfl,Nat.le_refl _,fun _ _=>rfl⟩).setCell (p:=⟨g,5,none⟩) (Nat.le_refl _) (.int .i64 a.n)).cell (p:=⟨w.heap.size,2,none⟩) (by show w.heap.size<g;omega)];exact hSn
   have hQm:=hQ.setCell (p:=⟨g,5,none⟩) (Nat.le_refl _) (.int .i64 a.n)
   clear hSn hG hQ
   have hG:=hGm
   have hSn:=hSm
   have hQ:=hQm
   clear hGm hSm hQm
   generalize w4.setCell ⟨g,5,none⟩ (.int .i64 a.n)=w5 at hG hSn hQ ⊢
   refine Db hK (fun hHeld=>?_)
   clear hK K
   refine wpAnyH_done Kr ?_ _
   clear hHeld
   go_wp2_with fail
   go_meet
   case rel=>exact⟨hG,hQ⟩
  case rest=>
   obtain⟨hg3,hb3⟩:=hcut
   have H3:=Hq (H1.out.under (M:=g) (by simp;omega) hb3)
   have HG3:=Hq hg3
   clear hg3 hb3
   go_wp2_with(first|with_reducible refine lL HG3.out Ca ?_|with_reducible refine lS #[(),(),.int .i64 1,.int .i64 3,a.Ab,a.n,(),a.o.kind,a.o.slot,a.o.A5,a.o.new,(),(),"",(),(),'s','s'] H3.out.As ?_)
   refine rT1 H3.out.As Ca ?_
   exact HY.out HK.out _ (H3.out.row 1 _ _ rfl).below
 ·have hkb:(a.kind==4)=false:=beq_eq_false_iff_ne.2 h4
  have HK:=Hq h4
  clear h4 HY
  go_wp2_with(first|with_reducible refine lL HG1.out Ca ?_|with_reducible refine lS #[(),(),.int .i64 1,.int .i64 2,a.Ab,(),(),a.o.kind,a.o.slot,a.o.A5,a.o.new,.int .i64 1,(),"",(),(),'s','s'] H1.out.As ?_)
  refine rT1 H1.out.As Ca ?_
  exact HN.out HK.out _ (H1.out.row 1 _ _ rfl).below
end Go.Proofs.YtdfkambdagoojaaGreatDoor
