import Derived.Test.YtmfkhdhnbkambaaGreatDoorHp00
import Derived.Test.YtmfkhdhnbkambaaGreatDoorCards
import Derived.Test.YtmfkhdhnbkambaaGreatDoorTie
import Derived.Test.YtmfkhdhnbkambaaGreatDoorHp01
import Derived.Test.YtmfkhdhnbkambaaGreatDoorHp24
import Derived.Deep.DeepHandedRow
import Derived.Deep.DeepWitnessRowRef
import Derived.Lib.LaidTab
import Derived.Stop.LaidErr
import Derived.LaidMore
import Derived.LaidLaws
import Derived.Test.YtmfkhdhnbkambaaGreatDoorHp09
import Derived.Deep.Slices
set_option maxRecDepth 100000
set_option maxHeartbeats 16000000
set_option linter.unusedSimpArgs false
namespace Go.Proofs.YtmfkhdhnbkambaaGreatDoor
open Go.ChangeShapes Go.WideShapes Go.ChangeAt Go.RowKit
def laidAll {H:Type}:List (String×DataW H):=[("math/bits.deBruijn32tab",Rows.laid_math_bits_deBruijn32tab),("math/bits.deBruijn64tab",Rows.laid_math_bits_deBruijn64tab),("internal/strconv.uint64pow10",Rows.laid_internal_strconv_uint64pow10),("strconv.ErrRange",Rows.laid_strconv_ErrRange),("strconv.ErrSyntax",Rows.laid_strconv_ErrSyntax)]
theorem typeTab:(Tryz.prog.globals[0]?).map (·.type)=some 255:=by kernel_rfl
theorem typeSyn:(Tryz.prog.globals[1]?).map (·.type)=some 191:=by kernel_rfl
theorem typeRan:(Tryz.prog.globals[2]?).map (·.type)=some 191:=by kernel_rfl
theorem cellsTab:Tryz.prog.cellsOf 255=20:=by kernel_rfl
theorem cellsWord:Tryz.prog.cellsOf 160=1:=by kernel_rfl
theorem g64:Tryz.prog.globalNamed "math/bits.deBruijn64tab"=some 5:=by kernel_rfl
theorem star: "*"++ "errors.errorString"= "*errors.errorString":=by decide
theorem rowErr (u:TypeId)(h:Tryz.prog.typeName? 3 u=some "*errors.errorString"):u=283:=
 typeName_ptr_named (nm:= "errors.errorString") (by rw[star];kernel_rfl) Kr (by decide) u (by rw[star];exact h)
theorem cellsErr:Tryz.prog.cellsOf 285=1:=by kernel_rfl
theorem cellsStr:Tryz.prog.cellsOf 9=1:=by kernel_rfl
theorem size_of_laid {W:World}(h:laidMet Tryz.prog laidAll W):5≤W.heap.size:=by
 have h2:=h.tail
 obtain⟨ps,⟨g0,t0,cs0,f0,p0,q0,hg0,ht0,hv0,hd0,_,e0⟩,_⟩:=h2
 obtain rfl:=Option.some.inj (g64.symm.trans hg0)
 unfold World.var? at hv0
 simp only[g64,Option.bind_some]at hv0
 rcases Nat.lt_or_ge 5 W.heap.size with hlt|hge
 ·omega
 ·rw[Array.getElem?_eq_none hge]at hv0;cases hv0
theorem vars_of_laid {W:World}(h:laidMet Tryz.prog laidAll W):Vars W:=by
 refine⟨?_,?_,?_,size_of_laid h⟩
 ·have h2:=h.tail.tail
  exact Lib.tabIs_of_head gTab typeTab Tryz.underlying255 Tryz.underlying160 cellsWord cellsTab h2
 ·obtain⟨a,s,hv,_⟩:=laid_sentinel h.tail.tail.tail.tail gSyn typeSyn Tryz.underlying191 rowErr Tryz.underlying283 Tryz.underlying285 rfl rfl Tryz.underlying9 cellsErr cellsStr
  exact⟨_,_,hv⟩
 ·obtain⟨a,s,hv,_⟩:=laid_sentinel h.tail.tail.tail gRan typeRan Tryz.underlying191 rowErr Tryz.underlying283 Tryz.underlying285 rfl rfl Tryz.underlying9 cellsErr cellsStr
  exact⟨_,_,hv⟩
theorem laid_met (os:Os)(args:Array Value):laidMet Tryz.prog laidAll ((World.doorLaid Tryz.prog 334 os).forCall (fun _ _=>0) ⟨#[],args,[]⟩).memory:=
 laidMet_of_run' 8 Kr Kr
end Go.Proofs.YtmfkhdhnbkambaaGreatDoor
namespace Lg
end Lg
namespace Go.Proofs.YtmfkhdhnbkambaaGreatDoor
open Go.RowKit
structure PRec where
 r:Rc.Rec
 A:Option Addr
 c:Nat
 B:Option Addr
 d:Nat
def recC (p:PRec):List Value:=[.int .i64 p.r.lsn,.int .i64 p.r.prev,.int .i64 p.r.txn,.int .i64 p.r.kind,.int .i64 p.r.page,.int .i64 p.r.next,.int .i64 p.r.num,.int .i64 p.r.op.kind,.int .i64 p.r.op.slot,.string p.r.op.old,.string p.r.op.new,.int .i64 p.r.how,.int .i64 p.r.root,.string p.r.e.key,.int .i64 p.r.e.page,.int .i64 p.r.e.slot,.slice p.A p.r.txns.length p.c,.slice p.B p.r.dirty.length p.d]
abbrev PRecR (w:World)(p:PRec):Prop:=RecR w p.r p.A p.c p.B p.d
open Go.ChangeShapes Go.WideShapes Go.ChangeAt
theorem cellsS:Tryz.prog.cellsOf 9=1:=by kernel_rfl
theorem cellsI:Tryz.prog.cellsOf 3=1:=by kernel_rfl
theorem cellsB:Tryz.prog.cellsOf 4=1:=by kernel_rfl
theorem cellsOp:Tryz.prog.cellsOf 42=4:=by kernel_rfl
theorem cellsEn:Tryz.prog.cellsOf 46=3:=by kernel_rfl
theorem cellsRi:Tryz.prog.cellsOf 44=2:=by kernel_rfl
theorem cellsTx:Tryz.prog.cellsOf 59=4:=by kernel_rfl
theorem cellsDi:Tryz.prog.cellsOf 138=2:=by kernel_rfl
theorem cellsTs:Tryz.prog.cellsOf 34=1:=by kernel_rfl
theorem cellsDs:Tryz.prog.cellsOf 47=1:=by kernel_rfl
theorem cellsRe:Tryz.prog.cellsOf 49=18:=by kernel_rfl
theorem opFields:∃ f0 f1 f2 f3:Field,Tryz.prog.underlying 42=some (.struct #[f0,f1,f2,f3])∧(f0.offset=0∧f1.offset=1∧f2.offset=2∧f3.offset=3)∧f0.type=3∧f1.type=3∧f2.type=9∧f3.type=9:=⟨_,_,_,_,Tryz.underlying42,⟨rfl,rfl,rfl,rfl⟩,rfl,rfl,rfl,rfl⟩
theorem enFields:∃ f0 f1:Field,Tryz.prog.underlying 46=some (.struct #[f0,f1])∧(f0.offset=0∧f1.offset=1)∧f0.type=9∧f1.type=44:=⟨_,_,Tryz.underlying46,⟨rfl,rfl⟩,rfl,rfl⟩
theorem riFields:∃ f0 f1:Field,Tryz.prog.underlying 44=some (.struct #[f0,f1])∧(f0.offset=0∧f1.offset=1)∧f0.type=3∧f1.type=3:=⟨_,_,Tryz.underlying44,⟨rfl,rfl⟩,rfl,rfl⟩
theorem txFields:∃ f0 f1 f2 f3:Field,Tryz.prog.underlying 59=some (.struct #[f0,f1,f2,f3])∧(f0.offset=0∧f1.offset=1∧f2.offset=2∧f3.offset=3)∧f0.type=3∧f1.type=3∧f2.type=3∧f3.type=4:=⟨_,_,_,_,Tryz.underlying59,⟨rfl,rfl,rfl,rfl⟩,rfl,rfl,rfl,rfl⟩
theorem diFields:∃ f0 f1:Field,Tryz.prog.underlying 138=some (.struct #[f0,f1])∧(f0.offset=0∧f1.offset=1)∧f0.type=3∧f1.type=3:=⟨_,_,Tryz.underlying138,⟨rfl,rfl⟩,rfl,rfl⟩
theorem reFields:∃ f0 f1 f2 f3 f4 f5 f6 f7 f8 f9 f10 f11 f12:Field,Tryz.prog.underlying 49=some (.struct #[f0,f1,f2,f3,f4,f5,f6,f7,f8,f9,f10,f11,f12])∧
 (f0.offset=0∧f1.offset=1∧f2.offset=2∧f3.offset=3∧f4.offset=4∧f5.offset=5∧f6.offset=6∧f7.offset=7∧f8.offset=11∧f9.offset=12∧f10.offset=13∧f11.offset=16∧f12.offset=17)∧
 (f0.type=3∧f1.type=3∧f2.type=3∧f3.type=3∧f4.type=3∧f5.type=3∧f6.type=3∧f7.type=42∧f8.type=3∧f9.type=3∧f10.type=46∧f11.type=34∧f12.type=47):=
 ⟨_,_,_,_,_,_,_,_,_,_,_,_,_,Tryz.underlying49,⟨rfl,rfl,rfl,rfl,rfl,rfl,rfl,rfl,rfl,rfl,rfl,rfl,rfl⟩,⟨rfl,rfl,rfl,rfl,rfl,rfl,rfl,rfl,rfl,rfl,rfl,rfl,rfl⟩⟩
theorem list2' {α:Type}{l:List α}(h:l.length=2):∃ a b,l=[a,b]:=by
 match l,h with
 |[a,b],_=>exact⟨a,b,rfl⟩
theorem list3' {α:Type}{l:List α}(h:l.length=3):∃ a b c,l=[a,b,c]:=by
 match l,h with
 |[a,b,c],_=>exact⟨a,b,c,rfl⟩
theorem list4' {α:Type}{l:List α}(h:l.length=4):∃ a b c d,l=[a,b,c,d]:=by
 match l,h with
 |[a,b,c,d],_=>exact⟨a,b,c,d,rfl⟩
theorem list18 {α:Type}{l:List α}(h:l.length=18):∃ a0 a1 a2 a3 a4 a5 a6 a7 a8 a9 b0 b1 b2 b3 b4 b5 b6 b7,l=[a0,a1,a2,a3,a4,a5,a6,a7,a8,a9,b0,b1,b2,b3,b4,b5,b6,b7]:=by
 match l,h with
 |[a0,a1,a2,a3,a4,a5,a6,a7,a8,a9,b0,b1,b2,b3,b4,b5,b6,b7],_=>exact⟨a0,a1,a2,a3,a4,a5,a6,a7,a8,a9,b0,b1,b2,b3,b4,b5,b6,b7,rfl⟩
theorem spotOf {w:World}{a:Addr}{v:Value}(h:w.cell? a=some v):a=⟨a.block,a.off,none⟩∧a.block<w.heap.size:=by
 obtain⟨b,off,sp⟩:=a
 unfold World.cell? at h
 cases hh:w.heap[b]? with
 |none=>simp[hh]at h
 |some o=>
  have hlt:b<w.heap.size:=(Array.getElem?_eq_some_iff.1 hh).1
  cases o with
  |cells c t f=>
   simp only[hh]at h
   cases sp with
   |none=>exact⟨rfl,hlt⟩
   |some x=>simp at h
  |_=>simp[hh]at h
def Light {H:Type}(t:TypeId)(d:DataW H):Prop:=∀ n∈DataW.weights Tryz.prog t d,n≤reachBytes
theorem light_of {H:Type}{ts:List TypeId}{ds:List (DataW H)}{j:Nat}{t:TypeId}{d:DataW H}(h:(DataW.weightsEach Tryz.prog ts ds).all (·≤reachBytes)=true)(ht:ts[j]? =some t)(hd:ds[j]? =some d):Light t d:=fun n hn=>by
 have:=List.all_eq_true.1 h _ (DataW.weights_mem_each ht hd n hn)
 simpa using this
theorem weights_mem_all {H:Type}{P:Program}{e:TypeId}{d:DataW H}{n:Nat}(hn:n∈DataW.weights P e d):∀ {l:List (DataW H)},d∈l→n∈DataW.weightsAll P e l:=by
 intro l
 induction l with
 |nil=>intro h;cases h
 |cons a l ih=>
  intro h
  unfold DataW.weightsAll
  rcases List.mem_cons.1 h with h1|h1
  ·subst h1;exact List.mem_append_left _ hn
  ·exact List.mem_append_right _ (ih h1)
theorem bytesTx:1≤Tryz.prog.bytesOf 59:=by decide+kernel
theorem bytesDi:1≤Tryz.prog.bytesOf 138:=by decide+kernel
section
variable {H : Type} {enc : TypeId × Value → H} {w : World} {base : Nat} {spare : Nat → Bool} {held : Bool}
theorem trod_field {t:TypeId}{fs:Array Field}{fuel:Nat}{cs:List Value}{x:DataW H×List MemPlace}(ht:Tryz.prog.underlying t=some (.struct fs))(h:DataW.trod enc Tryz.prog w base spare held fuel t cs=some x):
 ∃ n,cs.length=Tryz.prog.cellsOf t∧∀ (i:Nat) (f:Field),fs[i]? =some f→∃ y,DataW.trod enc Tryz.prog w base spare held n f.type ((cs.drop f.offset).take (Tryz.prog.cellsOf f.type))=some y∧(Light t x.1→Light f.type y.1):=by
 obtain⟨xs,n,_,rfl,hl,hlen,hf⟩:=DataW.trod_struct ht h
 refine⟨n,hl,fun i f hi=>?_⟩
 have hi':i<xs.length:=by rw[hlen];exact(Array.getElem?_eq_some_iff.1 hi).1
 refine⟨xs[i],by rw[hf i f hi,List.getElem?_eq_getElem hi'],fun hL m hm=>hL m ?_⟩
 unfold DataW.weights
 rw[ht]
 exact DataW.weights_mem_each (j:=i) (t:=f.type) (d:=xs[i].1) (by simp[hi]) (by simp[hi']) m hm
theorem trod_row {α:Type}[Inhabited α]{en:α→List Value}{k:Nat}(hk:∀ x,(en x).length=k)(hk0:0<k){t e:TypeId}(ht:Tryz.prog.underlying t=some (.slice e))(hce:Tryz.prog.cellsOf e=k)(hbe:1≤Tryz.prog.bytesOf e){Q:α→Prop}
 (he:∀ (fuel:Nat) (cs:List Value) (x:DataW H×List MemPlace),DataW.trod enc Tryz.prog w base spare held fuel e cs=some x→Light e x.1→∃ o,cs=en o∧Q o)
 {fuel:Nat} {cs:List Value} {x:DataW H×List MemPlace} (hL:Light t x.1) (h:DataW.trod enc Tryz.prog w base spare held fuel t cs=some x):
 ∃ (A:Option Addr) (c:Nat) (l:List α),cs=[.slice A l.length c]∧Reads w A c l.length (l.flatMap en)∧(∀ o∈l,Q o)∧l.length≤140737488355328:=by
 rcases Deep.open_slice ht h with⟨hcs,_⟩|⟨a',len',cap',m,n,D,Pl,hcs,hb,hl,hm,hmm,hx,hall⟩
 ·exact⟨none,0,[],hcs,Reads.none_ _ _ _ _,(fun _ h=>by cases h),Nat.zero_le _⟩
 ·have hlm:len'≤m:=by rw[hmm];split<;>omega
  rw[hce]at hall
  rw[hx]at hL
  have hlen:len'≤140737488355328:=by
   have h1:=hL _ (by unfold DataW.weights;rw[ht];exact List.mem_cons_self ..)
   rw[List.length_map,List.length_range]at h1
   have h2:=reachBytes_lt
   have h3:=Nat.le_mul_of_pos_right (len'+(List.map (fun j=>D (len'+j)) (List.range (m-len'))).length) hbe
   omega
  have hLe:∀ i,i<len'→Light e (D i):=fun i hi n' hn'=>hL n' (by
   unfold DataW.weights;rw[ht]
   exact List.mem_cons_of_mem _ (List.mem_append_left _ (weights_mem_all hn' (List.mem_map.2 ⟨i,List.mem_range.2 hi,rfl⟩))))
  obtain⟨f,hf⟩:=Deep.choose_lt (α:=α) (n:=len') (p:=fun i o=>(∀ q u,(en o)[q]? =some u→w.cell? ((a'.add (i*k)).add q)=some u)∧Q o) (fun i hi=>by
   obtain⟨cs',h1,h2⟩:=hall i (by omega)
   obtain⟨o,rfl,hQ⟩:=he _ _ _ h2 (hLe i hi)
   obtain⟨_,_,h3⟩:=World.cells?_some h1
   refine⟨o,fun q u hq=>?_,hQ⟩
   have hqk:q<k:=by have:=(List.getElem?_eq_some_iff.1 hq).1;rw[hk]at this;exact this
   rw[h3 q hqk];exact hq)
  refine⟨some a',cap',(List.range len').map f,by rw[hcs];simp,?_,?_,by simpa using hlen⟩
  ·intro h0
   have h0':0<len':=by simpa using h0
   obtain⟨u,hu⟩:∃ u,(en (f 0))[0]? =some u:=⟨_,List.getElem?_eq_getElem (by rw[hk];exact hk0)⟩
   have hz:=(hf 0 h0').1 0 u hu
   have hz2:w.cell? a'=some u:=by simpa[Addr.add]using hz
   obtain⟨hsp,hlt⟩:=spotOf hz2
   refine⟨a'.block,a'.off,by rw[← hsp],by simpa using hl,hlt,fun j u hj=>?_⟩
   have hjl:j<len'*k:=by
    have:=(List.getElem?_eq_some_iff.1 hj).1
    rw[flat_len hk]at this
    simpa using this
   obtain⟨q,i,hi,rfl⟩:∃ q i,i<k∧j=q*k+i:=⟨j/k,j%k,Nat.mod_lt _ hk0,by rw[Nat.mul_comm];exact(Nat.div_add_mod j k).symm⟩
   have hq:q<len':=by
    rcases Nat.lt_or_ge q len' with h5|h5
    ·exact h5
    ·have:=Nat.mul_le_mul_right k h5;omega
   rw[flat_at hk _ q i (by simpa using hq) hi]at hj
   have h5:=(hf q hq).1 i u (by simpa using hj)
   rw[hsp,Addr.add_mid,Addr.add_mid]at h5
   rw[← Nat.add_assoc]
   exact h5
  ·intro o ho
   obtain⟨i,hi,rfl⟩:=List.mem_map.1 ho
   exact(hf i (List.mem_range.1 hi)).2
theorem trod_tx (fuel:Nat)(cs:List Value)(x:DataW H×List MemPlace)(h:DataW.trod enc Tryz.prog w base spare held fuel 59 cs=some x)(_:Light 59 x.1):∃ o:Rc.TxnAt,cs=txC o∧True:=by
 obtain⟨f0,f1,f2,f3,hu,⟨o0,o1,o2,o3⟩,t0,t1,t2,t3⟩:=txFields
 obtain⟨n,hl,hf⟩:=trod_field hu h
 rw[cellsTx]at hl
 obtain⟨c0,c1,c2,c3,rfl⟩:=list4' hl
 obtain⟨y0,h0,gh0⟩:=hf 0 f0 rfl
 obtain⟨y1,h1,gh1⟩:=hf 1 f1 rfl
 obtain⟨y2,h2,gh2⟩:=hf 2 f2 rfl
 obtain⟨y3,h3,gh3⟩:=hf 3 f3 rfl
 rw[o0,t0,cellsI]at h0
 rw[o1,t1,cellsI]at h1
 rw[o2,t2,cellsI]at h2
 rw[o3,t3,cellsB]at h3
 obtain⟨i0,e0,_,_⟩:=DataW.trod_int Tryz.underlying3 h0
 obtain⟨i1,e1,_,_⟩:=DataW.trod_int Tryz.underlying3 h1
 obtain⟨i2,e2,_,_⟩:=DataW.trod_int Tryz.underlying3 h2
 obtain⟨b3,e3,_⟩:=DataW.trod_bool Tryz.underlying4 h3
 simp at e0 e1 e2 e3
 exact⟨⟨i0,i1,i2,b3⟩,by rw[e0,e1,e2,e3];rfl,trivial⟩
theorem trod_di (fuel:Nat)(cs:List Value)(x:DataW H×List MemPlace)(h:DataW.trod enc Tryz.prog w base spare held fuel 138 cs=some x)(_:Light 138 x.1):∃ o:Rc.DirtyAt,cs=diC o∧True:=by
 obtain⟨f0,f1,hu,⟨o0,o1⟩,t0,t1⟩:=diFields
 obtain⟨n,hl,hf⟩:=trod_field hu h
 rw[cellsDi]at hl
 obtain⟨c0,c1,rfl⟩:=list2' hl
 obtain⟨y0,h0,gh0⟩:=hf 0 f0 rfl
 obtain⟨y1,h1,gh1⟩:=hf 1 f1 rfl
 rw[o0,t0,cellsI]at h0
 rw[o1,t1,cellsI]at h1
 obtain⟨i0,e0,_,_⟩:=DataW.trod_int Tryz.underlying3 h0
 obtain⟨i1,e1,_,_⟩:=DataW.trod_int Tryz.underlying3 h1
 simp at e0 e1
 exact⟨⟨i0,i1⟩,by rw[e0,e1];rfl,trivial⟩
theorem trod_opr {fuel:Nat}{cs:List Value}{x:DataW H×List MemPlace}(h:DataW.trod enc Tryz.prog w base spare held fuel 42 cs=some x):∃ o:Rc.Op,cs=[.int .i64 o.kind,.int .i64 o.slot,.string o.old,.string o.new]:=by
 obtain⟨f0,f1,f2,f3,hu,⟨o0,o1,o2,o3⟩,t0,t1,t2,t3⟩:=opFields
 obtain⟨n,hl,hf⟩:=trod_field hu h
 rw[cellsOp]at hl
 obtain⟨c0,c1,c2,c3,rfl⟩:=list4' hl
 obtain⟨y0,h0,gh0⟩:=hf 0 f0 rfl
 obtain⟨y1,h1,gh1⟩:=hf 1 f1 rfl
 obtain⟨y2,h2,gh2⟩:=hf 2 f2 rfl
 obtain⟨y3,h3,gh3⟩:=hf 3 f3 rfl
 rw[o0,t0,cellsI]at h0
 rw[o1,t1,cellsI]at h1
 rw[o2,t2,cellsS]at h2
 rw[o3,t3,cellsS]at h3
 obtain⟨i0,e0,_,_⟩:=DataW.trod_int Tryz.underlying3 h0
 obtain⟨i1,e1,_,_⟩:=DataW.trod_int Tryz.underlying3 h1
 obtain⟨i2,e2,_,_⟩:=DataW.trod_string Tryz.underlying9 h2
 obtain⟨i3,e3,_,_⟩:=DataW.trod_string Tryz.underlying9 h3
 simp at e0 e1 e2 e3
 exact⟨⟨i0,i1,i2,i3⟩,by rw[e0,e1,e2,e3]⟩
theorem trod_en {fuel:Nat}{cs:List Value}{x:DataW H×List MemPlace}(h:DataW.trod enc Tryz.prog w base spare held fuel 46 cs=some x):∃ o:Rc.Key,cs=[.string o.key,.int .i64 o.page,.int .i64 o.slot]:=by
 obtain⟨f0,f1,hu,⟨o0,o1⟩,t0,t1⟩:=enFields
 obtain⟨g0,g1,hu2,⟨p0,p1⟩,u0,u1⟩:=riFields
 obtain⟨n,hl,hf⟩:=trod_field hu h
 rw[cellsEn]at hl
 obtain⟨c0,c1,c2,rfl⟩:=list3' hl
 obtain⟨y0,h0,gh0⟩:=hf 0 f0 rfl
 obtain⟨y1,h1,gh1⟩:=hf 1 f1 rfl
 rw[o0,t0,cellsS]at h0
 rw[o1,t1,cellsRi]at h1
 obtain⟨i0,e0,_,_⟩:=DataW.trod_string Tryz.underlying9 h0
 obtain⟨n2,hl2,hf2⟩:=trod_field hu2 h1
 obtain⟨y2,h2,gh2⟩:=hf2 0 g0 rfl
 obtain⟨y3,h3,gh3⟩:=hf2 1 g1 rfl
 rw[p0,u0,cellsI]at h2
 rw[p1,u1,cellsI]at h3
 obtain⟨i2,e2,_,_⟩:=DataW.trod_int Tryz.underlying3 h2
 obtain⟨i3,e3,_,_⟩:=DataW.trod_int Tryz.underlying3 h3
 simp at e0 e2 e3
 exact⟨⟨i0,i2,i3⟩,by rw[e0,e2,e3]⟩
instance:Inhabited Rc.TxnAt:=⟨⟨0,0,0,false⟩⟩
instance:Inhabited Rc.DirtyAt:=⟨⟨0,0⟩⟩
instance:Inhabited PRec:=⟨⟨⟨0,0,0,0,0,0,0,⟨0,0,⟨#[]⟩,⟨#[]⟩⟩,0,0,⟨⟨#[]⟩,0,0⟩,[],[]⟩,none,0,none,0⟩⟩
theorem trod_rec (fuel:Nat)(cs:List Value)(x:DataW H×List MemPlace)(h:DataW.trod enc Tryz.prog w base spare held fuel 49 cs=some x)(hL:Light 49 x.1):∃ p:PRec,cs=recC p∧PRecR w p:=by
 obtain⟨f0,f1,f2,f3,f4,f5,f6,f7,f8,f9,f10,f11,f12,hu,⟨o0,o1,o2,o3,o4,o5,o6,o7,o8,o9,o10,o11,o12⟩,⟨t0,t1,t2,t3,t4,t5,t6,t7,t8,t9,t10,t11,t12⟩⟩:=reFields
 obtain⟨n,hl,hf⟩:=trod_field hu h
 rw[cellsRe]at hl
 obtain⟨a0,a1,a2,a3,a4,a5,a6,a7,a8,a9,b0,b1,b2,b3,b4,b5,b6,b7,rfl⟩:=list18 hl
 obtain⟨y0,h0,gh0⟩:=hf 0 f0 rfl
 obtain⟨y1,h1,gh1⟩:=hf 1 f1 rfl
 obtain⟨y2,h2,gh2⟩:=hf 2 f2 rfl
 obtain⟨y3,h3,gh3⟩:=hf 3 f3 rfl
 obtain⟨y4,h4,gh4⟩:=hf 4 f4 rfl
 obtain⟨y5,h5,gh5⟩:=hf 5 f5 rfl
 obtain⟨y6,h6,gh6⟩:=hf 6 f6 rfl
 obtain⟨y7,h7,gh7⟩:=hf 7 f7 rfl
 obtain⟨y8,h8,gh8⟩:=hf 8 f8 rfl
 obtain⟨y9,h9,gh9⟩:=hf 9 f9 rfl
 obtain⟨y10,h10,gh10⟩:=hf 10 f10 rfl
 obtain⟨y11,h11,gh11⟩:=hf 11 f11 rfl
 obtain⟨y12,h12,gh12⟩:=hf 12 f12 rfl
 rw[o0,t0,cellsI]at h0
 rw[o1,t1,cellsI]at h1
 rw[o2,t2,cellsI]at h2
 rw[o3,t3,cellsI]at h3
 rw[o4,t4,cellsI]at h4
 rw[o5,t5,cellsI]at h5
 rw[o6,t6,cellsI]at h6
 rw[o7,t7,cellsOp]at h7
 rw[o8,t8,cellsI]at h8
 rw[o9,t9,cellsI]at h9
 rw[o10,t10,cellsEn]at h10
 rw[o11,t11,cellsTs]at h11
 rw[o12,t12,cellsDs]at h12
 obtain⟨i0,e0,_,_⟩:=DataW.trod_int Tryz.underlying3 h0
 obtain⟨i1,e1,_,_⟩:=DataW.trod_int Tryz.underlying3 h1
 obtain⟨i2,e2,_,_⟩:=DataW.trod_int Tryz.underlying3 h2
 obtain⟨i3,e3,_,_⟩:=DataW.trod_int Tryz.underlying3 h3
 obtain⟨i4,e4,_,_⟩:=DataW.trod_int Tryz.underlying3 h4
 obtain⟨i5,e5,_,_⟩:=DataW.trod_int Tryz.underlying3 h5
 obtain⟨i6,e6,_,_⟩:=DataW.trod_int Tryz.underlying3 h6
 obtain⟨op,e7⟩:=trod_opr h7
 obtain⟨i8,e8,_,_⟩:=DataW.trod_int Tryz.underlying3 h8
 obtain⟨i9,e9,_,_⟩:=DataW.trod_int Tryz.underlying3 h9
 obtain⟨ek,e10⟩:=trod_en h10
 obtain⟨A,c,ts,e11,r11,_,l11⟩:=trod_row (en:=txC) (k:=4) (fun _=>rfl) (by omega) Tryz.underlying34 cellsTx bytesTx (Q:=fun _=>True) trod_tx (by rw[← t11];exact gh11 hL) h11
 obtain⟨B,d,ds,e12,r12,_,l12⟩:=trod_row (en:=diC) (k:=2) (fun _=>rfl) (by omega) Tryz.underlying47 cellsDi bytesDi (Q:=fun _=>True) trod_di (by rw[← t12];exact gh12 hL) h12
 simp at e0 e1 e2 e3 e4 e5 e6 e7 e8 e9 e10 e11 e12
 obtain⟨e70,e71,e72,e73⟩:=e7
 obtain⟨e100,e101,e102⟩:=e10
 refine⟨⟨⟨i0,i1,i2,i3,i4,i5,i6,op,i8,i9,ek,ts,ds⟩,A,c,B,d⟩,?_,⟨r11,r12,l11,l12⟩⟩
 rw[e0,e1,e2,e3,e4,e5,e6,e70,e71,e72,e73,e8,e9,e100,e101,e102,e11,e12]
 rfl
theorem trod_st (fuel:Nat)(cs:List Value)(x:DataW H×List MemPlace)(h:DataW.trod enc Tryz.prog w base spare held fuel 9 cs=some x)(hL:Light 9 x.1):∃ o:ByteArray,cs=strC o∧o.size≤140737488355328:=by
 obtain⟨b,e,rfl,_⟩:=DataW.trod_string Tryz.underlying9 h
 refine⟨b,e,?_⟩
 have h1:=hL b.data.toList.length (by unfold DataW.weights;exact List.mem_singleton.2 rfl)
 have h2:=reachBytes_lt
 have h3:b.data.toList.length=b.size:=by simp
 omega
end
structure PkAct where
 kind:Int
 page:Int
 n:Int
 o:Rc.Op
 p:PRec
def pkC (a:PkAct):List Value:=.int .i64 a.kind:: .int .i64 a.page:: .int .i64 a.n:: .int .i64 a.o.kind:: .int .i64 a.o.slot:: .string a.o.old:: .string a.o.new::recC a.p
theorem pkC_len (a:PkAct):(pkC a).length=25:=rfl
instance:Inhabited PkAct:=⟨⟨0,0,0,⟨0,0,⟨#[]⟩,⟨#[]⟩⟩,⟨⟨0,0,0,0,0,0,0,⟨0,0,⟨#[]⟩,⟨#[]⟩⟩,0,0,⟨⟨#[]⟩,0,0⟩,[],[]⟩,none,0,none,0⟩⟩⟩
theorem cellsPk:Tryz.prog.cellsOf 51=25:=by kernel_rfl
theorem bytesPk:1≤Tryz.prog.bytesOf 51:=by decide+kernel
theorem pkFields:∃ f0 f1 f2 f3 f4:Field,Tryz.prog.underlying 51=some (.struct #[f0,f1,f2,f3,f4])∧(f0.offset=0∧f1.offset=1∧f2.offset=2∧f3.offset=3∧f4.offset=7)∧f0.type=3∧f1.type=3∧f2.type=3∧f3.type=42∧f4.type=49:=⟨_,_,_,_,_,Tryz.underlying51,⟨rfl,rfl,rfl,rfl,rfl⟩,rfl,rfl,rfl,rfl,rfl⟩
section
variable {H : Type} {enc : TypeId × Value → H} {w : World} {base : Nat} {spare : Nat → Bool} {held : Bool}
theorem trod_opz {fuel:Nat}{cs:List Value}{x:DataW H×List MemPlace}(h:DataW.trod enc Tryz.prog w base spare held fuel 42 cs=some x)(hL:Light 42 x.1):∃ o:Rc.Op,cs=[.int .i64 o.kind,.int .i64 o.slot,.string o.old,.string o.new]∧o.old.size≤140737488355328∧o.new.size≤140737488355328:=by
 obtain⟨f0,f1,f2,f3,hu,⟨o0,o1,o2,o3⟩,t0,t1,t2,t3⟩:=opFields
 obtain⟨n,hl,hf⟩:=trod_field hu h
 rw[cellsOp]at hl
 obtain⟨c0,c1,c2,c3,rfl⟩:=list4' hl
 obtain⟨y0,h0,gh0⟩:=hf 0 f0 rfl
 obtain⟨y1,h1,gh1⟩:=hf 1 f1 rfl
 obtain⟨y2,h2,gh2⟩:=hf 2 f2 rfl
 obtain⟨y3,h3,gh3⟩:=hf 3 f3 rfl
 rw[o0,t0,cellsI]at h0
 rw[o1,t1,cellsI]at h1
 rw[o2,t2,cellsS]at h2
 rw[o3,t3,cellsS]at h3
 have g2:=gh2 hL
 have g3:=gh3 hL
 rw[t2]at g2
 rw[t3]at g3
 obtain⟨i0,e0,_,_⟩:=DataW.trod_int Tryz.underlying3 h0
 obtain⟨i1,e1,_,_⟩:=DataW.trod_int Tryz.underlying3 h1
 obtain⟨i2,e2,z2⟩:=trod_st _ _ _ h2 g2
 obtain⟨i3,e3,z3⟩:=trod_st _ _ _ h3 g3
 simp[strC]at e0 e1 e2 e3
 exact⟨⟨i0,i1,i2,i3⟩,by rw[e0,e1,e2,e3],z2,z3⟩
theorem trod_pkact (fuel:Nat)(cs:List Value)(x:DataW H×List MemPlace)(h:DataW.trod enc Tryz.prog w base spare held fuel 51 cs=some x)(hL:Light 51 x.1):∃ a:PkAct,cs=pkC a∧PRecR w a.p∧a.o.old.size≤140737488355328∧a.o.new.size≤140737488355328:=by
 obtain⟨f0,f1,f2,f3,f4,hu,⟨o0,o1,o2,o3,o4⟩,t0,t1,t2,t3,t4⟩:=pkFields
 obtain⟨n,hl,hf⟩:=trod_field hu h
 rw[cellsPk]at hl
 obtain⟨c0,cs1,rfl⟩:∃ c l,cs=c::l:=by cases cs with|nil=>simp at hl|cons c l=>exact⟨c,l,rfl⟩
 obtain⟨c1,cs2,rfl⟩:∃ c l,cs1=c::l:=by cases cs1 with|nil=>simp at hl|cons c l=>exact⟨c,l,rfl⟩
 obtain⟨c2,cs3,rfl⟩:∃ c l,cs2=c::l:=by cases cs2 with|nil=>simp at hl|cons c l=>exact⟨c,l,rfl⟩
 obtain⟨c3,cs4,rfl⟩:∃ c l,cs3=c::l:=by cases cs3 with|nil=>simp at hl|cons c l=>exact⟨c,l,rfl⟩
 obtain⟨c4,cs5,rfl⟩:∃ c l,cs4=c::l:=by cases cs4 with|nil=>simp at hl|cons c l=>exact⟨c,l,rfl⟩
 obtain⟨c5,cs6,rfl⟩:∃ c l,cs5=c::l:=by cases cs5 with|nil=>simp at hl|cons c l=>exact⟨c,l,rfl⟩
 obtain⟨c6,cs7,rfl⟩:∃ c l,cs6=c::l:=by cases cs6 with|nil=>simp at hl|cons c l=>exact⟨c,l,rfl⟩
 have hl2:cs7.length=18:=by simpa using hl
 obtain⟨y0,h0,gh0⟩:=hf 0 f0 rfl
 obtain⟨y1,h1,gh1⟩:=hf 1 f1 rfl
 obtain⟨y2,h2,gh2⟩:=hf 2 f2 rfl
 obtain⟨y3,h3,gh3⟩:=hf 3 f3 rfl
 obtain⟨y4,h4,gh4⟩:=hf 4 f4 rfl
 rw[o0,t0,cellsI]at h0
 rw[o1,t1,cellsI]at h1
 rw[o2,t2,cellsI]at h2
 rw[o3,t3,cellsOp]at h3
 rw[o4,t4,cellsRe]at h4
 obtain⟨i0,e0,_,_⟩:=DataW.trod_int Tryz.underlying3 h0
 obtain⟨i1,e1,_,_⟩:=DataW.trod_int Tryz.underlying3 h1
 obtain⟨i2,e2,_,_⟩:=DataW.trod_int Tryz.underlying3 h2
 obtain⟨o,e3,z1,z2⟩:=trod_opz h3 (by rw[← t3];exact gh3 hL)
 have hcs:((c0::c1::c2::c3::c4::c5::c6::cs7).drop 7).take 18=cs7:=by
  show cs7.take 18=cs7
  exact List.take_of_length_le (by omega)
 rw[hcs]at h4
 obtain⟨p,e4,hR⟩:=trod_rec _ _ _ h4 (by rw[← t4];exact gh4 hL)
 simp at e0 e1 e2 e3
 obtain⟨e30,e31,e32,e33⟩:=e3
 exact⟨⟨i0,i1,i2,o,p⟩,by rw[e0,e1,e2,e30,e31,e32,e33,e4];rfl,hR,z1,z2⟩
theorem open_pkacts {r:Reach}{b0:Nat}{v:Value}{d:DataW H}{ps:List MemPlace}(hval:Value.okWide Tryz.prog w r b0 22 v)(hd:DataW.Trod enc Tryz.prog w base spare held 22 v d ps)(hL:Light 22 d):
 ∃ (A:Option Addr) (c:Nat) (l:List PkAct),v= .slice A l.length c∧Reads w A c l.length (l.flatMap pkC)∧(∀ a∈l,PRecR w a.p∧a.o.old.size≤140737488355328∧a.o.new.size≤140737488355328)∧l.length≤140737488355328:=by
 obtain⟨a,len,cap,rfl⟩:=okWide_slice Tryz.underlying22 hval
 obtain⟨fuel,hf⟩:=hd
 obtain⟨A,c,l,h1,h2,h3,h4⟩:=trod_row (en:=pkC) (k:=25) pkC_len (by omega) Tryz.underlying22 cellsPk bytesPk (Q:=fun a=>PRecR w a.p∧a.o.old.size≤140737488355328∧a.o.new.size≤140737488355328) trod_pkact hL hf
 exact⟨A,c,l,by simpa[Value.cells]using h1,h2,h3,h4⟩
end
end Go.Proofs.YtmfkhdhnbkambaaGreatDoor
