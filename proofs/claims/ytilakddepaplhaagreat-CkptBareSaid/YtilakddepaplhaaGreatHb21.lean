import Derived.Test.YtilakddepaplhaaGreatHb00
import Derived.Test.YtilakddepaplhaaGreatHb18
import Derived.Test.YtilakddepaplhaaGreatHb16
import Derived.Test.YtilakddepaplhaaGreatHb01
import Derived.Deep.Slices
import Derived.Test.YtilakddepaplhaaGreatHb19
import Derived.Test.YtilakddepaplhaaGreatHb20
set_option maxRecDepth 100000
set_option maxHeartbeats 16000000
set_option linter.unusedSimpArgs false
namespace Go.Proofs.YtilakddepaplhaaGreat
open Go.RowKit
variable {cl : Cl}
structure Dd where
 k:Int
 t:Int
 pg:Int
 n:Int
def ddC (d:Dd):List Value:=[.int .i64 d.k,.int .i64 d.t,.int .i64 d.pg,.int .i64 d.n]
theorem ddC_len (d:Dd):(ddC d).length=4:=rfl
structure CkR (cl:Cl) (n k:Nat) (s:Tx.St) (fs:List Fr):Prop where
 lg:LogI cl s
 dk:DkI s.disk
 zl:s.zlog=(n:Int)
 zp:s.zpages=4
 fr:FrI fs
 tx:s.txns.length≤2*k
 nx:0≤s.next∧s.next≤1+(k:Int)
theorem CkR.ck {n k:Nat}{s:Tx.St}{fs:List Fr}(h:CkR cl n k s fs)(hn:n≤60)(hk:k≤30):CkI cl s fs:=⟨h.lg,h.dk,by rw[h.zl];omega,h.zp,h.fr,by have:=h.tx;omega,by have:=h.nx;omega⟩
theorem CkR.deed {n k:Nat}{s s':Tx.St}{fs fs':List Fr}(h:CkR cl n k s fs)(hd:DoK cl s s')(hf:FrI fs'):CkR cl n (k+1) s' fs':=
 ⟨hd.lg,hd.dk,hd.zl.trans h.zl,hd.zp.trans h.zp,hf,by have:=h.tx;have:=hd.tx;omega,by have:=h.nx;have:=hd.n0;have:=hd.n1;omega⟩
theorem CkR.take {cl2:Cl}{n k:Nat}{s:Tx.St}{fs:List Fr}(h:CkR cl n k s fs)(hN:(n:Int)=cl2.N)(hP:cl2.P (takeT s fs).1.disk (takeT s fs).1.log):CkR cl2 n (k+1) (takeT s fs).1 fs:=by
 have hd:=take_keep fs h.lg h.dk (h.zl.trans hN) hP
 refine⟨hd.lg,hd.dk,hd.zl.trans h.zl,hd.zp.trans h.zp,h.fr,?_,?_⟩
 ·rw[hd.tx];have:=h.tx;omega
 ·rw[hd.nx];have:=h.nx;omega
theorem ck_new (n:Nat)(hn:n≤60)(hN:(n:Int)=cl.N)(hP:cl.P (Lg.newD (n+17)) ⟨1,n,0,0,⟨#[]⟩⟩):CkR cl n 0 (freshT n) freshF:=
 ⟨fresh_log n hn hN hP,fresh_disk n,rfl,rfl,fresh_frames,Nat.zero_le _,by show(0:Int)≤1∧(1:Int)≤1+((0:Nat):Int);omega⟩
open Go.ChangeShapes Go.WideShapes Go.ChangeAt
theorem cellsI:Tryz.prog.cellsOf 3=1:=by kernel_rfl
theorem cellsDd:Tryz.prog.cellsOf 40=4:=by kernel_rfl
theorem bytesDd:1≤Tryz.prog.bytesOf 40:=by decide+kernel
theorem ddFields:∃ f0 f1 f2 f3:Field,Tryz.prog.underlying 40=some (.struct #[f0,f1,f2,f3])∧(f0.offset=0∧f1.offset=1∧f2.offset=2∧f3.offset=3)∧f0.type=3∧f1.type=3∧f2.type=3∧f3.type=3:=⟨_,_,_,_,Tryz.underlying40,⟨rfl,rfl,rfl,rfl⟩,rfl,rfl,rfl,rfl⟩
instance:Inhabited Dd:=⟨⟨0,0,0,0⟩⟩
theorem list4' {α:Type}{l:List α}(h:l.length=4):∃ a b c d,l=[a,b,c,d]:=by
 match l,h with
 |[a,b,c,d],_=>exact⟨a,b,c,d,rfl⟩
theorem spotOf {w:World}{a:Addr}{v:Value}(h:w.cell? a=some v):a=⟨a.block,a.off,none⟩∧a.block<w.heap.size:=by
 obtain⟨b,off,sp⟩:=a
 unfold World.cell? at h
 cases hh:w.heap[b]? with
 |none=>simp[hh]at h
 |some o=>
  have hlt:b<w.heap.size:=(Array.getElem?_eq_some_iff.1 hh).1
  cases o with
  |cells c t f=>
   simp only[hh]at h
   cases sp with
   |none=>exact⟨rfl,hlt⟩
   |some x=>simp at h
  |_=>simp[hh]at h
def Light {H:Type}(t:TypeId)(d:DataW H):Prop:=∀ n∈DataW.weights Tryz.prog t d,n≤reachBytes
theorem light_of {H:Type}{ts:List TypeId}{ds:List (DataW H)}{j:Nat}{t:TypeId}{d:DataW H}(h:(DataW.weightsEach Tryz.prog ts ds).all (·≤reachBytes)=true)(ht:ts[j]? =some t)(hd:ds[j]? =some d):Light t d:=fun n hn=>by
 have:=List.all_eq_true.1 h _ (DataW.weights_mem_each ht hd n hn)
 simpa using this
theorem weights_mem_all {H:Type}{P:Program}{e:TypeId}{d:DataW H}{n:Nat}(hn:n∈DataW.weights P e d):∀ {l:List (DataW H)},d∈l→n∈DataW.weightsAll P e l:=by
 intro l
 induction l with
 |nil=>intro h;cases h
 |cons a l ih=>
  intro h
  unfold DataW.weightsAll
  rcases List.mem_cons.1 h with h1|h1
  ·subst h1;exact List.mem_append_left _ hn
  ·exact List.mem_append_right _ (ih h1)
section
variable {H : Type} {enc : TypeId × Value → H} {w : World} {base : Nat} {spare : Nat → Bool} {held : Bool}
theorem trod_field {t:TypeId}{fs:Array Field}{fuel:Nat}{cs:List Value}{x:DataW H×List MemPlace}(ht:Tryz.prog.underlying t=some (.struct fs))(h:DataW.trod enc Tryz.prog w base spare held fuel t cs=some x):
 ∃ n,cs.length=Tryz.prog.cellsOf t∧∀ (i:Nat) (f:Field),fs[i]? =some f→∃ y,DataW.trod enc Tryz.prog w base spare held n f.type ((cs.drop f.offset).take (Tryz.prog.cellsOf f.type))=some y∧(Light t x.1→Light f.type y.1):=by
 obtain⟨xs,n,_,rfl,hl,hlen,hf⟩:=DataW.trod_struct ht h
 refine⟨n,hl,fun i f hi=>?_⟩
 have hi':i<xs.length:=by rw[hlen];exact(Array.getElem?_eq_some_iff.1 hi).1
 refine⟨xs[i],by rw[hf i f hi,List.getElem?_eq_getElem hi'],fun hL m hm=>hL m ?_⟩
 unfold DataW.weights
 rw[ht]
 exact DataW.weights_mem_each (j:=i) (t:=f.type) (d:=xs[i].1) (by simp[hi]) (by simp[hi']) m hm
theorem trod_row {α:Type}[Inhabited α]{en:α→List Value}{k:Nat}(hk:∀ x,(en x).length=k)(hk0:0<k){t e:TypeId}(ht:Tryz.prog.underlying t=some (.slice e))(hce:Tryz.prog.cellsOf e=k)(hbe:1≤Tryz.prog.bytesOf e){Q:α→Prop}
 (he:∀ (fuel:Nat) (cs:List Value) (x:DataW H×List MemPlace),DataW.trod enc Tryz.prog w base spare held fuel e cs=some x→Light e x.1→∃ o,cs=en o∧Q o)
 {fuel:Nat} {cs:List Value} {x:DataW H×List MemPlace} (hL:Light t x.1) (h:DataW.trod enc Tryz.prog w base spare held fuel t cs=some x):
 ∃ (A:Option Addr) (c:Nat) (l:List α),cs=[.slice A l.length c]∧Reads w A c l.length (l.flatMap en)∧(∀ o∈l,Q o)∧l.length≤140737488355328:=by
 rcases Deep.open_slice ht h with⟨hcs,_⟩|⟨a',len',cap',m,n,D,Pl,hcs,hb,hl,hm,hmm,hx,hall⟩
 ·exact⟨none,0,[],hcs,Reads.none_ _ _ _ _,(fun _ h=>by cases h),Nat.zero_le _⟩
 ·have hlm:len'≤m:=by rw[hmm];split<;>omega
  rw[hce]at hall
  rw[hx]at hL
  have hlen:len'≤140737488355328:=by
   have h1:=hL _ (by unfold DataW.weights;rw[ht];exact List.mem_cons_self ..)
   rw[List.length_map,List.length_range]at h1
   have h2:=reachBytes_lt
   have h3:=Nat.le_mul_of_pos_right (len'+(List.map (fun j=>D (len'+j)) (List.range (m-len'))).length) hbe
   omega
  have hLe:∀ i,i<len'→Light e (D i):=fun i hi n' hn'=>hL n' (by
   unfold DataW.weights;rw[ht]
   exact List.mem_cons_of_mem _ (List.mem_append_left _ (weights_mem_all hn' (List.mem_map.2 ⟨i,List.mem_range.2 hi,rfl⟩))))
  obtain⟨f,hf⟩:=Deep.choose_lt (α:=α) (n:=len') (p:=fun i o=>(∀ q u,(en o)[q]? =some u→w.cell? ((a'.add (i*k)).add q)=some u)∧Q o) (fun i hi=>by
   obtain⟨cs',h1,h2⟩:=hall i (by omega)
   obtain⟨o,rfl,hQ⟩:=he _ _ _ h2 (hLe i hi)
   obtain⟨_,_,h3⟩:=World.cells?_some h1
   refine⟨o,fun q u hq=>?_,hQ⟩
   have hqk:q<k:=by have:=(List.getElem?_eq_some_iff.1 hq).1;rw[hk]at this;exact this
   rw[h3 q hqk];exact hq)
  refine⟨some a',cap',(List.range len').map f,by rw[hcs];simp,?_,?_,by simpa using hlen⟩
  ·intro h0
   have h0':0<len':=by simpa using h0
   obtain⟨u,hu⟩:∃ u,(en (f 0))[0]? =some u:=⟨_,List.getElem?_eq_getElem (by rw[hk];exact hk0)⟩
   have hz:=(hf 0 h0').1 0 u hu
   have hz2:w.cell? a'=some u:=by simpa[Addr.add]using hz
   obtain⟨hsp,hlt⟩:=spotOf hz2
   refine⟨a'.block,a'.off,by rw[← hsp],by simpa using hl,hlt,fun j u hj=>?_⟩
   have hjl:j<len'*k:=by
    have:=(List.getElem?_eq_some_iff.1 hj).1
    rw[flat_len hk]at this
    simpa using this
   obtain⟨q,i,hi,rfl⟩:∃ q i,i<k∧j=q*k+i:=⟨j/k,j%k,Nat.mod_lt _ hk0,by rw[Nat.mul_comm];exact(Nat.div_add_mod j k).symm⟩
   have hq:q<len':=by
    rcases Nat.lt_or_ge q len' with h5|h5
    ·exact h5
    ·have:=Nat.mul_le_mul_right k h5;omega
   rw[flat_at hk _ q i (by simpa using hq) hi]at hj
   have h5:=(hf q hq).1 i u (by simpa using hj)
   rw[hsp,Addr.add_mid,Addr.add_mid]at h5
   rw[← Nat.add_assoc]
   exact h5
  ·intro o ho
   obtain⟨i,hi,rfl⟩:=List.mem_map.1 ho
   exact(hf i (List.mem_range.1 hi)).2
theorem trod_dd (fuel:Nat)(cs:List Value)(x:DataW H×List MemPlace)(h:DataW.trod enc Tryz.prog w base spare held fuel 40 cs=some x)(_:Light 40 x.1):∃ o:Dd,cs=ddC o∧o.n≤9223372036854775807:=by
 obtain⟨f0,f1,f2,f3,hu,⟨o0,o1,o2,o3⟩,t0,t1,t2,t3⟩:=ddFields
 obtain⟨n,hl,hf⟩:=trod_field hu h
 rw[cellsDd]at hl
 obtain⟨c0,c1,c2,c3,rfl⟩:=list4' hl
 obtain⟨y0,h0,gh0⟩:=hf 0 f0 rfl
 rw[o0,t0,cellsI]at h0
 obtain⟨y1,h1,gh1⟩:=hf 1 f1 rfl
 rw[o1,t1,cellsI]at h1
 obtain⟨y2,h2,gh2⟩:=hf 2 f2 rfl
 rw[o2,t2,cellsI]at h2
 obtain⟨y3,h3,gh3⟩:=hf 3 f3 rfl
 rw[o3,t3,cellsI]at h3
 obtain⟨i0,e0,_,_⟩:=DataW.trod_int Tryz.underlying3 h0
 obtain⟨i1,e1,_,_⟩:=DataW.trod_int Tryz.underlying3 h1
 obtain⟨i2,e2,_,_⟩:=DataW.trod_int Tryz.underlying3 h2
 obtain⟨i3,e3,_,w3⟩:=DataW.trod_int Tryz.underlying3 h3
 simp at e0 e1 e2 e3
 exact⟨⟨i0,i1,i2,i3⟩,by rw[e0,e1,e2,e3];rfl,(bnd w3).2⟩
theorem open_dds {r:Reach}{b0:Nat}{v:Value}{d:DataW H}{ps:List MemPlace}(hval:Value.okWide Tryz.prog w r b0 22 v)(hd:DataW.Trod enc Tryz.prog w base spare held 22 v d ps)(hL:Light 22 d):
 ∃ (A:Option Addr) (c:Nat) (l:List Dd),v= .slice A l.length c∧Reads w A c l.length (l.flatMap ddC)∧(∀ d∈l,d.n≤9223372036854775807)∧l.length≤140737488355328:=by
 obtain⟨a,len,cap,rfl⟩:=okWide_slice Tryz.underlying22 hval
 obtain⟨fuel,hf⟩:=hd
 obtain⟨A,c,l,h1,h2,h3,h4⟩:=trod_row (en:=ddC) (k:=4) ddC_len (by omega) Tryz.underlying22 cellsDd bytesDd (Q:=fun d=>d.n≤9223372036854775807) trod_dd hL hf
 exact⟨A,c,l,by simpa[Value.cells]using h1,h2,h3,h4⟩
end
end Go.Proofs.YtilakddepaplhaaGreat
namespace Ck
open Rc Lg
def mast (d:Dk):Int:=masterD (startD d)
theorem mast_same {d d':Dk}(h:d'.sectors[0]? =d.sectors[0]?)(hl:d'.sectors.length=d.sectors.length):mast d'=mast d:=by
 have hs:secAt (startD d') 0=secAt (startD d) 0:=by
  show d'.sectors[0]?.getD _=d.sectors[0]?.getD _
  rw[h]
 have hh:hasD (startD d') 0↔hasD (startD d) 0:=by
  show(0:Int)≤0∧(0:Int)<(d'.sectors.length:Int)↔(0:Int)≤0∧(0:Int)<(d.sectors.length:Int)
  rw[hl]
 have hr:readD (startD d') 0=readD (startD d) 0:=by
  have e:∀ x:Dk,readD (startD x) 0=if hasD (startD x) 0 then(secAt (startD x) 0,0)else(⟨#[]⟩,1):=fun x=>rfl
  rw[e,e]
  by_cases h1:hasD (startD d) 0
  ·rw[if_pos (hh.2 h1),if_pos h1,hs]
  ·rw[if_neg (fun x=>h1 (hh.1 x)),if_neg h1]
 unfold mast masterD
 rw[hr]
theorem mast_down (d:Dk):mast {d with down:=true}=mast d:=mast_same (d:=d) (d':={d with down:=true}) rfl rfl
structure Opn (N:Nat) (d:Dk) (l:List Rec):Prop where
 whole:Whole d.sectors
 len:d.sectors.length=N+17
 opens:(openL (logS 1 N d) (N*128+1) 0).1=l
theorem opn_lies {N:Nat}{d:Dk}{l:List Rec}(hw:Whole d.sectors)(hl:d.sectors.length=N+17)(h:Lies (logS 1 N d) l):Opn N d l:=by
 refine⟨hw,hl,?_⟩
 have h1:=logS_len (F:=1) (N:=N) hw (by omega)
 have h2:=h.room
 have h3:=manyN l
 rw[h.opens (f:=N*128+1) (by omega)]
theorem opn_cut {N:Nat}{d:Dk}{s n:List UInt8}{q:Nat}{r1 r2:List Rec}(hw:Whole d.sectors)(hl:d.sectors.length=N+17)(hs:Lies s r1)(hn:Lies n (r1++r2))(h2:r2≠[])(hsl:s.length=N*128)(hnl:n.length=N*128)(hq:logS 1 N d=mix s n q):Opn N d r1∨Opn N d (r1++r2):=by
 have h3:=manyN (r1++r2)
 have h4:=hn.room
 rcases mix_opens (hsl.trans hnl.symm) hs hn h2 q (f:=N*128+1) (by omega)with h|h
 ·exact .inl ⟨hw,hl,by rw[hq,h]⟩
 ·exact .inr (opn_lies hw hl (by rw[hq,h];exact hn))
theorem Opn.start {N:Nat}{d:Dk}{l:List Rec}(h:Opn N d l):∃ o,openD (startD d) 1 N=(o,l,0):=by
 have hw:Whole (startD d).sectors:=h.whole
 have hl:(startD d).sectors.length=N+17:=h.len
 obtain⟨h1,_⟩:=LInv.opened (F:=1) (N:=N) (d:=startD d) rfl hw (by omega)
 have h3:(openL (logS 1 N (startD d)) (N*128+1) 0).1=l:=h.opens
 rw[h3]at h1
 refine⟨(openD (startD d) 1 N).1,?_⟩
 have e:openD (startD d) 1 N=((openD (startD d) 1 N).1,(openD (startD d) 1 N).2):=rfl
 have h4:(openD (startD d) 1 N).2=(l,0):=h1
 rw[h4]at e
 exact e
theorem Opn.same {N:Nat}{d e:Dk}{l:List Rec}(h:Opn N d l)(hs:e.sectors=d.sectors):Opn N e l:=
 ⟨by rw[hs];exact h.whole,by rw[hs];exact h.len,by unfold logS;rw[hs];exact h.opens⟩
theorem logS_set {N:Nat}{l:List ByteArray}{i:Nat}(hi:i=0∨1+N≤i)(b:ByteArray)(lf:Int)(dn:Bool)(d:Dk)(hd:d.sectors=l):logS 1 N ⟨l.set i b,lf,dn⟩=logS 1 N d:=by
 unfold logS
 simp only
 rw[hd]
 congr 1
 apply List.ext_getElem?
 intro j
 rw[List.getElem?_take,List.getElem?_take]
 split
 ·rw[List.getElem?_drop,List.getElem?_drop,List.getElem?_set_ne (by omega)]
 ·rfl
theorem whole_set {l:List ByteArray}(h:Whole l)(i:Nat){b:ByteArray}(hb:b.size=128):Whole (l.set i b):=fun x hx=>by
 rcases List.mem_or_eq_of_mem_set hx with h1|h1
 ·exact h x h1
 ·rw[h1];exact hb
theorem writeD_cases (d:Dk)(a:Int)(b:ByteArray):writeD d a b=(d,20)∧d.down=true∨d.down=false∧(writeD d a b=(d,1)∨(hasD d a∧b.size=128∧((d.left=0∧writeD d a b=({d with down:=true},20))∨(d.left≠0∧writeD d a b=(⟨d.sectors.set a.toNat b,if 0<d.left then d.left-1 else d.left,false⟩,0))))):=by
 unfold writeD
 cases hd:d.down with
 |true=>exact .inl ⟨by simp,rfl⟩
 |false=>
  refine .inr ⟨rfl,?_⟩
  by_cases h1:hasD d a∧b.size=128
  ·refine .inr ⟨h1.1,h1.2,?_⟩
   by_cases h2:d.left=0
   ·exact .inl ⟨h2,by simp[h1,h2]⟩
   ·exact .inr ⟨h2,by simp[h1,h2]⟩
  ·exact .inl (by simp[h1])
theorem putAll_zero (base:Int)(hb:1≤base)(all:List ByteArray):∀ (i:Nat) (d:Dk),(putAll base all i d).1.sectors[0]? =d.sectors[0]? :=by
 intro i
 induction i with
 |zero=>intro d;rfl
 |succ i ih=>
  intro d
  have hw:∀ b,(writeD d (base+(i:Int)) b).1.sectors[0]? =d.sectors[0]? :=fun b=>by
   rcases writeD_cases d (base+(i:Int)) b with⟨e,_⟩|⟨_,e|⟨_,_,⟨_,e⟩|⟨_,e⟩⟩⟩<;>rw[e]
   show(d.sectors.set (base+(i:Int)).toNat b)[0]? =_
   rw[List.getElem?_set_ne (by omega)]
  unfold putAll
  split
  ·rw[ih];exact hw _
  ·exact hw _
theorem force_zero {d:Dk}{g:Lo}(h:1≤g.from_+firstS g):(forceD d g).1.sectors[0]? =d.sectors[0]? :=by
 unfold forceD
 split
 ·rfl
 ·simp only
  split<;>exact putAll_zero _ h _ _ _
def Fnd (l:List Rec)(m last:Int):Prop:=(m=0∨∃ r∈l,r.lsn=m∧r.kind=9)∧last≤m
theorem Fnd.more {l:List Rec}{m last:Int}(h:Fnd l m last)(l2:List Rec):Fnd (l++l2) m last:=by
 obtain⟨h1,h2⟩:=h
 refine⟨?_,h2⟩
 rcases h1 with h1|⟨r,hr,h3⟩
 ·exact .inl h1
 ·exact .inr ⟨r,List.mem_append_left _ hr,h3⟩
structure Sf (N:Nat) (last:Int) (d:Dk) (g:Lo):Prop where
 whole:Whole d.sectors
 len:d.sectors.length=N+17
 left: -1≤d.left∧d.left≤9223372036854775807
 inv:∃ d0 r1 r2,LInv 1 N d0 g r1 r2∧((d.down=false∧d0=d∧Lies (logS 1 N d) r1∧Fnd r1 (mast d) last)∨(d.down=true∧∃ L,Opn N d L∧Fnd L (mast d) last))
theorem left_dec {x:Int}(h: -1≤x∧x≤9223372036854775807): -1≤(if 0<x then x-1 else x)∧(if 0<x then x-1 else x)≤9223372036854775807:=by split<;>omega
theorem Sf.app {N:Nat}{last:Int}{d:Dk}{g:Lo}(h:Sf N last d g)(r:Rec):Sf N last d (appendD g r).1:=by
 obtain⟨h1,h2,h3,d0,r1,r2,h4,h5⟩:=h
 rcases h4.append r with e|e|⟨_,hg⟩
 ·rw[e];exact⟨h1,h2,h3,d0,r1,r2,h4,h5⟩
 ·rw[e];exact⟨h1,h2,h3,d0,r1,r2,h4,h5⟩
 ·exact⟨h1,h2,h3,d0,r1,_,hg,h5⟩
theorem LInv.base {N:Nat}{d:Dk}{g:Lo}{r1 r2:List Rec}(h:LInv 1 N d g r1 r2):1≤g.from_+firstS g:=by
 rw[h.firstS,h.hf];omega
theorem Sf.frc {N:Nat}{last:Int}{d:Dk}{g:Lo}(h:Sf N last d g):Sf N last (forceD d g).1 (forceD d g).2.1:=by
 obtain⟨h1,h2,h3,d0,r1,r2,h4,h5⟩:=h
 rcases h5 with⟨hup,rfl,hlies,hf⟩|⟨hdn,hL⟩
 ·have hlf:=Tx.forceD_leftN (g:=g) h3
  have hz:=force_zero (d:=d0) (LInv.base h4)
  rcases h4.force hup h3.1 with⟨a1,a2,a3,a4,_,a6,_,a8⟩|⟨a1,a2,a3,_,a5,a6,nn,q,b1,b2,b3⟩
  ·refine⟨a2.whole,a6.trans h2,hlf,_,r1++r2,[],a2,.inl ⟨a3,rfl,a8 (.inl hlies),?_⟩⟩
   rw[mast_same hz a6];exact hf.more r2
  ·refine⟨a5,a6.trans h2,hlf,d0,r1,r2,by rw[a3];exact h4,.inr ⟨force_20 a1,?_⟩⟩
   rw[mast_same hz a6]
   have hsl:=logS_len (F:=1) (N:=N) h1 (by omega)
   rcases opn_cut a5 (a6.trans h2) hlies b1 a2 hsl b2 b3 with hO|hO
   ·exact⟨_,hO,hf⟩
   ·exact⟨_,hO,hf.more r2⟩
 ·by_cases h2':r2=[]
  ·have e:forceD d g=(d,g,0):=by unfold forceD;rw[if_pos (by rw[h4.safe,h4.end_,h2',List.append_nil])]
   rw[e];exact⟨h1,h2,h3,d0,r1,r2,h4,.inr ⟨hdn,hL⟩⟩
  ·rw[h4.force_down h2' hdn];exact⟨h1,h2,h3,d0,r1,r2,h4,.inr ⟨hdn,hL⟩⟩
theorem LInv.out {N:Nat}{d d':Dk}{g:Lo}{r1 r2:List Rec}(h:LInv 1 N d g r1 r2)(hw:Whole d'.sectors)(hl:d'.sectors.length=d.sectors.length)(he:logS 1 N d'=logS 1 N d):LInv 1 N d' g r1 r2:=
 ⟨hw,by rw[hl];exact h.room,h.hf,h.hn,h.row,by rw[he];exact h.pre,h.safe,h.end_,h.tail,h.fit⟩
theorem Sf.wr {N:Nat}{last:Int}{d:Dk}{g:Lo}(h:Sf N last d g)(a:Int)(b:ByteArray)(ha:1+(N:Int)≤a):Sf N last (writeD d a b).1 g:=by
 have h0:=h
 obtain⟨h1,h2,h3,d0,r1,r2,h4,h5⟩:=h
 rcases writeD_cases d a b with⟨e,_⟩|⟨hd,e|⟨hh,hb,⟨_,e⟩|⟨hl,e⟩⟩⟩
 ·rw[e];exact h0
 ·rw[e];exact h0
 ·rw[e]
  rcases h5 with⟨hup,rfl,hlies,hf⟩|⟨hdn,_⟩
  ·refine⟨h1,h2,h3,d0,r1,r2,h4,.inr ⟨rfl,r1,(opn_lies h1 h2 hlies).same rfl,?_⟩⟩
   show Fnd r1 (mast {d0 with down:=true}) last
   rw[mast_down];exact hf
  ·rw[hd]at hdn;cases hdn
 ·rw[e]
  rcases h5 with⟨hup,rfl,hlies,hf⟩|⟨hdn,_⟩
  ·have hS:logS 1 N ⟨d0.sectors.set a.toNat b,if 0<d0.left then d0.left-1 else d0.left,false⟩=logS 1 N d0:=logS_set (.inr (by omega)) b _ _ d0 rfl
   have hW:=whole_set h1 a.toNat hb
   refine⟨hW,by show(d0.sectors.set _ _).length=_;rw[List.length_set];exact h2,left_dec h3,_,r1,r2,LInv.out h4 hW (by show(d0.sectors.set _ _).length=_;rw[List.length_set]) hS,.inl ⟨rfl,rfl,by rw[hS];exact hlies,?_⟩⟩
   have hm:=mast_same (d:=d0) (d':=⟨d0.sectors.set a.toNat b,if 0<d0.left then d0.left-1 else d0.left,false⟩) (by show(d0.sectors.set _ _)[0]? =_;rw[List.getElem?_set_ne (by omega)]) (by show(d0.sectors.set _ _).length=_;rw[List.length_set])
   show Fnd r1 (mast ⟨d0.sectors.set a.toNat b,if 0<d0.left then d0.left-1 else d0.left,false⟩) last
   rw[hm];exact hf
  ·rw[hd]at hdn;cases hdn
noncomputable def takeD (d:Dk) (g:Lo) (r:Rec):Dk×Lo×Int:=
 let x:=appendD g r
 if x.2.2≠0 then(d,g,x.2.2)else
 let y:=forceD d x.1
 if y.2.2≠0 then(y.1,y.2.1,y.2.2)else
 let z:=setD y.1 x.2.1
 (z.1,y.2.1,z.2)
theorem Sf.take {N:Nat}{last:Int}{d:Dk}{g:Lo}(h:Sf N last d g)(r:Rec)(hr:r.kind=9):
 Sf N (if(takeD d g r).2.2=0 then g.end_+1 else last) (takeD d g r).1 (takeD d g r).2.1:=by
 have hA:=(h.app r).frc
 have h0:=h
 obtain⟨h1,h2,h3,d0,r1,r2,h4,h5⟩:=h
 unfold takeD
 simp only
 split
 ·rename_i he;first|exact h0|(simp only at he ⊢;rw[if_neg he];exact h0)
 ·rename_i he
  have hap:=h4.append r
  rcases hap with e|e|⟨e,hg⟩
  ·rw[e]at he;exact absurd (show ¬ (1:Int)=0 by decide) he
  ·rw[e]at he;exact absurd (show ¬ (18:Int)=0 by decide) he
  have e1:(appendD g r).2.1=g.end_+1:=by rw[e]
  generalize appendD g r=x at hA hg e1 ⊢
  obtain⟨g1,n1,k1⟩:=x
  simp only at hA hg e1 ⊢
  subst e1
  split
  ·rename_i hk;first|exact hA|(simp only;rw[if_neg hk];exact hA)
  ·rename_i hk
   have hk0:(forceD d g1).2.2=0:=Classical.not_not.1 hk
   rcases h5 with⟨hup,rfl,hlies,hf⟩|⟨hdn,_⟩
   ·rcases hg.force hup h3.1 with⟨a1,a2,a3,a4,_,a6,_,a8⟩|⟨a1,_⟩
    ·have hz:=force_zero (d:=d0) (LInv.base hg)
     have hF:=Tx.forceD_leftN (g:=g1) h3
     have hfm:Fnd (r1++(r2++[{r with lsn:=g.end_+1}])) (mast (forceD d0 g1).1) last:=by rw[mast_same hz a6];exact hf.more _
     have hL2:=a8 (.inl hlies)
     generalize forceD d0 g1=y at a1 a2 a3 a4 a6 hA hF hfm hL2 ⊢
     obtain⟨d2,g2,k2⟩:=y
     simp only at a1 a2 a3 a4 a6 hA hF hfm hL2 ⊢
     by_cases hn:g.end_+1<0∨1099511627776≤g.end_+1
     ·rw[setD_no hn]
      simp only
      rw[if_neg (by decide)];exact hA
     have hset:=setD_yes (d:=d2) hn
     rcases writeD_cases d2 0 (sectorB (g.end_+1))with⟨e,hdn⟩|⟨_,e|⟨hh,hb,⟨_,e⟩|⟨hl0,e⟩⟩⟩
     ·rw[a3]at hdn;cases hdn
     ·rw[hset,e];simp only;rw[if_neg (by decide)];exact hA
     ·rw[hset,e];simp only;rw[if_neg (by decide)]
      refine⟨a2.whole,a6.trans h2,hF,d2,_,[],a2,.inr ⟨rfl,_,(opn_lies a2.whole (a6.trans h2) hL2).same rfl,?_⟩⟩
      show Fnd _ (mast {d2 with down:=true}) last
      rw[mast_down];exact hfm
     ·have h00:(setD d2 (g.end_+1)).2=0:=by rw[hset,e]
      have hms:=(set_master h00).2
      rw[hset,e]at hms ⊢
      simp only at hms ⊢
      rw[if_pos trivial]
      have hS:logS 1 N ⟨d2.sectors.set 0 (sectorB (g.end_+1)),if 0<d2.left then d2.left-1 else d2.left,false⟩=logS 1 N d2:=logS_set (.inl rfl) _ _ _ d2 rfl
      have hW:=whole_set a2.whole 0 hb
      refine⟨hW,by show(d2.sectors.set _ _).length=_;rw[List.length_set];exact a6.trans h2,left_dec hF,_,_,[],LInv.out a2 hW (by show(d2.sectors.set _ _).length=_;rw[List.length_set]) hS,.inl ⟨rfl,rfl,?_,?_⟩⟩
      ·show Lies (logS 1 N ⟨d2.sectors.set 0 (sectorB (g.end_+1)),_,false⟩) _
       rw[hS];exact hL2
      ·have hm2:mast ⟨d2.sectors.set 0 (sectorB (g.end_+1)),if 0<d2.left then d2.left-1 else d2.left,false⟩=g.end_+1:=hms
       show Fnd _ (mast ⟨d2.sectors.set 0 (sectorB (g.end_+1)),_,false⟩) _
       rw[hm2]
       exact⟨.inr ⟨{r with lsn:=g.end_+1},List.mem_append_right _ (List.mem_append_right _ (List.mem_singleton.2 rfl)),rfl,hr⟩,Int.le_refl _⟩
    ·rw[a1]at hk0;exact absurd hk0 (by decide)
   ·rw[hg.force_down (by simp) hdn]at hk0;exact absurd hk0 (show ¬ (20:Int)=0 by decide)
structure Br (N:Nat) (d:Dk) (g:Lo):Prop where
 whole:Whole d.sectors
 len:d.sectors.length=N+17
 up:d.down=false
 left:d.left= -1
 inv:∃ r1 r2,LInv 1 N d g r1 r2
theorem br_new (N:Nat):Br N (newD (N+17)) ⟨1,N,0,0,⟨#[]⟩⟩:=by
 have hl:(newD (N+17)).sectors.length=N+17:=by show(List.replicate (N+17) zero128).length=_;rw[List.length_replicate]
 have hw:Whole (newD (N+17)).sectors:=newD_wholeN _
 exact⟨hw,hl,rfl,rfl,[],[],LInv.new (F:=1) hw (by omega)⟩
theorem Br.app {N:Nat}{d:Dk}{g:Lo}(h:Br N d g)(r:Rec):Br N d (appendD g r).1:=by
 obtain⟨h1,h2,h3,h4,r1,r2,h5⟩:=h
 rcases h5.append r with e|e|⟨_,hg⟩
 ·rw[e];exact⟨h1,h2,h3,h4,r1,r2,h5⟩
 ·rw[e];exact⟨h1,h2,h3,h4,r1,r2,h5⟩
 ·exact⟨h1,h2,h3,h4,r1,_,hg⟩
theorem Br.force {N:Nat}{d:Dk}{g:Lo}{r1 r2:List Rec}(h:LInv 1 N d g r1 r2)(hd:d.down=false)(hl:d.left= -1):
 (forceD d g).2.2=0∧LInv 1 N (forceD d g).1 (forceD d g).2.1 (r1++r2) []∧(forceD d g).1.down=false∧(forceD d g).1.left= -1∧(forceD d g).1.sectors.length=d.sectors.length:=by
 rcases h.force hd (by omega)with⟨a1,a2,a3,_,a5,a6,_,_⟩|⟨_,_,_,a4,_⟩
 ·exact⟨a1,a2,a3,a5 hl,a6⟩
 ·exact absurd hl a4
theorem Br.frc {N:Nat}{d:Dk}{g:Lo}(h:Br N d g):Br N (forceD d g).1 (forceD d g).2.1:=by
 obtain⟨h1,h2,h3,h4,r1,r2,h5⟩:=h
 obtain⟨_,a2,a3,a4,a5⟩:=Br.force h5 h3 h4
 exact⟨a2.whole,a5.trans h2,a3,a4,_,_,a2⟩
theorem Br.wr {N:Nat}{d:Dk}{g:Lo}(h:Br N d g)(a:Int)(b:ByteArray)(ha:1+(N:Int)≤a):Br N (writeD d a b).1 g:=by
 have h0:=h
 obtain⟨h1,h2,h3,h4,r1,r2,h5⟩:=h
 rcases writeD_cases d a b with⟨_,e⟩|⟨_,e|⟨_,hb,⟨e,_⟩|⟨_,e⟩⟩⟩
 ·rw[h3]at e;cases e
 ·rw[e];exact h0
 ·rw[h4]at e;cases e
 ·rw[e]
  have hS:logS 1 N ⟨d.sectors.set a.toNat b,if 0<d.left then d.left-1 else d.left,false⟩=logS 1 N d:=logS_set (.inr (by omega)) b _ _ d rfl
  have hW:=whole_set h1 a.toNat hb
  exact⟨hW,by show(d.sectors.set _ _).length=_;rw[List.length_set];exact h2,rfl,by show(if 0<d.left then d.left-1 else d.left)= -1;rw[h4];rfl,r1,r2,LInv.out h5 hW (by show(d.sectors.set _ _).length=_;rw[List.length_set]) hS⟩
theorem putAll_far (base:Int)(all:List ByteArray)(j:Nat):∀ (i:Nat) (d:Dk),0≤base→base+(i:Int)≤(j:Int)→(putAll base all i d).1.sectors[j]? =d.sectors[j]? :=by
 intro i
 induction i with
 |zero=>intro d _ _;rfl
 |succ i ih=>
  intro d hb hj
  have hw:∀ b,(writeD d (base+(i:Int)) b).1.sectors[j]? =d.sectors[j]? :=fun b=>by
   rcases writeD_cases d (base+(i:Int)) b with⟨e,_⟩|⟨_,e|⟨_,_,⟨_,e⟩|⟨_,e⟩⟩⟩<;>rw[e]
   show(d.sectors.set (base+(i:Int)).toNat b)[j]? =_
   rw[List.getElem?_set_ne (by omega)]
  unfold putAll
  split
  ·rw[ih _ hb (by omega)];exact hw _
  ·exact hw _
theorem force_far {N:Nat}{d:Dk}{g:Lo}{r1 r2:List Rec}(h:LInv 1 N d g r1 r2)(j:Nat)(hj:1+N≤j):(forceD d g).1.sectors[j]? =d.sectors[j]? :=by
 by_cases h2:r2=[]
 ·have e:forceD d g=(d,g,0):=by unfold forceD;rw[if_pos (by rw[h.safe,h.end_,h2,List.append_nil])]
  rw[e]
 ·obtain⟨n,hs,_⟩:=h.sects h2
  have hf:=hs.fits
  have hb:=h.firstS
  have hff:=h.hf
  unfold forceD
  split
  ·rfl
  ·simp only
   split<;>exact putAll_far _ _ _ _ _ (by omega) (by omega)
theorem LInv.last {N:Nat}{d:Dk}{g:Lo}{rs:List Rec}{r:Rec}(h:LInv 1 N d g (rs++[r]) [])(hd:d.down=false):readL d g r.lsn= .ok r:=by
 obtain⟨h1,h2⟩:=h.read hd rs [] r (by rw[List.append_nil])
 rw[h1];exact h2
theorem Br.take {N:Nat}{d:Dk}{g:Lo}(h:Br N d g)(r:Rec)(hr:Right {r with lsn:=g.end_+1})(hend:0≤g.end_∧g.end_≤1000000):
 (takeD d g r=(d,g,18))∨(∃ d' g',takeD d g r=(d',g',0)∧Whole d'.sectors∧d'.sectors.length=d.sectors.length∧(∀ j,1+N≤j→d'.sectors[j]? =d.sectors[j]?)∧readL d' g' (g.end_+1)= .ok {r with lsn:=g.end_+1}∧(g'.tail.size:Int)≤(N:Int)*128):=by
 obtain⟨h1,h2,h3,h4,r1,r2,h5⟩:=h
 rcases h5.append r with e|e|⟨e,hg⟩
 ·exfalso
  unfold appendD at e
  simp only at e
  rw[if_neg (fun hn=>hn hr)]at e
  split at e
  ·have:=congrArg (fun x=>x.2.2) e;simp at this
  ·have:=congrArg (fun x=>x.2.2) e;simp at this
 ·refine .inl ?_
  unfold takeD
  simp only
  rw[e]
  rfl
 ·refine .inr ?_
  have e1:(appendD g r).2.1=g.end_+1:=by rw[e]
  have e2:(appendD g r).2.2=0:=by rw[e]
  unfold takeD
  generalize appendD g r=x at e1 e2 hg ⊢
  obtain⟨g1,n1,k1⟩:=x
  simp only at e1 e2 hg ⊢
  subst e1 e2
  obtain⟨a1,a2,a3,a4,a5⟩:=Br.force hg h3 h4
  have hfar:=force_far hg
  generalize forceD d g1=y at a1 a2 a3 a4 a5 hfar ⊢
  obtain⟨d2,g2,k2⟩:=y
  simp only at a1 a2 a3 a4 a5 hfar ⊢
  subst a1
  have hset:=setD_yes (d:=d2) (n:=g.end_+1) (by omega)
  have hh:hasD d2 0:=⟨Int.le_refl _,by rw[a5,h2];omega⟩
  have hsz:=sectorB_size (g.end_+1)
  rcases writeD_cases d2 0 (sectorB (g.end_+1))with⟨_,e⟩|⟨_,e|⟨_,hb,⟨e,_⟩|⟨_,e⟩⟩⟩
  ·rw[a3]at e;cases e
  ·exfalso
   have h9:=e
   unfold writeD at h9
   rw[if_neg (by rw[a3];decide)]at h9
   rw[if_neg (by exact fun hn=>hn ⟨hh,hsz⟩)]at h9
   rw[if_neg (by rw[a4];decide)]at h9
   have:=congrArg (fun x=>x.2) h9;simp at this
  ·rw[a4]at e;cases e
  ·have hS:logS 1 N ⟨d2.sectors.set 0 (sectorB (g.end_+1)),if 0<d2.left then d2.left-1 else d2.left,false⟩=logS 1 N d2:=logS_set (.inl rfl) _ _ _ d2 rfl
   have hW:=whole_set a2.whole 0 hb
   have hL:=LInv.out a2 hW (by show(d2.sectors.set _ _).length=_;rw[List.length_set]) hS
   refine⟨_,_,(by rw[hset,e];rfl),hW,by show(d2.sectors.set _ _).length=_;rw[List.length_set];exact a5,fun j hj=>?_,?_,?_⟩
   ·show(d2.sectors.set 0 _)[j]? =_
    rw[List.getElem?_set_ne (by omega)];exact hfar j hj
   ·rw[← List.append_assoc]at hL
    exact LInv.last hL rfl
   ·have h6:=hL.tail_size
    have h7:=hL.end_
    have h8:=hL.fit
    omega
end Ck
namespace Go.Proofs.YtilakddepaplhaaGreat
open Go.RowKit
variable {cl : Cl}
def brCl (n:Nat):Cl:=⟨(n:Int),Ck.Br n,fun _ _ r h=>h.app r,fun _ _ h=>h.frc,fun _ _ a b ha h=>h.wr a b ha⟩
theorem CkR.skip {n k:Nat}{s:Tx.St}{fs:List Fr}(h:CkR cl n k s fs):CkR cl n (k+1) s fs:=⟨h.lg,h.dk,h.zl,h.zp,h.fr,by have:=h.tx;omega,by have:=h.nx;omega⟩
theorem rcOf_num {fs:List Fr}(h:FrI fs)(p:Int):Rc.num (rcOf fs p):=by
 unfold rcOf
 cases hf:fs.find? (fun f=>isD f&&decide (f.page=p))with
 |none=>exact num0
 |some x=>
  obtain⟨i,hi,rfl⟩:=List.getElem_of_mem (List.mem_of_find?_eq_some hf)
  exact h.rc i hi
theorem chk_right {s:Tx.St}{fs:List Fr}(hl:LogI cl s)(hf:FrI fs)(hx:Rc.num s.next)(ht:s.txns.length≤1000):Rc.Right {chk s fs with lsn:=s.log.end_+1}:=by
 have h0:=hl.b.e0
 have h1:=hl.b.e1
 have h4:=hf.n4
 refine Rc.Right.check _ _ _ _ _ _ ⟨by omega,by omega⟩ num0 num0 hx ⟨ht,?_,hl.tr,fun d hd=>?_⟩
 ·show(dirL fs).length≤2000
  rw[dirL_len,Sp.sort_len]
  unfold dirtP
  rw[List.length_map]
  have:=List.length_filter_le isD fs
  omega
 ·obtain⟨p,hp,rfl⟩:=List.mem_map.1 hd
  have hp2:=(Sp.sort_perm _ _).mem_iff.1 hp
  obtain⟨f,hfm,rfl⟩:=List.mem_map.1 hp2
  obtain⟨hf1,hf2⟩:=List.mem_filter.1 hfm
  obtain⟨i,hi,rfl⟩:=List.getElem_of_mem hf1
  have h9:=hf.pg i hi (isD_iff.1 hf2).1
  exact⟨⟨h9.1,by show fs[i].page<8388608;omega⟩,rcOf_num hf _⟩
theorem take_br {n:Nat}{s:Tx.St}{fs:List Fr}(h:Ck.Br n s.disk s.log)(hr:Rc.Right {chk s fs with lsn:=s.log.end_+1})(he:0≤s.log.end_∧s.log.end_≤1000000):
 takeT s fs=(s,18)∨∃ d2 g2,takeT s fs=({s with disk:=d2,log:=g2},0)∧Lg.Whole d2.sectors∧d2.sectors.length=s.disk.sectors.length∧(∀ j,1+n≤j→d2.sectors[j]? =s.disk.sectors[j]?)∧Lg.readL d2 g2 (s.log.end_+1)= .ok {chk s fs with lsn:=s.log.end_+1}∧(g2.tail.size:Int)≤(n:Int)*128:=by
 have e:takeT s fs=({s with disk:=(Ck.takeD s.disk s.log (chk s fs)).1,log:=(Ck.takeD s.disk s.log (chk s fs)).2.1},(Ck.takeD s.disk s.log (chk s fs)).2.2):=by
  unfold takeT takeX Ck.takeD
  simp only
  split
  ·rfl
  ·split<;>rfl
 rcases h.take (chk s fs) hr he with h1|⟨d2,g2,h1,h2⟩
 ·refine .inl ?_
  rw[e,h1]
 ·refine .inr ⟨d2,g2,?_,h2⟩
  rw[e,h1]
theorem ckptbare_any (m:Int)(l:List Dd)(hll:l.length≤140737488355328)(hln:∀ d∈l,d.n≤9223372036854775807)(A:Option Addr)(c:Nat)(w:World)(hr:Reads w A c l.length (l.flatMap ddC)):
 Calls Tryz.prog 4 #[m,.slice A l.length c] w fun e w'=>e= .returned (.bool true)∧Below w.heap.size w w':=by
 have HFW:=Hq (fun W=>cpfew_any m A l.length c W)
 have HAW:=Hq (fun W=>cawake_any W)
 have HR:=Hq hr
 have HLN:=Hq hln
 clear hr hln
 by_cases hfew:0≤m∧m≤60∧l.length≤30
 ·rw[decide_eq_true hfew]at HFW
  obtain⟨hm0,hm1,hl30⟩:=hfew
  obtain⟨n,rfl⟩:=Int.eq_ofNat_of_zero_le hm0
  have hn60:n≤60:=by omega
  have HFS:=Hq (fun W=>cpfresh_any n hn60 W)
  have HK0:=Hq (show CkR (brCl n) n 0 (freshT n) freshF from ck_new n hn60 rfl (Ck.br_new n))
  generalize freshT n=s0 at HFS HK0
  generalize freshF=f0 at HFS HK0
  clear hm0 hm1
  go_enter Tryz.func4,Tryz.ntmps4
  go_upto_region 4 with(first
   |(go_at_call 6;(refine(HFW.out _).mono ?_);rintro e w1 ⟨rfl,hb1⟩)
   |(go_at_call 8;(refine(HFS.out _).mono ?_);rintro e w2 ⟨q,rfl,hpq,hb2⟩)
   |(with_reducible refine sN (stA s0 q) ?_))
  have hba:=allocB w2 (.cells (stA s0 q) 37)
  have HG0:=Hq (heap_alloc_new w2 (.cells (stA s0 q) 37))
  have HP0:=Hq (hpq.below hba)
  have hb12:=joinB hb1 hb2
  have HB0:=Hq (hb12.trans (hba.mono hb12.size))
  have hgw:w.heap.size≤w2.heap.size:=hb12.size
  obtain⟨g,hg⟩:=ex w2.heap.size
  obtain⟨W1,hW1⟩:=ex (w2.alloc (.cells (stA s0 q) 37))
  rw[← hg,← hW1]at HG0
  rw[← hW1]at HP0 HB0
  rw[← hW1,← hg]
  rw[← hg]at hgw
  clear hW1 hg hba hb12 hb1 hb2 hpq HFW HFS
  try simp only[Act.put]
  go_wp2_with fail
  go_loopw [6] (fun i wr=>∃ (k:Nat) (s:Tx.St) (p:SP) (fs:List Fr),k≤l.length∧i= .int .i64 (k:Int)∧wr.heap[g]? =some (.cells (stA s p) 37 (0,0))∧PoolR wr s p fs∧CkR (brCl n) n k s fs∧Below w.heap.size w wr) (fun i _=>l.length-(intOf i).toNat)
  case atStart=>exact⟨0,s0,q,f0,Nat.zero_le _,rfl,HG0.out,HP0.out,HK0.out,HB0.out⟩
  case round=>
   clear HG0 HP0 HK0 HB0
   obtain⟨k,s,p,fs,hk,rfl,hgc,hp,hck,hbw⟩:=hrel
   have HG:=Hq hgc
   have HP:=Hq hp
   have HCK:=Hq hck
   have HBW:=Hq hbw
   clear hgc hp hck hbw
   have hk0:(0:Int)≤(k:Int):=by omega
   by_cases hlt:k<l.length
   ·have hki:(k:Int)<(l.length:Int):=by omega
    have hwk:IntKind.i64.wrap ((k:Int)+1)=(k:Int)+1:=IntWalk.i64_in _ (by omega)
    obtain⟨b,off,rfl,hca,hbl,hcell⟩:=read_at ddC_len (HR.out.below HBW.out) hlt
    have hdn:=HLN.out l[k] (List.getElem_mem hlt)
    generalize l[k]=d at hcell hdn
    obtain⟨dk,dt,dp,dn⟩:=d
    simp only at hdn
    have hd0:=hcell 0 _ rfl
    simp only[Nat.add_zero]at hd0
    by_cases h2:dk=2
    ·have h2b:(dk != 2)=false:=by rw[h2];rfl
     clear hcell hca hbl
     go_wp2_with fail
     go_roundw
     case rel=>exact⟨k+1,s,p,fs,by omega,by go_num,HG.out,HP.out,HCK.out.skip,HBW.out⟩
     case measure=>simp[intOf];omega
    have h2b:(dk != 2)=true:=bne_iff_ne.2 h2
    by_cases h4:dk=4
    ·have h4b:(dk != 4)=false:=by rw[h4];rfl
     clear hcell hca hbl
     go_wp2_with fail
     go_roundw
     case rel=>exact⟨k+1,s,p,fs,by omega,by go_num,HG.out,HP.out,HCK.out.skip,HBW.out⟩
     case measure=>simp[intOf];omega
    have h4b:(dk != 4)=true:=bne_iff_ne.2 h4
    have HDO:=Hq (fun W (hb:Below wr.heap.size wr W)=>cpdo_any s p fs (HCK.out.ck hn60 (by omega)) dk dt dp dn hdn (fun h=>absurd h h4) W (HP.out.below hb))
    have HDR:=Hq (show ∀ u,Below wr.heap.size wr u→u.rangeAt b (off+k*4) [.int .i64 dk,.int .i64 dt,.int .i64 dp,.int .i64 dn]from fun u hu i v hv=>by rw[hu.cell (p:=⟨b,off+k*4+i,none⟩) hbl];exact hcell i v hv)
    clear hcell hca hbl
    go_upto_region 8 with fail
    have hSn:Below wr.heap.size wr wr.drew:=(Below.refl _ wr).drew
    refine wp_region_Z (S:=(fun u=>Below wr.heap.size wr u)) 6 Kr ?_ (fun hHeld=>?_)
    ·exact hSn
    generalize wr.drew=w9 at hSn ⊢
    refine wpAnyZ_take (i:=0) (oi:={dst:=some 40,op:=_,type:=_,pos:=_,after:=_,guard:=_}) (v:=.agg (stA s p)) (p:=[6]) rfl Kr Kr Kr Kr Kr Kr (fun _ _ _ h=>h) (yieldsIf_load_mid (by rfl) 37 (.tmp 5) rfl g 0 (by rfl) (stA s p).toList _ (fun u hu=>(by intro j v hj;rw[Nat.zero_add,blkCell (blkOld HG.out hu)];simpa using hj)) Tryz.underlying37 Kr Kr) (by assumption) ?_
    try simp only[Act.put,pS]
    refine tzP 1 [6] ?_
    refine tzP 2 [6] ?_
    refine tzP 3 [6] ?_
    refine wpAnyZ_take (i:=4) (oi:={dst:=some 44,op:=_,type:=_,pos:=_,after:=_,guard:=_}) (v:=.agg #[dk,dt,dp,dn]) (p:=[6]) rfl Kr Kr Kr Kr Kr Kr (fun _ _ _ h=>h) (yieldsIf_load_mid (by rfl) 40 (.tmp 43) rfl b (off+k*4) (by rfl) [.int .i64 dk,.int .i64 dt,.int .i64 dp,.int .i64 dn] _ HDR.out Tryz.underlying40 Kr Kr) (by assumption) ?_
    try simp only[Act.put,pS]
    refine wpAnyZ_ready (rs:=[5]) Kr (by simp) ?_
    refine AllReadyZ.cons (o:={dst:=some 45,op:=_,type:=_,pos:=_,after:=_,guard:=_}) rfl (fun K hK=>?_) ?_
    rotate_left
    ·exact AllReadyZ.nil
    go_simp
    (refine(HDO.out _ hSn).mono ?_);rintro e u1 ⟨s3,q3,fs3,rfl,hp3,hf3,hdk3,hb1⟩;have hSm:=joinB hSn hb1;clear hSn;have hSn:=hSm;clear hSm;have HGU:=blkOld HG.out hSn
    refine hKo hK (fun hHeld=>?_)
    clear hK K
    refine wpAnyZ_ready (rs:=[6]) Kr (by simp) ?_
    refine AllReadyZ.last (o:={dst:=none,op:=_,type:=_,pos:=_,after:=_,guard:=_}) rfl Kr (fun K hK=>?_) ?_
    rotate_left
    ·exact AllReadyZ.nil
    refine wantedIf (by rfl) ?_
    refine sW (stA s3 q3) HGU ?_
    have HS3:=setRow_heap _ _ _ (stA s3 q3) _ _ HGU
    have HP3:=hp3.other (t:=37) HGU (by decide) (by decide) (by decide) (stA s3 q3)
    have HB3:=rowB hgw (HBW.out.trans (hSn.mono HBW.out.size)) (stA s3 q3)
    refine hK.out _ _ ?_
    clear hK K
    try simp only[Act.put]
    refine wpAnyZ_done Kr ?_ _
    clear hHeld
    go_wp2_with fail
    go_roundw
    case rel=>exact⟨k+1,s3,q3,fs3,by omega,by go_num,HS3,HP3,HCK.out.deed hdk3 hf3,HB3⟩
    case measure=>simp[intOf];omega
   ·obtain rfl:k=l.length:=by omega
    have hend:0≤s.log.end_∧s.log.end_≤1000000:=by have h0:=HCK.out.lg.b.e0;have h1:=HCK.out.lg.b.e1;omega
    have htx:=HCK.out.tx
    have HCT:=Hq (fun W (hb:Below wr.heap.size wr W)=>ctake_any s p fs HCK.out.lg HCK.out.dk HCK.out.fr (by omega) W (HP.out.below hb))
    have HSL:=Hq (show s.disk.sectors.length=n+17 from HCK.out.lg.ev.len)
    have HFI:=Hq HCK.out.fr
    have HKP:=Hq (fun hP=>take_keep (cl2:=Cl.triv (n:Int)) fs HCK.out.lg HCK.out.dk HCK.out.zl hP)
    rcases take_br HCK.out.lg.ev (chk_right HCK.out.lg HCK.out.fr ⟨HCK.out.nx.1,by have:=HCK.out.nx.2;omega⟩ (by omega)) hend with htk|⟨d2,g2,htk,hwh,hln2,hfar,hrd,htl⟩
    ·rw[htk]at HCT
     clear htk HCK HR HLN HKP
     go_upto_region 10 with(first
      |(with_reducible refine lL HG.out Tryz.underlying37 ?_)
      |(go_at_call 10;(refine(HCT.out _ (Below.refl _ wr)).mono ?_);rintro e w3 ⟨q,rfl,hp1,hb3⟩)
      |(with_reducible refine sN (stA s q) ?_))
     have hba3:=allocB w3 (.cells (stA s q) 37)
     have HT4:=Hq (heap_alloc_new w3 (.cells (stA s q) 37))
     have HQ4:=Hq (hp1.below hba3)
     have HB4:=Hq (hb3.trans (hba3.mono hb3.size))
     have HG4:=Hq (blkOld HG.out HB4.out)
     have HP4:=Hq (HP.out.below HB4.out)
     obtain⟨gt,hgt⟩:=ex w3.heap.size
     obtain⟨W4,hW4⟩:=ex (w3.alloc (.cells (stA s q) 37))
     rw[← hgt,← hW4]at HT4
     rw[← hW4]at HQ4 HB4 HG4 HP4
     rw[← hW4,← hgt]
     clear hW4 hgt hba3 hb3 hp1 HG HP HCT
     try simp only[Act.put]
     have HSA:=Hq (fun W (hb:Below W4.heap.size W4 W)=>rsamef_any s p q fs (by have:=HFI.out.n4;omega) (by omega) W (HP4.out.below hb) (HQ4.out.below hb))
     clear HP4 HQ4
     go_wp2_with (first
      |(go_at_call 7;(refine(HAW.out _).mono ?_);rintro e w5 ⟨rfl,hb5⟩;have HB5:=Hq hb5;have HG5:=Hq (blkOld HG4.out hb5);have HT5:=Hq (blkOld HT4.out hb5);clear hb5)
      |(with_reducible refine lL HG5.out Tryz.underlying37 ?_)
      |(with_reducible refine lL HT5.out Tryz.underlying37 ?_)
      |(go_at_call 12;(refine(HSA.out _ HB5.out).mono ?_);rintro e w6 ⟨rfl,hb6⟩))
     go_ret
     exact⟨by simp,joinB HBW.out (joinB HB4.out (joinB HB5.out hb6))⟩
    ·have HTB:=(HKP.out (by trivial)).lg.b
     rw[htk]at HCT HTB
     dsimp only at HTB
     clear HKP
     obtain⟨rr,hrr⟩:=ex ({chk s fs with lsn:=s.log.end_+1}:Rc.Rec)
     have hrk:rr.kind=9:=by rw[hrr];rfl
     have hrn:rr.num=s.next:=by rw[hrr];rfl
     have hrt:rr.txns=s.txns:=by rw[hrr];rfl
     have hrdi:rr.dirty=dirL fs:=by rw[hrr];rfl
     rw[← hrr]at hrd
     have HRD:=Hq (fun(B:Option Addr) (cc:Nat) W (hw:DiskR W d2 B cc)=>show Calls Tryz.prog 15 #[diskV d2 B cc,.agg #[g2.from_,g2.n,g2.end_,g2.safe,g2.tail],.int .i64 (s.log.end_+1)] W (ReadOut (.ok rr) W)from by
      have h9:=logread_any d2 (fun x hx=>Nat.le_of_eq (hwh x hx)) (by have:=HSL.out;omega) B cc g2.from_ g2.n g2.end_ g2.safe g2.tail HTB.e0 (by have:=HTB.e1;simp only at this;omega) (by have:=HTB.f;simp only at this;omega) (by have:=HTB.f;simp only at this;omega) (by omega) (by have:=HTB.t0;simp only at this;omega) (s.log.end_+1) W hw
      rw[show Lg.readL d2 ⟨g2.from_,g2.n,g2.end_,g2.safe,g2.tail⟩ (s.log.end_+1)= .ok rr from hrd]at h9
      exact h9)
     have HL2:=Hq hln2
     have HFAR:=Hq hfar
     have HRK:=Hq hrk
     have HRN:=Hq hrn
     have HRX:=Hq hrt
     have HRY:=Hq hrdi
     clear htk HCK HR HLN hrr hrd hwh HTB hln2 hfar hrk hrn hrt hrdi htl
     have hwe:IntKind.i64.wrap (s.log.end_+1)=s.log.end_+1:=IntWalk.i64_in _ (by omega)
     have hwn:IntKind.i64.wrap (1+(n:Int))=1+(n:Int):=IntWalk.i64_in _ (by omega)
     go_upto_region 10 with(first
      |(with_reducible refine lL HG.out Tryz.underlying37 ?_)
      |(go_at_call 10;(refine(HCT.out _ (Below.refl _ wr)).mono ?_);rintro e w3 ⟨q,rfl,hp1,hb3⟩)
      |(with_reducible refine sN (stA {s with disk:=d2,log:=g2} q) ?_))
     have hba3:=allocB w3 (.cells (stA {s with disk:=d2,log:=g2} q) 37)
     have HT4:=Hq (heap_alloc_new w3 (.cells (stA {s with disk:=d2,log:=g2} q) 37))
     have HQ4:=Hq (hp1.below hba3)
     have HB4:=Hq (hb3.trans (hba3.mono hb3.size))
     have HG4:=Hq (blkOld HG.out HB4.out)
     have HP4:=Hq (HP.out.below HB4.out)
     have hgl:=heapLt HG.out
     have hglt:g<w3.heap.size:=Nat.lt_of_lt_of_le hgl hb3.size
     obtain⟨gt,hgt⟩:=ex w3.heap.size
     obtain⟨W4,hW4⟩:=ex (w3.alloc (.cells (stA {s with disk:=d2,log:=g2} q) 37))
     rw[← hgt,← hW4]at HT4
     rw[← hW4]at HQ4 HB4 HG4 HP4
     rw[← hW4,← hgt]
     rw[← hgt]at hglt
     clear hW4 hgt hba3 hb3 hp1 HG HP HCT
     try simp only[Act.put]
     go_upto_region 13 with(first
      |(with_reducible refine lL HG4.out Tryz.underlying37 ?_)
      |(with_reducible refine sN (stA s p) ?_))
     have hba4:=allocB W4 (.cells (stA s p) 37)
     have HX5:=Hq (heap_alloc_new W4 (.cells (stA s p) 37))
     have HT5:=Hq (blkOld HT4.out hba4)
     have HG5:=Hq (blkOld HG4.out hba4)
     have HQ5:=Hq (HQ4.out.below hba4)
     have HP5:=Hq (HP4.out.below hba4)
     have HB5:=Hq (joinB HB4.out hba4)
     have hgtl:=heapLt HT4.out
     obtain⟨gx,hgx⟩:=ex W4.heap.size
     obtain⟨W5,hW5⟩:=ex (W4.alloc (.cells (stA s p) 37))
     have hwx:wr.heap.size≤gx:=by rw[hgx];exact HB4.out.size
     rw[← hgx,← hW5]at HX5
     rw[← hW5]at HT5 HG5 HQ5 HP5 HB5
     rw[← hW5,← hgx]
     rw[← hgx]at hgtl
     clear hW5 hgx hba4 HT4 HG4 HQ4 HP4 HB4
     try simp only[Act.put]
     have hSn:W5.drew.heap[gt]? =some (.cells (stA {s with disk:=d2,log:=g2} q) 37 (0,0)):=HT5.out
     have hX0:W5.drew.heap[gx]? =some (.cells (stA s p) 37 (0,0)):=HX5.out
     refine rgH (S:=(fun u=>u.heap[gt]? =some (.cells (stA {s with disk:=d2,log:=g2} q) 37 (0,0)))) (fun hHeld=>?_)
     refine tkP 0 ?_
     refine tkV 1 (some 65) (v:=.agg #[.slice q.A d2.sectors.length q.c,d2.left,d2.down]) rfl (yieldsIf_load_mid (by rfl) 29 (.tmp 64) rfl gt 3 (by rfl) [.slice q.A d2.sectors.length q.c,.int .i64 d2.left,.bool d2.down] _ (fun u hu j v hj=>by rw[blkCell hu];rcases j with _|_|_|j<;>simp at hj ⊢<;>exact hj) Tryz.underlying29 Kr Kr) ?_
     try simp only[Act.put,pS]
     refine tkP 2 ?_
     refine tkV 3 (some 67) (v:=.agg #[g2.from_,g2.n,g2.end_,g2.safe,g2.tail]) rfl (yieldsIf_load_mid (by rfl) 31 (.tmp 66) rfl gt 6 (by rfl) [.int .i64 g2.from_,.int .i64 g2.n,.int .i64 g2.end_,.int .i64 g2.safe,.string g2.tail] _ (fun u hu j v hj=>by rw[blkCell hu];rcases j with _|_|_|_|_|j<;>simp at hj ⊢<;>exact hj) Tryz.underlying31 Kr Kr) ?_
     try simp only[Act.put,pS]
     refine tkP 4 ?_
     refine rdP 5 fun K hK=>?_
     refine wantedIf (by rfl) ?_
     refine wp_put_part 29 (.tmp 68) (.tmp 65) rfl gx 3 #[.slice q.A d2.sectors.length q.c,d2.left,d2.down] (stA s p) (stA {s with disk:=d2} {p with A:=q.A,c:=q.c}) _ rfl rfl hX0 Kr Kr Kr Kr ?_
     have hX1:=setRow_heap _ _ _ (stA {s with disk:=d2} {p with A:=q.A,c:=q.c}) _ _ hX0
     have hSm:=(heap_setRow_other W5.drew gx (stA {s with disk:=d2} {p with A:=q.A,c:=q.c}) gt (by omega)).trans hSn
     clear hSn
     have hSn:=hSm
     clear hSm
     refine hKo hK (fun hHeld=>?_)
     clear hK K
     refine tkP 6 ?_
     refine rdP 7 fun K hK=>?_
     refine wantedIf (by rfl) ?_
     refine wp_put_part 31 (.tmp 69) (.tmp 67) rfl gx 6 #[g2.from_,g2.n,g2.end_,g2.safe,g2.tail] (stA {s with disk:=d2} {p with A:=q.A,c:=q.c}) (stA {s with disk:=d2,log:=g2} {p with A:=q.A,c:=q.c}) _ rfl rfl hX1 Kr Kr Kr Kr ?_
     have hX2:=setRow_heap _ _ _ (stA {s with disk:=d2,log:=g2} {p with A:=q.A,c:=q.c}) _ _ hX1
     have hSm:=(heap_setRow_other (W5.drew.setRow gx (stA {s with disk:=d2} {p with A:=q.A,c:=q.c})) gx (stA {s with disk:=d2,log:=g2} {p with A:=q.A,c:=q.c}) gt (by omega)).trans hSn
     clear hSn
     have hSn:=hSm
     clear hSm
     refine hKo hK (fun hHeld=>?_)
     clear hK K
     refine wpAnyH_done Kr ?_ _
     have HG7:=Hq ((heap_setRow_other _ gx (stA {s with disk:=d2,log:=g2} {p with A:=q.A,c:=q.c}) g (by omega)).trans ((heap_setRow_other _ gx (stA {s with disk:=d2} {p with A:=q.A,c:=q.c}) g (by omega)).trans (show W5.drew.heap[g]? =some (.cells (stA s p) 37 (0,0))from HG5.out)))
     have HQ7:=Hq (((HQ5.out.below (Below.refl _ W5).drew).other (t:=37) hX0 (by decide) (by decide) (by decide) (stA {s with disk:=d2} {p with A:=q.A,c:=q.c})).other (t:=37) hX1 (by decide) (by decide) (by decide) (stA {s with disk:=d2,log:=g2} {p with A:=q.A,c:=q.c}))
     have HP7:=Hq (((HP5.out.below (Below.refl _ W5).drew).other (t:=37) hX0 (by decide) (by decide) (by decide) (stA {s with disk:=d2} {p with A:=q.A,c:=q.c})).other (t:=37) hX1 (by decide) (by decide) (by decide) (stA {s with disk:=d2,log:=g2} {p with A:=q.A,c:=q.c}))
     have HB7:=Hq (rowB hwx (rowB hwx (HB5.out.trans ((Below.refl _ W5).drew.mono HB5.out.size)) (stA {s with disk:=d2} {p with A:=q.A,c:=q.c})) (stA {s with disk:=d2,log:=g2} {p with A:=q.A,c:=q.c}))
     have HX7:=Hq hX2
     have HT7:=Hq hSn
     obtain⟨W7,hW7⟩:=ex ((W5.drew.setRow gx (stA {s with disk:=d2} {p with A:=q.A,c:=q.c})).setRow gx (stA {s with disk:=d2,log:=g2} {p with A:=q.A,c:=q.c}))
     rw[← hW7]at HG7 HQ7 HP7 HB7 HX7 HT7
     rw[← hW7]
     clear hW7 hHeld hSn hX0 hX1 hX2 HT5 HG5 HQ5 HP5 HB5 HX5
     have h8c:=show W7.cell? ⟨g,8,none⟩=some (.int .i64 s.log.end_)from by rw[blkCell HG7.out];rfl
     go_upto_region 15 with(first
      |(with_reducible refine lP #[.slice q.A d2.sectors.length q.c,d2.left,d2.down] HT7.out Tryz.underlying29 ?_)
      |(with_reducible refine lP #[g2.from_,g2.n,g2.end_,g2.safe,g2.tail] HT7.out Tryz.underlying31 ?_)
      |(go_at_call 15;(refine(HRD.out _ _ _ HQ7.out.st.dk).mono ?_);rintro e w8 ⟨hb8,RA,rc,RB,rd,rfl,hrec⟩;rw[HRX.out,HRY.out])
      |(with_reducible refine sN (recA rr (.slice RA s.txns.length rc) (.slice RB (dirL fs).length rd)) ?_))
     have HRT:=hrec.rr.txns
     have HRI:=hrec.rr.dirty
     rw[HRX.out]at HRT
     rw[HRY.out]at HRI
     have hba8:=allocB w8 (.cells (recA rr (.slice RA s.txns.length rc) (.slice RB (dirL fs).length rd)) 55)
     have hb9:=hb8.trans (hba8.mono hb8.size)
     have HR9:=Hq (heap_alloc_new w8 (.cells (recA rr (.slice RA s.txns.length rc) (.slice RB (dirL fs).length rd)) 55))
     have HG9:=Hq (blkOld HG7.out hb9)
     have HT9:=Hq (blkOld HT7.out hb9)
     have HX9:=Hq (blkOld HX7.out hb9)
     have HQ9:=Hq (HQ7.out.below hb9)
     have HP9:=Hq (HP7.out.below hb9)
     have HB9:=Hq (joinB HB7.out hb9)
     have HRT9:=Hq (HRT.below hba8)
     have HRI9:=Hq (HRI.below hba8)
     obtain⟨gr,hgr⟩:=ex w8.heap.size
     obtain⟨W9,hW9⟩:=ex (w8.alloc (.cells (recA rr (.slice RA s.txns.length rc) (.slice RB (dirL fs).length rd)) 55))
     rw[← hgr,← hW9]at HR9
     rw[← hW9]at HG9 HT9 HX9 HQ9 HP9 HB9 HRT9 HRI9
     rw[← hW9,← hgr]
     clear hW9 hgr hba8 hb8 hb9 hrec HRT HRI h8c HG7 HT7 HX7 HQ7 HP7 HB7 HRD hwe
     try simp only[Act.put]
     go_wp2_with fail
     go_loopw [12] (fun v wr=>∃ j:Nat,v= .int .i64 (j:Int)∧1+n≤j∧j≤n+17∧Below W9.heap.size W9 wr) (fun v _=>n+17-(intOf v).toNat)
     case atStart=>exact⟨1+n,congrArg (Value.int .i64) (by omega),Nat.le_refl _,by omega,Below.refl _ _⟩
     case round=>
      obtain⟨j,rfl,hj0,hj1,hbj⟩:=hrel
      have HBJ:=Hq hbj
      clear hbj
      have hc0:=show wr.cell? ⟨g,3,none⟩=some (.slice p.A s.disk.sectors.length p.c)from by rw[blkCell (blkOld HG9.out HBJ.out)];rfl
      have hc1:=show wr.cell? ⟨gt,3,none⟩=some (.slice q.A d2.sectors.length q.c)from by rw[blkCell (blkOld HT9.out HBJ.out)];rfl
      rw[HL2.out]at hc1
      by_cases hjl:j<n+17
      ·have hjs:j<s.disk.sectors.length:=by have:=HSL.out;omega
       have hjd:j<d2.sectors.length:=by have:=HL2.out;omega
       have hjk0:(0:Int)≤(j:Int):=by omega
       have hjk1:(j:Int)<(s.disk.sectors.length:Int):=by omega
       have hjk2:¬ (s.disk.sectors.length:Int)≤(j:Int):=by omega
       have hwj:IntKind.i64.wrap ((j:Int)+1)=(j:Int)+1:=IntWalk.i64_in _ (by omega)
       obtain⟨b1,o1,hA1,hca,hbl1,hcell1⟩:=read_at strC_len (HP9.out.st.dk.secs.below HBJ.out) hjs
       obtain⟨b2,o2,hA2,hcb,hbl2,hcell2⟩:=read_at strC_len (HQ9.out.st.dk.secs.below HBJ.out) hjd
       rw[hA1]at hc0
       rw[hA2]at hc1
       have q1:=hcell1 0 _ rfl
       have q2:=hcell2 0 _ rfl
       have hsame:d2.sectors[j]=s.disk.sectors[j]:=by have h9:=HFAR.out j hj0;rw[List.getElem?_eq_getElem hjd,List.getElem?_eq_getElem hjs]at h9;exact Option.some.inj h9
       rw[hsame]at q2
       simp only[Nat.mul_one,Nat.add_zero]at q1 q2
       generalize s.disk.sectors[j]=x at q1 q2
       clear hcell1 hcell2 hca hcb hA1 hA2 hsame
       go_upto_region 18 with fail
       go_quiet (fail)
       go_wp2_with fail
       go_roundw
       case rel=>exact⟨j+1,by go_num,by omega,by omega,joinB HBJ.out (drewB _ _)⟩
       case measure=>simp[intOf];omega
      ·have hjk1:¬ (j:Int)<(s.disk.sectors.length:Int):=by have:=HSL.out;omega
       have HSA:=Hq (fun W (hb:Below W9.heap.size W9 W)=>show Calls Tryz.prog 12 #[.agg (stA {s with disk:=d2,log:=g2} {p with A:=q.A,c:=q.c}),.agg (stA {s with disk:=d2,log:=g2} q)] W fun e w'=>e= .returned (.bool true)∧Below W.heap.size W w' from rsamef_any {s with disk:=d2,log:=g2} {p with A:=q.A,c:=q.c} q fs (by have:=HFI.out.n4;omega) (by show s.txns.length≤_;omega) W ((HP9.out.disk (Below.refl _ _) g2 HQ9.out.st.dk HQ9.out.st.dt).below hb) (HQ9.out.below hb))
       have HTS:=Hq (fun W (hb:Below W9.heap.size W9 W)=>show Calls Tryz.prog 16 #[.slice RA s.txns.length rc,.slice p.T s.txns.length p.tc] W fun e w'=>e= .returned (.bool true)∧Below W.heap.size W w' from by
        have h9:=rsame_txn s.txns s.txns (by omega) (by omega) RA p.T rc p.tc W (HRT9.out.below hb) (HP9.out.st.tx.below hb)
        rw[decide_eq_true rfl]at h9
        exact h9)
       have HPD:=Hq (fun W (hb:Below W9.heap.size W9 W)=>cpdirty_any s p fs HFI.out W (HP9.out.below hb))
       have hdl:(dirL fs).length≤4:=by rw[dirL_len,Sp.sort_len];unfold dirtP;rw[List.length_map];have:=List.length_filter_le isD fs;have:=HFI.out.n4;omega
       have HCC:=Hq (fun u (hu:Below W9.heap.size W9 u)=>show(u.cell? ⟨gr,3,none⟩=some (.int .i64 9)∧u.cell? ⟨gr,6,none⟩=some (.int .i64 s.next)∧u.cell? ⟨g,14,none⟩=some (.int .i64 s.next))∧u.cell? ⟨gr,16,none⟩=some (.slice RA s.txns.length rc)∧u.cell? ⟨g,13,none⟩=some (.slice p.T s.txns.length p.tc)∧u.cell? ⟨gr,17,none⟩=some (.slice RB (dirL fs).length rd)from by
        have h1:=blkCell (blkOld HR9.out hu)
        have h2:=blkCell (blkOld HG9.out hu)
        refine⟨⟨by rw[h1,← HRK.out];rfl,by rw[h1,← HRN.out];rfl,by rw[h2];rfl⟩,by rw[h1];rfl,by rw[h2];rfl,by rw[h1];rfl⟩)
       go_upto_region 20 with fail
       have hSn:Below W9.heap.size W9 wr.drew:=HBJ.out.trans ((Below.refl _ wr).drew.mono HBJ.out.size)
       have Hy:=Hq (fun(u:World) (hSu:Below W9.heap.size W9 u)=>(HCC.out u hSu))
       refine rgH (S:=(fun u=>Below W9.heap.size W9 u)) (fun hHeld=>?_)
       generalize wr.drew=w10 at hSn ⊢
       refine rdP 0 fun K hK=>?_
       go_simp
       (refine(HAW.out _).mono ?_);rintro e u1 ⟨rfl,hb1⟩;have hSm:=joinB hSn hb1;clear hSn hb1;have hSn:=hSm;clear hSm
       refine hKo hK (fun hHeld=>?_)
       clear hK K
       refine tkP 1 ?_
       refine tkV 2 (some 115) (v:=.agg (stA {s with disk:=d2,log:=g2} {p with A:=q.A,c:=q.c})) rfl (yieldsIf_load_mid (by rfl) 37 (.tmp 9) rfl gx 0 (by rfl) (stA {s with disk:=d2,log:=g2} {p with A:=q.A,c:=q.c}).toList _ (fun u hu=>(by intro j v hj;rw[Nat.zero_add,blkCell (blkOld HX9.out hu)];simpa using hj)) Tryz.underlying37 Kr Kr) ?_
       try simp only[Act.put,pS]
       refine tkV 3 (some 116) (v:=.agg (stA {s with disk:=d2,log:=g2} q)) rfl (yieldsIf_load_mid (by rfl) 37 (.tmp 7) rfl gt 0 (by rfl) (stA {s with disk:=d2,log:=g2} q).toList _ (fun u hu=>(by intro j v hj;rw[Nat.zero_add,blkCell (blkOld HT9.out hu)];simpa using hj)) Tryz.underlying37 Kr Kr) ?_
       try simp only[Act.put,pS]
       refine rdP 4 fun K hK=>?_
       go_simp
       (refine(HSA.out _ hSn).mono ?_);rintro e u2 ⟨rfl,hb1⟩;have hSm:=joinB hSn hb1;clear hSn hb1;have hSn:=hSm;clear hSm
       refine hKo hK (fun hHeld=>?_)
       clear hK K
       refine tkP 5 ?_;refine tkP 6 ?_;refine tkP 7 ?_;refine tkP 8 ?_;refine tkP 9 ?_;refine tkP 10 ?_;refine tkP 11 ?_;refine tkP 12 ?_;refine tkP 13 ?_;refine tkP 14 ?_;refine tkP 15 ?_;refine tkP 16 ?_;refine tkP 17 ?_;refine tkP 18 ?_;refine tkP 19 ?_;refine tkP 20 ?_;refine tkP 21 ?_;refine tkP 22 ?_;refine tkP 23 ?_;refine tkP 24 ?_;refine tkP 25 ?_;refine tkP 26 ?_
       refine rdP 27 fun K hK=>?_
       go_simp
       (refine(HTS.out _ hSn).mono ?_);rintro e u3 ⟨rfl,hb1⟩;have hSm:=joinB hSn hb1;clear hSn hb1;have hSn:=hSm;clear hSm
       refine hKo hK (fun hHeld=>?_)
       clear hK K
       refine tkP 28 ?_;refine tkP 29 ?_;refine tkP 30 ?_;refine tkP 31 ?_
       refine tkV 32 (some 145) (v:=.agg (stA s p)) rfl (yieldsIf_load_mid (by rfl) 37 (.tmp 5) rfl g 0 (by rfl) (stA s p).toList _ (fun u hu=>(by intro j v hj;rw[Nat.zero_add,blkCell (blkOld HG9.out hu)];simpa using hj)) Tryz.underlying37 Kr Kr) ?_
       try simp only[Act.put,pS]
       refine rdP 33 fun K hK=>?_
       go_simp
       (refine(HPD.out _ hSn).mono ?_);rintro e u4 ⟨DA,dc,rfl,hdr,hb1⟩;have hSm:=joinB hSn hb1;clear hSn hb1;have hSn:=hSm;clear hSm
       refine hKo hK (fun hHeld=>?_)
       clear hK K
       refine rdP 34 fun K hK=>?_
       go_simp
       (refine(rsame_dirty (dirL fs) (dirL fs) (by omega) (by omega) RB DA rd dc _ (HRI9.out.below hSn) hdr).mono ?_);rintro e u5 ⟨rfl,hb1⟩;rw[decide_eq_true rfl];have hSm:=joinB hSn hb1;clear hSn hb1;have hSn:=hSm;clear hSm
       refine hKo hK (fun hHeld=>?_)
       clear hK K
       refine tkP 35 ?_;refine tkP 36 ?_
       refine wpAnyH_done Kr ?_ _
       clear hHeld
       go_wp2_with fail
       go_ret
       exact⟨rfl,joinB HBW.out (joinB HB9.out hSn)⟩
 ·rw[decide_eq_false hfew]at HFW
  go_enter Tryz.func4,Tryz.ntmps4
  go_wp2_with (first
   |(go_at_call 6;(refine(HFW.out _).mono ?_);rintro e w1 ⟨rfl,hb1⟩)
   |(go_at_call 7;(refine(HAW.out _).mono ?_);rintro e w2 ⟨rfl,hb2⟩))
  go_ret
  exact⟨by simp,joinB hb1 hb2⟩
end Go.Proofs.YtilakddepaplhaaGreat
