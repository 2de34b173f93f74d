import Derived.Test.YtilakddepaplhaaGreatHb00
import Derived.Test.YtilakddepaplhaaGreatHs18
import Derived.Test.YtilakddepaplhaaGreatHs16
import Derived.Test.YtilakddepaplhaaGreatHb01
import Derived.Deep.Slices
import Derived.Test.YtilakddepaplhaaGreatHs19
import Derived.Test.YtilakddepaplhaaGreatHs20
set_option maxRecDepth 100000
set_option maxHeartbeats 16000000
set_option linter.unusedSimpArgs false
namespace Go.Proofs.YtilakddepaplhaaGreat
open Go.RowKit
variable {cl : Cl}
structure Dd where
 k:Int
 t:Int
 pg:Int
 n:Int
def ddC (d:Dd):List Value:=[.int .i64 d.k,.int .i64 d.t,.int .i64 d.pg,.int .i64 d.n]
theorem ddC_len (d:Dd):(ddC d).length=4:=rfl
structure CkR (cl:Cl) (n k:Nat) (s:Tx.St) (fs:List Fr):Prop where
 lg:LogI cl s
 dk:DkI s.disk
 zl:s.zlog=(n:Int)
 zp:s.zpages=4
 fr:FrI fs
 tx:s.txns.length≤2*k
 nx:0≤s.next∧s.next≤1+(k:Int)
theorem CkR.ck {n k:Nat}{s:Tx.St}{fs:List Fr}(h:CkR cl n k s fs)(hn:n≤60)(hk:k≤30):CkI cl s fs:=⟨h.lg,h.dk,by rw[h.zl];omega,h.zp,h.fr,by have:=h.tx;omega,by have:=h.nx;omega⟩
theorem CkR.deed {n k:Nat}{s s':Tx.St}{fs fs':List Fr}(h:CkR cl n k s fs)(hd:DoK cl s s')(hf:FrI fs'):CkR cl n (k+1) s' fs':=
 ⟨hd.lg,hd.dk,hd.zl.trans h.zl,hd.zp.trans h.zp,hf,by have:=h.tx;have:=hd.tx;omega,by have:=h.nx;have:=hd.n0;have:=hd.n1;omega⟩
theorem CkR.take {cl2:Cl}{n k:Nat}{s:Tx.St}{fs:List Fr}(h:CkR cl n k s fs)(hN:(n:Int)=cl2.N)(hP:cl2.P (takeT s fs).1.disk (takeT s fs).1.log):CkR cl2 n (k+1) (takeT s fs).1 fs:=by
 have hd:=take_keep fs h.lg h.dk (h.zl.trans hN) hP
 refine⟨hd.lg,hd.dk,hd.zl.trans h.zl,hd.zp.trans h.zp,h.fr,?_,?_⟩
 ·rw[hd.tx];have:=h.tx;omega
 ·rw[hd.nx];have:=h.nx;omega
theorem ck_new (n:Nat)(hn:n≤60)(hN:(n:Int)=cl.N)(hP:cl.P (Lg.newD (n+17)) ⟨1,n,0,0,⟨#[]⟩⟩):CkR cl n 0 (freshT n) freshF:=
 ⟨fresh_log n hn hN hP,fresh_disk n,rfl,rfl,fresh_frames,Nat.zero_le _,by show(0:Int)≤1∧(1:Int)≤1+((0:Nat):Int);omega⟩
open Go.ChangeShapes Go.WideShapes Go.ChangeAt
theorem cellsI:Tryz.prog.cellsOf 3=1:=by kernel_rfl
theorem cellsDd:Tryz.prog.cellsOf 40=4:=by kernel_rfl
theorem bytesDd:1≤Tryz.prog.bytesOf 40:=by decide+kernel
theorem ddFields:∃ f0 f1 f2 f3:Field,Tryz.prog.underlying 40=some (.struct #[f0,f1,f2,f3])∧(f0.offset=0∧f1.offset=1∧f2.offset=2∧f3.offset=3)∧f0.type=3∧f1.type=3∧f2.type=3∧f3.type=3:=⟨_,_,_,_,Tryz.underlying40,⟨rfl,rfl,rfl,rfl⟩,rfl,rfl,rfl,rfl⟩
instance:Inhabited Dd:=⟨⟨0,0,0,0⟩⟩
theorem list4' {α:Type}{l:List α}(h:l.length=4):∃ a b c d,l=[a,b,c,d]:=by
 match l,h with
 |[a,b,c,d],_=>exact⟨a,b,c,d,rfl⟩
theorem spotOf {w:World}{a:Addr}{v:Value}(h:w.cell? a=some v):a=⟨a.block,a.off,none⟩∧a.block<w.heap.size:=by
 obtain⟨b,off,sp⟩:=a
 unfold World.cell? at h
 cases hh:w.heap[b]? with
 |none=>simp[hh]at h
 |some o=>
  have hlt:b<w.heap.size:=(Array.getElem?_eq_some_iff.1 hh).1
  cases o with
  |cells c t f=>
   simp only[hh]at h
   cases sp with
   |none=>exact⟨rfl,hlt⟩
   |some x=>simp at h
  |_=>simp[hh]at h
def Light {H:Type}(t:TypeId)(d:DataW H):Prop:=∀ n∈DataW.weights Tryz.prog t d,n≤reachBytes
theorem light_of {H:Type}{ts:List TypeId}{ds:List (DataW H)}{j:Nat}{t:TypeId}{d:DataW H}(h:(DataW.weightsEach Tryz.prog ts ds).all (·≤reachBytes)=true)(ht:ts[j]? =some t)(hd:ds[j]? =some d):Light t d:=fun n hn=>by
 have:=List.all_eq_true.1 h _ (DataW.weights_mem_each ht hd n hn)
 simpa using this
theorem weights_mem_all {H:Type}{P:Program}{e:TypeId}{d:DataW H}{n:Nat}(hn:n∈DataW.weights P e d):∀ {l:List (DataW H)},d∈l→n∈DataW.weightsAll P e l:=by
 intro l
 induction l with
 |nil=>intro h;cases h
 |cons a l ih=>
  intro h
  unfold DataW.weightsAll
  rcases List.mem_cons.1 h with h1|h1
  ·subst h1;exact List.mem_append_left _ hn
  ·exact List.mem_append_right _ (ih h1)
section
variable {H : Type} {enc : TypeId × Value → H} {w : World} {base : Nat} {spare : Nat → Bool} {held : Bool}
theorem trod_field {t:TypeId}{fs:Array Field}{fuel:Nat}{cs:List Value}{x:DataW H×List MemPlace}(ht:Tryz.prog.underlying t=some (.struct fs))(h:DataW.trod enc Tryz.prog w base spare held fuel t cs=some x):
 ∃ n,cs.length=Tryz.prog.cellsOf t∧∀ (i:Nat) (f:Field),fs[i]? =some f→∃ y,DataW.trod enc Tryz.prog w base spare held n f.type ((cs.drop f.offset).take (Tryz.prog.cellsOf f.type))=some y∧(Light t x.1→Light f.type y.1):=by
 obtain⟨xs,n,_,rfl,hl,hlen,hf⟩:=DataW.trod_struct ht h
 refine⟨n,hl,fun i f hi=>?_⟩
 have hi':i<xs.length:=by rw[hlen];exact(Array.getElem?_eq_some_iff.1 hi).1
 refine⟨xs[i],by rw[hf i f hi,List.getElem?_eq_getElem hi'],fun hL m hm=>hL m ?_⟩
 unfold DataW.weights
 rw[ht]
 exact DataW.weights_mem_each (j:=i) (t:=f.type) (d:=xs[i].1) (by simp[hi]) (by simp[hi']) m hm
theorem trod_row {α:Type}[Inhabited α]{en:α→List Value}{k:Nat}(hk:∀ x,(en x).length=k)(hk0:0<k){t e:TypeId}(ht:Tryz.prog.underlying t=some (.slice e))(hce:Tryz.prog.cellsOf e=k)(hbe:1≤Tryz.prog.bytesOf e){Q:α→Prop}
 (he:∀ (fuel:Nat) (cs:List Value) (x:DataW H×List MemPlace),DataW.trod enc Tryz.prog w base spare held fuel e cs=some x→Light e x.1→∃ o,cs=en o∧Q o)
 {fuel:Nat} {cs:List Value} {x:DataW H×List MemPlace} (hL:Light t x.1) (h:DataW.trod enc Tryz.prog w base spare held fuel t cs=some x):
 ∃ (A:Option Addr) (c:Nat) (l:List α),cs=[.slice A l.length c]∧Reads w A c l.length (l.flatMap en)∧(∀ o∈l,Q o)∧l.length≤140737488355328:=by
 rcases Deep.open_slice ht h with⟨hcs,_⟩|⟨a',len',cap',m,n,D,Pl,hcs,hb,hl,hm,hmm,hx,hall⟩
 ·exact⟨none,0,[],hcs,Reads.none_ _ _ _ _,(fun _ h=>by cases h),Nat.zero_le _⟩
 ·have hlm:len'≤m:=by rw[hmm];split<;>omega
  rw[hce]at hall
  rw[hx]at hL
  have hlen:len'≤140737488355328:=by
   have h1:=hL _ (by unfold DataW.weights;rw[ht];exact List.mem_cons_self ..)
   rw[List.length_map,List.length_range]at h1
   have h2:=reachBytes_lt
   have h3:=Nat.le_mul_of_pos_right (len'+(List.map (fun j=>D (len'+j)) (List.range (m-len'))).length) hbe
   omega
  have hLe:∀ i,i<len'→Light e (D i):=fun i hi n' hn'=>hL n' (by
   unfold DataW.weights;rw[ht]
   exact List.mem_cons_of_mem _ (List.mem_append_left _ (weights_mem_all hn' (List.mem_map.2 ⟨i,List.mem_range.2 hi,rfl⟩))))
  obtain⟨f,hf⟩:=Deep.choose_lt (α:=α) (n:=len') (p:=fun i o=>(∀ q u,(en o)[q]? =some u→w.cell? ((a'.add (i*k)).add q)=some u)∧Q o) (fun i hi=>by
   obtain⟨cs',h1,h2⟩:=hall i (by omega)
   obtain⟨o,rfl,hQ⟩:=he _ _ _ h2 (hLe i hi)
   obtain⟨_,_,h3⟩:=World.cells?_some h1
   refine⟨o,fun q u hq=>?_,hQ⟩
   have hqk:q<k:=by have:=(List.getElem?_eq_some_iff.1 hq).1;rw[hk]at this;exact this
   rw[h3 q hqk];exact hq)
  refine⟨some a',cap',(List.range len').map f,by rw[hcs];simp,?_,?_,by simpa using hlen⟩
  ·intro h0
   have h0':0<len':=by simpa using h0
   obtain⟨u,hu⟩:∃ u,(en (f 0))[0]? =some u:=⟨_,List.getElem?_eq_getElem (by rw[hk];exact hk0)⟩
   have hz:=(hf 0 h0').1 0 u hu
   have hz2:w.cell? a'=some u:=by simpa[Addr.add]using hz
   obtain⟨hsp,hlt⟩:=spotOf hz2
   refine⟨a'.block,a'.off,by rw[← hsp],by simpa using hl,hlt,fun j u hj=>?_⟩
   have hjl:j<len'*k:=by
    have:=(List.getElem?_eq_some_iff.1 hj).1
    rw[flat_len hk]at this
    simpa using this
   obtain⟨q,i,hi,rfl⟩:∃ q i,i<k∧j=q*k+i:=⟨j/k,j%k,Nat.mod_lt _ hk0,by rw[Nat.mul_comm];exact(Nat.div_add_mod j k).symm⟩
   have hq:q<len':=by
    rcases Nat.lt_or_ge q len' with h5|h5
    ·exact h5
    ·have:=Nat.mul_le_mul_right k h5;omega
   rw[flat_at hk _ q i (by simpa using hq) hi]at hj
   have h5:=(hf q hq).1 i u (by simpa using hj)
   rw[hsp,Addr.add_mid,Addr.add_mid]at h5
   rw[← Nat.add_assoc]
   exact h5
  ·intro o ho
   obtain⟨i,hi,rfl⟩:=List.mem_map.1 ho
   exact(hf i (List.mem_range.1 hi)).2
theorem trod_dd (fuel:Nat)(cs:List Value)(x:DataW H×List MemPlace)(h:DataW.trod enc Tryz.prog w base spare held fuel 40 cs=some x)(_:Light 40 x.1):∃ o:Dd,cs=ddC o∧o.n≤9223372036854775807:=by
 obtain⟨f0,f1,f2,f3,hu,⟨o0,o1,o2,o3⟩,t0,t1,t2,t3⟩:=ddFields
 obtain⟨n,hl,hf⟩:=trod_field hu h
 rw[cellsDd]at hl
 obtain⟨c0,c1,c2,c3,rfl⟩:=list4' hl
 obtain⟨y0,h0,gh0⟩:=hf 0 f0 rfl
 rw[o0,t0,cellsI]at h0
 obtain⟨y1,h1,gh1⟩:=hf 1 f1 rfl
 rw[o1,t1,cellsI]at h1
 obtain⟨y2,h2,gh2⟩:=hf 2 f2 rfl
 rw[o2,t2,cellsI]at h2
 obtain⟨y3,h3,gh3⟩:=hf 3 f3 rfl
 rw[o3,t3,cellsI]at h3
 obtain⟨i0,e0,_,_⟩:=DataW.trod_int Tryz.underlying3 h0
 obtain⟨i1,e1,_,_⟩:=DataW.trod_int Tryz.underlying3 h1
 obtain⟨i2,e2,_,_⟩:=DataW.trod_int Tryz.underlying3 h2
 obtain⟨i3,e3,_,w3⟩:=DataW.trod_int Tryz.underlying3 h3
 simp at e0 e1 e2 e3
 exact⟨⟨i0,i1,i2,i3⟩,by rw[e0,e1,e2,e3];rfl,(bnd w3).2⟩
theorem open_dds {r:Reach}{b0:Nat}{v:Value}{d:DataW H}{ps:List MemPlace}(hval:Value.okWide Tryz.prog w r b0 22 v)(hd:DataW.Trod enc Tryz.prog w base spare held 22 v d ps)(hL:Light 22 d):
 ∃ (A:Option Addr) (c:Nat) (l:List Dd),v= .slice A l.length c∧Reads w A c l.length (l.flatMap ddC)∧(∀ d∈l,d.n≤9223372036854775807)∧l.length≤140737488355328:=by
 obtain⟨a,len,cap,rfl⟩:=okWide_slice Tryz.underlying22 hval
 obtain⟨fuel,hf⟩:=hd
 obtain⟨A,c,l,h1,h2,h3,h4⟩:=trod_row (en:=ddC) (k:=4) ddC_len (by omega) Tryz.underlying22 cellsDd bytesDd (Q:=fun d=>d.n≤9223372036854775807) trod_dd hL hf
 exact⟨A,c,l,by simpa[Value.cells]using h1,h2,h3,h4⟩
end
end Go.Proofs.YtilakddepaplhaaGreat
namespace Ck
open Rc Lg
def mast (d:Dk):Int:=masterD (startD d)
theorem mast_same {d d':Dk}(h:d'.sectors[0]? =d.sectors[0]?)(hl:d'.sectors.length=d.sectors.length):mast d'=mast d:=by
 have hs:secAt (startD d') 0=secAt (startD d) 0:=by
  show d'.sectors[0]?.getD _=d.sectors[0]?.getD _
  rw[h]
 have hh:hasD (startD d') 0↔hasD (startD d) 0:=by
  show(0:Int)≤0∧(0:Int)<(d'.sectors.length:Int)↔(0:Int)≤0∧(0:Int)<(d.sectors.length:Int)
  rw[hl]
 have hr:readD (startD d') 0=readD (startD d) 0:=by
  have e:∀ x:Dk,readD (startD x) 0=if hasD (startD x) 0 then(secAt (startD x) 0,0)else(⟨#[]⟩,1):=fun x=>rfl
  rw[e,e]
  by_cases h1:hasD (startD d) 0
  ·rw[if_pos (hh.2 h1),if_pos h1,hs]
  ·rw[if_neg (fun x=>h1 (hh.1 x)),if_neg h1]
 unfold mast masterD
 rw[hr]
theorem mast_down (d:Dk):mast {d with down:=true}=mast d:=mast_same (d:=d) (d':={d with down:=true}) rfl rfl
structure Opn (N:Nat) (d:Dk) (l:List Rec):Prop where
 whole:Whole d.sectors
 len:d.sectors.length=N+17
 opens:(openL (logS 1 N d) (N*128+1) 0).1=l
theorem opn_lies {N:Nat}{d:Dk}{l:List Rec}(hw:Whole d.sectors)(hl:d.sectors.length=N+17)(h:Lies (logS 1 N d) l):Opn N d l:=by
 refine⟨hw,hl,?_⟩
 have h1:=logS_len (F:=1) (N:=N) hw (by omega)
 have h2:=h.room
 have h3:=manyN l
 rw[h.opens (f:=N*128+1) (by omega)]
theorem opn_cut {N:Nat}{d:Dk}{s n:List UInt8}{q:Nat}{r1 r2:List Rec}(hw:Whole d.sectors)(hl:d.sectors.length=N+17)(hs:Lies s r1)(hn:Lies n (r1++r2))(h2:r2≠[])(hsl:s.length=N*128)(hnl:n.length=N*128)(hq:logS 1 N d=mix s n q):Opn N d r1∨Opn N d (r1++r2):=by
 have h3:=manyN (r1++r2)
 have h4:=hn.room
 rcases mix_opens (hsl.trans hnl.symm) hs hn h2 q (f:=N*128+1) (by omega)with h|h
 ·exact .inl ⟨hw,hl,by rw[hq,h]⟩
 ·exact .inr (opn_lies hw hl (by rw[hq,h];exact hn))
theorem Opn.start {N:Nat}{d:Dk}{l:List Rec}(h:Opn N d l):∃ o,openD (startD d) 1 N=(o,l,0):=by
 have hw:Whole (startD d).sectors:=h.whole
 have hl:(startD d).sectors.length=N+17:=h.len
 obtain⟨h1,_⟩:=LInv.opened (F:=1) (N:=N) (d:=startD d) rfl hw (by omega)
 have h3:(openL (logS 1 N (startD d)) (N*128+1) 0).1=l:=h.opens
 rw[h3]at h1
 refine⟨(openD (startD d) 1 N).1,?_⟩
 have e:openD (startD d) 1 N=((openD (startD d) 1 N).1,(openD (startD d) 1 N).2):=rfl
 have h4:(openD (startD d) 1 N).2=(l,0):=h1
 rw[h4]at e
 exact e
theorem Opn.same {N:Nat}{d e:Dk}{l:List Rec}(h:Opn N d l)(hs:e.sectors=d.sectors):Opn N e l:=
 ⟨by rw[hs];exact h.whole,by rw[hs];exact h.len,by unfold logS;rw[hs];exact h.opens⟩
theorem logS_set {N:Nat}{l:List ByteArray}{i:Nat}(hi:i=0∨1+N≤i)(b:ByteArray)(lf:Int)(dn:Bool)(d:Dk)(hd:d.sectors=l):logS 1 N ⟨l.set i b,lf,dn⟩=logS 1 N d:=by
 unfold logS
 simp only
 rw[hd]
 congr 1
 apply List.ext_getElem?
 intro j
 rw[List.getElem?_take,List.getElem?_take]
 split
 ·rw[List.getElem?_drop,List.getElem?_drop,List.getElem?_set_ne (by omega)]
 ·rfl
theorem whole_set {l:List ByteArray}(h:Whole l)(i:Nat){b:ByteArray}(hb:b.size=128):Whole (l.set i b):=fun x hx=>by
 rcases List.mem_or_eq_of_mem_set hx with h1|h1
 ·exact h x h1
 ·rw[h1];exact hb
theorem writeD_cases (d:Dk)(a:Int)(b:ByteArray):writeD d a b=(d,20)∧d.down=true∨d.down=false∧(writeD d a b=(d,1)∨(hasD d a∧b.size=128∧((d.left=0∧writeD d a b=({d with down:=true},20))∨(d.left≠0∧writeD d a b=(⟨d.sectors.set a.toNat b,if 0<d.left then d.left-1 else d.left,false⟩,0))))):=by
 unfold writeD
 cases hd:d.down with
 |true=>exact .inl ⟨by simp,rfl⟩
 |false=>
  refine .inr ⟨rfl,?_⟩
  by_cases h1:hasD d a∧b.size=128
  ·refine .inr ⟨h1.1,h1.2,?_⟩
   by_cases h2:d.left=0
   ·exact .inl ⟨h2,by simp[h1,h2]⟩
   ·exact .inr ⟨h2,by simp[h1,h2]⟩
  ·exact .inl (by simp[h1])
theorem putAll_zero (base:Int)(hb:1≤base)(all:List ByteArray):∀ (i:Nat) (d:Dk),(putAll base all i d).1.sectors[0]? =d.sectors[0]? :=by
 intro i
 induction i with
 |zero=>intro d;rfl
 |succ i ih=>
  intro d
  have hw:∀ b,(writeD d (base+(i:Int)) b).1.sectors[0]? =d.sectors[0]? :=fun b=>by
   rcases writeD_cases d (base+(i:Int)) b with⟨e,_⟩|⟨_,e|⟨_,_,⟨_,e⟩|⟨_,e⟩⟩⟩<;>rw[e]
   show(d.sectors.set (base+(i:Int)).toNat b)[0]? =_
   rw[List.getElem?_set_ne (by omega)]
  unfold putAll
  split
  ·rw[ih];exact hw _
  ·exact hw _
theorem force_zero {d:Dk}{g:Lo}(h:1≤g.from_+firstS g):(forceD d g).1.sectors[0]? =d.sectors[0]? :=by
 unfold forceD
 split
 ·rfl
 ·simp only
  split<;>exact putAll_zero _ h _ _ _
def Fnd (l:List Rec)(m last:Int):Prop:=(m=0∨∃ r∈l,r.lsn=m∧r.kind=9)∧last≤m
theorem Fnd.more {l:List Rec}{m last:Int}(h:Fnd l m last)(l2:List Rec):Fnd (l++l2) m last:=by
 obtain⟨h1,h2⟩:=h
 refine⟨?_,h2⟩
 rcases h1 with h1|⟨r,hr,h3⟩
 ·exact .inl h1
 ·exact .inr ⟨r,List.mem_append_left _ hr,h3⟩
structure Sf (N:Nat) (last:Int) (d:Dk) (g:Lo):Prop where
 whole:Whole d.sectors
 len:d.sectors.length=N+17
 left: -1≤d.left∧d.left≤9223372036854775807
 inv:∃ d0 r1 r2,LInv 1 N d0 g r1 r2∧((d.down=false∧d0=d∧Lies (logS 1 N d) r1∧Fnd r1 (mast d) last)∨(d.down=true∧∃ L,Opn N d L∧Fnd L (mast d) last))
theorem lies_new17 (N:Nat):Lies (logS 1 N (newD (N+17))) []:=by
 refine⟨trivial,rfl,Nat.zero_le _,fun i _ _ hi=>?_⟩
 have h1:∀ L:List ByteArray,(∀ b∈L,b=zero128)→∀ i,i<(flat L).length→(flat L)[i]? =some 0:=by
  intro L
  induction L with
  |nil=>intro _ i hi;simp[flat]at hi
  |cons b L ih=>
   intro hb i hi
   have h0:b.data.toList=List.replicate 128 0:=by rw[hb b (List.mem_cons_self ..)];unfold zero128;rfl
   rw[flat_cons,h0]at hi ⊢
   rw[List.length_append,List.length_replicate]at hi
   by_cases h:i<128
   ·rw[List.getElem?_append_left (by rw[List.length_replicate];exact h),List.getElem?_replicate,if_pos h]
   ·rw[List.getElem?_append_right (by rw[List.length_replicate];omega),List.length_replicate]
    exact ih (fun x hx=>hb x (List.mem_cons_of_mem _ hx)) _ (by omega)
 refine h1 _ (fun b hb=>?_) i hi
 have h2:=List.mem_of_mem_drop (List.mem_of_mem_take hb)
 exact(List.mem_replicate.1 h2).2
theorem sf_new (N:Nat):Sf N 0 (newD (N+17)) ⟨1,N,0,0,⟨#[]⟩⟩:=by
 have hl:(newD (N+17)).sectors.length=N+17:=by show(List.replicate (N+17) zero128).length=_;rw[List.length_replicate]
 have hw:Whole (newD (N+17)).sectors:=newD_wholeN _
 have hz:(newD (N+17)).sectors[0]? =some zero128:=by
  show(List.replicate (N+17) zero128)[0]? =_
  rw[List.getElem?_replicate,if_pos (by omega)]
 have hm:mast (newD (N+17))=0:=by
  have hr:readD (startD (newD (N+17))) 0=(zero128,0):=by
   have hh:hasD (startD (newD (N+17))) 0:=⟨by decide,by show(0:Int)<(((newD (N+17)).sectors.length:Nat):Int);rw[hl];omega⟩
   unfold readD
   rw[if_neg (by show ¬ false=true;decide),if_pos hh]
   unfold secAt
   show((newD (N+17)).sectors[0]?.getD ⟨#[]⟩,(0:Int))=_
   rw[hz];rfl
  unfold mast masterD
  rw[hr]
  simp only
  split
  ·rfl
  ·have e:zero128.data.toList=List.replicate 128 0:=by unfold zero128;rfl
   rw[e];decide+kernel
 exact⟨hw,hl,⟨Int.le_refl _,by show(-1:Int)≤_;decide⟩,_,[],[],LInv.new (F:=1) hw (by omega),.inl ⟨rfl,rfl,lies_new17 N,.inl hm,by rw[hm];exact Int.le_refl _⟩⟩
theorem left_dec {x:Int}(h: -1≤x∧x≤9223372036854775807): -1≤(if 0<x then x-1 else x)∧(if 0<x then x-1 else x)≤9223372036854775807:=by split<;>omega
theorem Sf.app {N:Nat}{last:Int}{d:Dk}{g:Lo}(h:Sf N last d g)(r:Rec):Sf N last d (appendD g r).1:=by
 obtain⟨h1,h2,h3,d0,r1,r2,h4,h5⟩:=h
 rcases h4.append r with e|e|⟨_,hg⟩
 ·rw[e];exact⟨h1,h2,h3,d0,r1,r2,h4,h5⟩
 ·rw[e];exact⟨h1,h2,h3,d0,r1,r2,h4,h5⟩
 ·exact⟨h1,h2,h3,d0,r1,_,hg,h5⟩
theorem LInv.base {N:Nat}{d:Dk}{g:Lo}{r1 r2:List Rec}(h:LInv 1 N d g r1 r2):1≤g.from_+firstS g:=by
 rw[h.firstS,h.hf];omega
theorem Sf.frc {N:Nat}{last:Int}{d:Dk}{g:Lo}(h:Sf N last d g):Sf N last (forceD d g).1 (forceD d g).2.1:=by
 obtain⟨h1,h2,h3,d0,r1,r2,h4,h5⟩:=h
 rcases h5 with⟨hup,rfl,hlies,hf⟩|⟨hdn,hL⟩
 ·have hlf:=Tx.forceD_leftN (g:=g) h3
  have hz:=force_zero (d:=d0) (LInv.base h4)
  rcases h4.force hup h3.1 with⟨a1,a2,a3,a4,_,a6,_,a8⟩|⟨a1,a2,a3,_,a5,a6,nn,q,b1,b2,b3⟩
  ·refine⟨a2.whole,a6.trans h2,hlf,_,r1++r2,[],a2,.inl ⟨a3,rfl,a8 (.inl hlies),?_⟩⟩
   rw[mast_same hz a6];exact hf.more r2
  ·refine⟨a5,a6.trans h2,hlf,d0,r1,r2,by rw[a3];exact h4,.inr ⟨force_20 a1,?_⟩⟩
   rw[mast_same hz a6]
   have hsl:=logS_len (F:=1) (N:=N) h1 (by omega)
   rcases opn_cut a5 (a6.trans h2) hlies b1 a2 hsl b2 b3 with hO|hO
   ·exact⟨_,hO,hf⟩
   ·exact⟨_,hO,hf.more r2⟩
 ·by_cases h2':r2=[]
  ·have e:forceD d g=(d,g,0):=by unfold forceD;rw[if_pos (by rw[h4.safe,h4.end_,h2',List.append_nil])]
   rw[e];exact⟨h1,h2,h3,d0,r1,r2,h4,.inr ⟨hdn,hL⟩⟩
  ·rw[h4.force_down h2' hdn];exact⟨h1,h2,h3,d0,r1,r2,h4,.inr ⟨hdn,hL⟩⟩
theorem LInv.out {N:Nat}{d d':Dk}{g:Lo}{r1 r2:List Rec}(h:LInv 1 N d g r1 r2)(hw:Whole d'.sectors)(hl:d'.sectors.length=d.sectors.length)(he:logS 1 N d'=logS 1 N d):LInv 1 N d' g r1 r2:=
 ⟨hw,by rw[hl];exact h.room,h.hf,h.hn,h.row,by rw[he];exact h.pre,h.safe,h.end_,h.tail,h.fit⟩
theorem Sf.wr {N:Nat}{last:Int}{d:Dk}{g:Lo}(h:Sf N last d g)(a:Int)(b:ByteArray)(ha:1+(N:Int)≤a):Sf N last (writeD d a b).1 g:=by
 have h0:=h
 obtain⟨h1,h2,h3,d0,r1,r2,h4,h5⟩:=h
 rcases writeD_cases d a b with⟨e,_⟩|⟨hd,e|⟨hh,hb,⟨_,e⟩|⟨hl,e⟩⟩⟩
 ·rw[e];exact h0
 ·rw[e];exact h0
 ·rw[e]
  rcases h5 with⟨hup,rfl,hlies,hf⟩|⟨hdn,_⟩
  ·refine⟨h1,h2,h3,d0,r1,r2,h4,.inr ⟨rfl,r1,(opn_lies h1 h2 hlies).same rfl,?_⟩⟩
   show Fnd r1 (mast {d0 with down:=true}) last
   rw[mast_down];exact hf
  ·rw[hd]at hdn;cases hdn
 ·rw[e]
  rcases h5 with⟨hup,rfl,hlies,hf⟩|⟨hdn,_⟩
  ·have hS:logS 1 N ⟨d0.sectors.set a.toNat b,if 0<d0.left then d0.left-1 else d0.left,false⟩=logS 1 N d0:=logS_set (.inr (by omega)) b _ _ d0 rfl
   have hW:=whole_set h1 a.toNat hb
   refine⟨hW,by show(d0.sectors.set _ _).length=_;rw[List.length_set];exact h2,left_dec h3,_,r1,r2,LInv.out h4 hW (by show(d0.sectors.set _ _).length=_;rw[List.length_set]) hS,.inl ⟨rfl,rfl,by rw[hS];exact hlies,?_⟩⟩
   have hm:=mast_same (d:=d0) (d':=⟨d0.sectors.set a.toNat b,if 0<d0.left then d0.left-1 else d0.left,false⟩) (by show(d0.sectors.set _ _)[0]? =_;rw[List.getElem?_set_ne (by omega)]) (by show(d0.sectors.set _ _).length=_;rw[List.length_set])
   show Fnd r1 (mast ⟨d0.sectors.set a.toNat b,if 0<d0.left then d0.left-1 else d0.left,false⟩) last
   rw[hm];exact hf
  ·rw[hd]at hdn;cases hdn
theorem Sf.arm {N:Nat}{last:Int}{d:Dk}{g:Lo}(h:Sf N last d g)(n:Int)(hn:n≤9223372036854775807):Sf N last (armD d n) g:=by
 obtain⟨h1,h2,h3,d0,r1,r2,h4,h5⟩:=h
 refine⟨h1,h2,?_,armD d0 n,r1,r2,h4.disk rfl,?_⟩
 ·show -1≤(if n<0 then(-1:Int)else n)∧(if n<0 then(-1:Int)else n)≤_
  split<;>omega
 ·have hm:mast (armD d n)=mast d:=mast_same (d:=d) (d':=armD d n) rfl rfl
  rw[hm]
  rcases h5 with⟨a1,a2,a3,a4⟩|⟨a1,L,a2,a3⟩
  ·exact .inl ⟨a1,by rw[a2],a3,a4⟩
  ·exact .inr ⟨a1,L,a2.same rfl,a3⟩
noncomputable def takeD (d:Dk) (g:Lo) (r:Rec):Dk×Lo×Int:=
 let x:=appendD g r
 if x.2.2≠0 then(d,g,x.2.2)else
 let y:=forceD d x.1
 if y.2.2≠0 then(y.1,y.2.1,y.2.2)else
 let z:=setD y.1 x.2.1
 (z.1,y.2.1,z.2)
theorem Sf.take {N:Nat}{last:Int}{d:Dk}{g:Lo}(h:Sf N last d g)(r:Rec)(hr:r.kind=9):
 Sf N (if(takeD d g r).2.2=0 then g.end_+1 else last) (takeD d g r).1 (takeD d g r).2.1:=by
 have hA:=(h.app r).frc
 have h0:=h
 obtain⟨h1,h2,h3,d0,r1,r2,h4,h5⟩:=h
 unfold takeD
 simp only
 split
 ·rename_i he;first|exact h0|(simp only at he ⊢;rw[if_neg he];exact h0)
 ·rename_i he
  have hap:=h4.append r
  rcases hap with e|e|⟨e,hg⟩
  ·rw[e]at he;exact absurd (show ¬ (1:Int)=0 by decide) he
  ·rw[e]at he;exact absurd (show ¬ (18:Int)=0 by decide) he
  have e1:(appendD g r).2.1=g.end_+1:=by rw[e]
  generalize appendD g r=x at hA hg e1 ⊢
  obtain⟨g1,n1,k1⟩:=x
  simp only at hA hg e1 ⊢
  subst e1
  split
  ·rename_i hk;first|exact hA|(simp only;rw[if_neg hk];exact hA)
  ·rename_i hk
   have hk0:(forceD d g1).2.2=0:=Classical.not_not.1 hk
   rcases h5 with⟨hup,rfl,hlies,hf⟩|⟨hdn,_⟩
   ·rcases hg.force hup h3.1 with⟨a1,a2,a3,a4,_,a6,_,a8⟩|⟨a1,_⟩
    ·have hz:=force_zero (d:=d0) (LInv.base hg)
     have hF:=Tx.forceD_leftN (g:=g1) h3
     have hfm:Fnd (r1++(r2++[{r with lsn:=g.end_+1}])) (mast (forceD d0 g1).1) last:=by rw[mast_same hz a6];exact hf.more _
     have hL2:=a8 (.inl hlies)
     generalize forceD d0 g1=y at a1 a2 a3 a4 a6 hA hF hfm hL2 ⊢
     obtain⟨d2,g2,k2⟩:=y
     simp only at a1 a2 a3 a4 a6 hA hF hfm hL2 ⊢
     by_cases hn:g.end_+1<0∨1099511627776≤g.end_+1
     ·rw[setD_no hn]
      simp only
      rw[if_neg (by decide)];exact hA
     have hset:=setD_yes (d:=d2) hn
     rcases writeD_cases d2 0 (sectorB (g.end_+1))with⟨e,hdn⟩|⟨_,e|⟨hh,hb,⟨_,e⟩|⟨hl0,e⟩⟩⟩
     ·rw[a3]at hdn;cases hdn
     ·rw[hset,e];simp only;rw[if_neg (by decide)];exact hA
     ·rw[hset,e];simp only;rw[if_neg (by decide)]
      refine⟨a2.whole,a6.trans h2,hF,d2,_,[],a2,.inr ⟨rfl,_,(opn_lies a2.whole (a6.trans h2) hL2).same rfl,?_⟩⟩
      show Fnd _ (mast {d2 with down:=true}) last
      rw[mast_down];exact hfm
     ·have h00:(setD d2 (g.end_+1)).2=0:=by rw[hset,e]
      have hms:=(set_master h00).2
      rw[hset,e]at hms ⊢
      simp only at hms ⊢
      rw[if_pos trivial]
      have hS:logS 1 N ⟨d2.sectors.set 0 (sectorB (g.end_+1)),if 0<d2.left then d2.left-1 else d2.left,false⟩=logS 1 N d2:=logS_set (.inl rfl) _ _ _ d2 rfl
      have hW:=whole_set a2.whole 0 hb
      refine⟨hW,by show(d2.sectors.set _ _).length=_;rw[List.length_set];exact a6.trans h2,left_dec hF,_,_,[],LInv.out a2 hW (by show(d2.sectors.set _ _).length=_;rw[List.length_set]) hS,.inl ⟨rfl,rfl,?_,?_⟩⟩
      ·show Lies (logS 1 N ⟨d2.sectors.set 0 (sectorB (g.end_+1)),_,false⟩) _
       rw[hS];exact hL2
      ·have hm2:mast ⟨d2.sectors.set 0 (sectorB (g.end_+1)),if 0<d2.left then d2.left-1 else d2.left,false⟩=g.end_+1:=hms
       show Fnd _ (mast ⟨d2.sectors.set 0 (sectorB (g.end_+1)),_,false⟩) _
       rw[hm2]
       exact⟨.inr ⟨{r with lsn:=g.end_+1},List.mem_append_right _ (List.mem_append_right _ (List.mem_singleton.2 rfl)),rfl,hr⟩,Int.le_refl _⟩
    ·rw[a1]at hk0;exact absurd hk0 (by decide)
   ·rw[hg.force_down (by simp) hdn]at hk0;exact absurd hk0 (show ¬ (20:Int)=0 by decide)
theorem Sf.found {N:Nat}{last:Int}{d:Dk}{g:Lo}(h:Sf N last d g):∃ o L,openD (startD d) 1 N=(o,L,0)∧Fnd L (mast d) last:=by
 obtain⟨h1,h2,h3,d0,r1,r2,h4,h5⟩:=h
 rcases h5 with⟨_,rfl,a3,a4⟩|⟨_,L,a2,a3⟩
 ·obtain⟨o,ho⟩:=(opn_lies h1 h2 a3).start
  exact⟨o,r1,ho,a4⟩
 ·obtain⟨o,ho⟩:=a2.start
  exact⟨o,L,ho,a3⟩
end Ck
namespace Tx
theorem openL_len (s:List UInt8):∀ f a,(Lg.openL s f a).1.length≤f:=by
 intro f
 induction f with
 |zero=>intro a;unfold Lg.openL;simp
 |succ f ih=>
  intro a
  cases h:Lg.getO s a with
  |none=>rw[Lg.openL_none h];simp
  |some rb=>
   obtain⟨r,b⟩:=rb
   by_cases hl:r.lsn=(a:Int)+1
   ·rw[Lg.openL_go h hl];simpa using ih b
   ·rw[Lg.openL_stop h hl];simp
theorem openD_len {d:Lg.Dk}(hw:∀ x∈d.sectors,x.size≤128)(a n:Int)(hn:n≤1000):(Lg.openD d a n).2.1.length≤200000:=by
 unfold Lg.openD
 cases h:Lg.secsD d a n.toNat with
 |error e=>simp
 |ok l=>
  have h1:=(Lg.secs_len hw n.toNat h).1
  have h2:=openL_len l (l.length+1) 0
  simp only
  omega
end Tx
namespace Go.Proofs.YtilakddepaplhaaGreat
open Go.RowKit
def sfCl (n:Nat)(last:Int):Cl:=⟨(n:Int),Ck.Sf n last,fun _ _ r h=>h.app r,fun _ _ h=>h.frc,fun _ _ a b ha h=>h.wr a b ha⟩
theorem take_sf {n:Nat}{last:Int}{s:Tx.St}(fs:List Fr)(h:Ck.Sf n last s.disk s.log):Ck.Sf n (if(takeT s fs).2=0 then s.log.end_+1 else last) (takeT s fs).1.disk (takeT s fs).1.log:=by
 have h1:=h.take (chk s fs) rfl
 have e:(takeT s fs).2=(Ck.takeD s.disk s.log (chk s fs)).2.2∧(takeT s fs).1.disk=(Ck.takeD s.disk s.log (chk s fs)).1∧(takeT s fs).1.log=(Ck.takeD s.disk s.log (chk s fs)).2.1:=by
  unfold takeT takeX Ck.takeD
  simp only
  split
  ·exact⟨rfl,rfl,rfl⟩
  ·split
   ·exact⟨rfl,rfl,rfl⟩
   ·exact⟨rfl,rfl,rfl⟩
 rw[e.1,e.2.1,e.2.2];exact h1
def fndK (ps:List PRec)(m:Int)(k:Nat):Prop:=m=0∨∃ i,∃ h:i<ps.length,i<k∧ps[i].r.lsn=m∧ps[i].r.kind=9
theorem fndK_more {ps:List PRec}{m:Int}{k:Nat}(h:fndK ps m k):fndK ps m (k+1):=by
 rcases h with h|⟨i,hi,h1,h2⟩
 ·exact .inl h
 ·exact .inr ⟨i,hi,by omega,h2⟩
theorem fndK_no {ps:List PRec}{m:Int}{k:Nat}(hk:k<ps.length)(h:¬ fndK ps m k)(h2:¬ (ps[k].r.lsn=m∧ps[k].r.kind=9)):¬ fndK ps m (k+1):=by
 rintro(h3|⟨i,hi,h4,h5⟩)
 ·exact h (.inl h3)
 ·by_cases hik:i=k
  ·subst hik;exact h2 h5
  ·exact h (.inr ⟨i,hi,by omega,h5⟩)
theorem fndK_all {ps:List PRec}{L:List Rc.Rec}{m last:Int}(h:ps.map (·.r)=L)(hf:Ck.Fnd L m last):fndK ps m ps.length:=by
 rcases hf.1 with h1|⟨r,hr,h2⟩
 ·exact .inl h1
 ·rw[← h]at hr
  obtain⟨p,hp,rfl⟩:=List.mem_map.1 hr
  obtain⟨i,hi,rfl⟩:=List.getElem_of_mem hp
  exact .inr ⟨i,hi,hi,h2⟩
theorem ckptsafe_any (m:Int)(l:List Dd)(hll:l.length≤140737488355328)(hln:∀ d∈l,d.n≤9223372036854775807)(A:Option Addr)(c:Nat)(w:World)(hr:Reads w A c l.length (l.flatMap ddC)):
 Calls Tryz.prog 5 #[m,.slice A l.length c] w fun e w'=>e= .returned (.bool true)∧Below w.heap.size w w':=by
 have HFW:=Hq (fun W=>cpfew_any m A l.length c W)
 have HAW:=Hq (fun W=>cawake_any W)
 have HR:=Hq hr
 have HLN:=Hq hln
 clear hr hln
 by_cases hfew:0≤m∧m≤60∧l.length≤30
 ·rw[decide_eq_true hfew]at HFW
  obtain⟨hm0,hm1,hl30⟩:=hfew
  obtain⟨n,rfl⟩:=Int.eq_ofNat_of_zero_le hm0
  have hn60:n≤60:=by omega
  have HFS:=Hq (fun W=>cpfresh_any n hn60 W)
  have HK0:=Hq (show CkR (sfCl n 0) n 0 (freshT n) freshF from ck_new n hn60 rfl (Ck.sf_new n))
  generalize freshT n=s0 at HFS HK0
  generalize freshF=f0 at HFS HK0
  clear hm0 hm1
  go_enter Tryz.func5,Tryz.ntmps5
  go_upto_region 4 with(first
   |(go_at_call 6;(refine(HFW.out _).mono ?_);rintro e w1 ⟨rfl,hb1⟩)
   |(go_at_call 8;(refine(HFS.out _).mono ?_);rintro e w2 ⟨q,rfl,hpq,hb2⟩)
   |(with_reducible refine sN (stA s0 q) ?_))
  have hba:=allocB w2 (.cells (stA s0 q) 37)
  have HG0:=Hq (heap_alloc_new w2 (.cells (stA s0 q) 37))
  have HP0:=Hq (hpq.below hba)
  have hb12:=joinB hb1 hb2
  have HB0:=Hq (hb12.trans (hba.mono hb12.size))
  have hgw:w.heap.size≤w2.heap.size:=hb12.size
  obtain⟨g,hg⟩:=ex w2.heap.size
  obtain⟨W1,hW1⟩:=ex (w2.alloc (.cells (stA s0 q) 37))
  rw[← hg,← hW1]at HG0
  rw[← hW1]at HP0 HB0
  rw[← hW1,← hg]
  rw[← hg]at hgw
  clear hW1 hg hba hb12 hb1 hb2 hpq HFW HFS
  try simp only[Act.put]
  go_wp2_with fail
  go_loopw [6,7] (fun la i wr=>∃ (k:Nat) (s:Tx.St) (p:SP) (fs:List Fr) (last:Int),k≤l.length∧la= .int .i64 last∧i= .int .i64 (k:Int)∧wr.heap[g]? =some (.cells (stA s p) 37 (0,0))∧PoolR wr s p fs∧CkR (sfCl n last) n k s fs∧Below w.heap.size w wr) (fun _ i _=>l.length-(intOf i).toNat)
  case atStart=>exact⟨0,s0,q,f0,0,Nat.zero_le _,rfl,rfl,HG0.out,HP0.out,HK0.out,HB0.out⟩
  case round=>
   clear HG0 HP0 HK0 HB0
   obtain⟨k,s,p,fs,last,hk,rfl,rfl,hgc,hp,hck,hbw⟩:=hrel
   have HG:=Hq hgc
   have HP:=Hq hp
   have HCK:=Hq hck
   have HBW:=Hq hbw
   clear hgc hp hck hbw
   have hk0:(0:Int)≤(k:Int):=by omega
   by_cases hlt:k<l.length
   ·have hki:(k:Int)<(l.length:Int):=by omega
    have hwk:IntKind.i64.wrap ((k:Int)+1)=(k:Int)+1:=IntWalk.i64_in _ (by omega)
    obtain⟨b,off,rfl,hca,hbl,hcell⟩:=read_at ddC_len (HR.out.below HBW.out) hlt
    have hdn:=HLN.out l[k] (List.getElem_mem hlt)
    generalize l[k]=d at hcell hdn
    obtain⟨dk,dt,dp,dn⟩:=d
    simp only at hdn
    have hd0:=hcell 0 _ rfl
    simp only[Nat.add_zero]at hd0
    by_cases h2:dk=2
    ·have h2b:(dk != 2)=false:=by rw[h2];rfl
     have HCT:=Hq (fun W (hb:Below wr.heap.size wr W)=>ctake_any s p fs HCK.out.lg HCK.out.dk HCK.out.fr (by have:=HCK.out.tx;omega) W (HP.out.below hb))
     have HSF:=take_sf fs HCK.out.lg.ev
     have HCK2:=Hq (HCK.out.take (cl2:=sfCl n (if(takeT s fs).2=0 then s.log.end_+1 else last)) rfl HSF)
     clear HSF
     have h8c:=show wr.cell? ⟨g,8,none⟩=some (.int .i64 s.log.end_)from by rw[blkCell HG.out];rfl
     have hwe:IntKind.i64.wrap (s.log.end_+1)=s.log.end_+1:=IntWalk.i64_in _ (by have h0:=HCK.out.lg.b.e0;have h1:=HCK.out.lg.b.e1;omega)
     generalize takeT s fs=x at HCT HCK2
     obtain⟨s2,e2⟩:=x
     dsimp only at HCK2
     clear hcell hca hbl
     by_cases he:e2=0
     ·rw[if_pos he]at HCK2
      have hee:(e2==0)=true:=by rw[he];rfl
      clear he
      go_wp2_with (first
       |(with_reducible refine lL HG.out Tryz.underlying37 ?_)
       |(go_at_call 10;(refine(HCT.out _ (Below.refl _ wr)).mono ?_);rintro e w3 ⟨q1,rfl,hp1,hb3⟩;have hba3:=allocB w3 (.cells (stA s2 q1) 37);have HG4:=Hq (heap_alloc_new w3 (.cells (stA s2 q1) 37));have HP4:=Hq (hp1.below hba3);have HB4:=Hq (hb3.trans (hba3.mono hb3.size));have HGB:=Hq (blkOld HG.out HB4.out);clear hba3 hb3 hp1)
       |(with_reducible refine sN (stA s2 q1) ?_)
       |(with_reducible refine lL HG4.out Tryz.underlying37 ?_)
       |(with_reducible refine lS (stA s2 q1) HGB.out ?_))
      go_roundw
      case rel=>exact⟨k+1,s2,q1,fs,_,by omega,rfl,by go_num,setRow_heap _ _ _ (stA s2 q1) _ _ HGB.out,HP4.out.other (t:=37) HGB.out (by decide) (by decide) (by decide) _,HCK2.out,rowB hgw (HBW.out.trans (HB4.out.mono HBW.out.size)) _⟩
      case measure=>simp[intOf];omega
     ·rw[if_neg he]at HCK2
      have hee:(e2==0)=false:=beq_eq_false_iff_ne.2 he
      clear he
      go_wp2_with (first
       |(with_reducible refine lL HG.out Tryz.underlying37 ?_)
       |(go_at_call 10;(refine(HCT.out _ (Below.refl _ wr)).mono ?_);rintro e w3 ⟨q1,rfl,hp1,hb3⟩;have hba3:=allocB w3 (.cells (stA s2 q1) 37);have HG4:=Hq (heap_alloc_new w3 (.cells (stA s2 q1) 37));have HP4:=Hq (hp1.below hba3);have HB4:=Hq (hb3.trans (hba3.mono hb3.size));have HGB:=Hq (blkOld HG.out HB4.out);clear hba3 hb3 hp1)
       |(with_reducible refine sN (stA s2 q1) ?_)
       |(with_reducible refine lL HG4.out Tryz.underlying37 ?_)
       |(with_reducible refine lS (stA s2 q1) HGB.out ?_))
      go_roundw
      case rel=>exact⟨k+1,s2,q1,fs,_,by omega,rfl,by go_num,setRow_heap _ _ _ (stA s2 q1) _ _ HGB.out,HP4.out.other (t:=37) HGB.out (by decide) (by decide) (by decide) _,HCK2.out,rowB hgw (HBW.out.trans (HB4.out.mono HBW.out.size)) _⟩
      case measure=>simp[intOf];omega
    ·have h2b:(dk != 2)=true:=bne_iff_ne.2 h2
     have HDO:=Hq (fun W (hb:Below wr.heap.size wr W)=>cpdo_any s p fs (HCK.out.ck hn60 (by omega)) dk dt dp dn hdn (fun _=>Ck.Sf.arm HCK.out.lg.ev dn hdn) W (HP.out.below hb))
     have HDR:=Hq (show ∀ u,Below wr.heap.size wr u→u.rangeAt b (off+k*4) [.int .i64 dk,.int .i64 dt,.int .i64 dp,.int .i64 dn]from fun u hu i v hv=>by rw[hu.cell (p:=⟨b,off+k*4+i,none⟩) hbl];exact hcell i v hv)
     clear hcell hca hbl
     go_upto_region 9 with fail
     have hSn:Below wr.heap.size wr wr.drew:=(Below.refl _ wr).drew
     refine wp_region_Z (S:=(fun u=>Below wr.heap.size wr u)) 6 Kr ?_ (fun hHeld=>?_)
     ·exact hSn
     generalize wr.drew=w9 at hSn ⊢
     refine wpAnyZ_take (i:=0) (oi:={dst:=some 37,op:=_,type:=_,pos:=_,after:=_,guard:=_}) (v:=.agg (stA s p)) (p:=[6]) rfl Kr Kr Kr Kr Kr Kr (fun _ _ _ h=>h) (yieldsIf_load_mid (by rfl) 37 (.tmp 5) rfl g 0 (by rfl) (stA s p).toList _ (fun u hu=>(by intro j v hj;rw[Nat.zero_add,blkCell (blkOld HG.out hu)];simpa using hj)) Tryz.underlying37 Kr Kr) (by assumption) ?_
     try simp only[Act.put,pS]
     refine tzP 1 [6] ?_
     refine tzP 2 [6] ?_
     refine tzP 3 [6] ?_
     refine wpAnyZ_take (i:=4) (oi:={dst:=some 41,op:=_,type:=_,pos:=_,after:=_,guard:=_}) (v:=.agg #[dk,dt,dp,dn]) (p:=[6]) rfl Kr Kr Kr Kr Kr Kr (fun _ _ _ h=>h) (yieldsIf_load_mid (by rfl) 40 (.tmp 40) rfl b (off+k*4) (by rfl) [.int .i64 dk,.int .i64 dt,.int .i64 dp,.int .i64 dn] _ HDR.out Tryz.underlying40 Kr Kr) (by assumption) ?_
     try simp only[Act.put,pS]
     refine wpAnyZ_ready (rs:=[5]) Kr (by simp) ?_
     refine AllReadyZ.cons (o:={dst:=some 42,op:=_,type:=_,pos:=_,after:=_,guard:=_}) rfl (fun K hK=>?_) ?_
     rotate_left
     ·exact AllReadyZ.nil
     go_simp
     (refine(HDO.out _ hSn).mono ?_);rintro e u1 ⟨s3,q3,fs3,rfl,hp3,hf3,hdk3,hb1⟩;have hSm:=joinB hSn hb1;clear hSn;have hSn:=hSm;clear hSm;have HGU:=blkOld HG.out hSn
     refine hKo hK (fun hHeld=>?_)
     clear hK K
     refine wpAnyZ_ready (rs:=[6]) Kr (by simp) ?_
     refine AllReadyZ.last (o:={dst:=none,op:=_,type:=_,pos:=_,after:=_,guard:=_}) rfl Kr (fun K hK=>?_) ?_
     rotate_left
     ·exact AllReadyZ.nil
     refine wantedIf (by rfl) ?_
     refine sW (stA s3 q3) HGU ?_
     have HS3:=setRow_heap _ _ _ (stA s3 q3) _ _ HGU
     have HP3:=hp3.other (t:=37) HGU (by decide) (by decide) (by decide) (stA s3 q3)
     have HB3:=rowB hgw (HBW.out.trans (hSn.mono HBW.out.size)) (stA s3 q3)
     refine hK.out _ _ ?_
     clear hK K
     try simp only[Act.put]
     refine wpAnyZ_done Kr ?_ _
     clear hHeld
     go_wp2_with fail
     go_roundw
     case rel=>exact⟨k+1,s3,q3,fs3,last,by omega,rfl,by go_num,HS3,HP3,HCK.out.deed hdk3 hf3,HB3⟩
     case measure=>simp[intOf];omega
   ·obtain rfl:k=l.length:=by omega
    obtain⟨o,L,hop,hfd⟩:=HCK.out.lg.ev.found
    have hsw:=HCK.out.lg.ev.whole
    have hsl:=HCK.out.lg.ev.len
    have hLl:L.length≤200000:=by have h9:=Tx.openD_len (d:=Lg.startD s.disk) (fun x hx=>Nat.le_of_eq (hsw x hx)) 1 (n:Int) (by omega);rw[hop]at h9;exact h9
    have HST:=Hq (fun W=>show Calls Tryz.prog 19 #[diskV s.disk p.A p.c] W fun e w'=>e= .returned (diskV (Lg.startD s.disk) p.A p.c)∧Below W.heap.size W w' from cstart_any s.disk p.A p.c W)
    have HDR:=Hq (fun W (hw:Below wr.heap.size wr W)=>show DiskR W (Lg.startD s.disk) p.A p.c from(show DiskR wr (Lg.startD s.disk) p.A p.c from⟨HP.out.st.dk.secs,HP.out.st.dk.small⟩).below hw)
    have HMA:=Hq (fun W (hw:Below wr.heap.size wr W)=>show Calls Tryz.prog 13 #[diskV (Lg.startD s.disk) p.A p.c] W fun e w'=>e= .returned (.int .i64 (Ck.mast s.disk))∧Below W.heap.size W w' from cmaster_any (Lg.startD s.disk) p.A p.c W (HDR.out W hw))
    have HOP:=Hq (fun W (hw:Below wr.heap.size wr W)=>show Calls Tryz.prog 20 #[diskV (Lg.startD s.disk) p.A p.c,.int .i64 1,.int .i64 (n:Int)] W (OpenOut (o,L,0) W)from by
     have h9:=open_any (Lg.startD s.disk) (fun x hx=>Nat.le_of_eq (hsw x hx)) (by show s.disk.sectors.length≤_;omega) p.A p.c 1 (n:Int) (by omega) (by omega) (by omega) W (HDR.out W hw)
     rw[hop]at h9
     exact h9)
    have HFD:=Hq hfd
    clear hop hfd hsw hsl HDR HCK HR HLN HP
    generalize Ck.mast s.disk=mm at HMA HFD
    generalize Lg.startD s.disk=dd at HST HMA HOP
    dsimp only[diskV]at HST HMA HOP
    go_upto_region 16 with(first
     |(with_reducible refine lP #[.slice p.A s.disk.sectors.length p.c,s.disk.left,s.disk.down] HG.out Tryz.underlying29 ?_)
     |(go_at_call 19;(with_reducible refine(HST.out _).mono ?_);rintro e w8 ⟨rfl,hb8⟩;(try dsimp only[diskV]))
     |(with_reducible refine sN #[.slice p.A dd.sectors.length p.c,dd.left,dd.down] ?_))
    have hba8:=allocB w8 (.cells #[.slice p.A dd.sectors.length p.c,dd.left,dd.down] 29)
    have HG8:=Hq (heap_alloc_new w8 (.cells #[.slice p.A dd.sectors.length p.c,dd.left,dd.down] 29))
    have HB8:=Hq (hb8.trans (hba8.mono hb8.size))
    obtain⟨g8,hg8⟩:=ex w8.heap.size
    obtain⟨W8,hW8⟩:=ex (w8.alloc (.cells #[.slice p.A dd.sectors.length p.c,dd.left,dd.down] 29))
    rw[← hg8,← hW8]at HG8
    rw[← hW8]at HB8
    rw[← hW8,← hg8]
    clear hW8 hg8 hba8 hb8 HST
    try simp only[Act.put]
    go_upto_region 18 with(first
     |(with_reducible refine lL HG8.out Tryz.underlying29 ?_)
     |(go_at_call 13;(with_reducible refine(HMA.out _ HB8.out).mono ?_);rintro e w9 ⟨rfl,hb9⟩;have HG9:=Hq (blkOld HG8.out hb9);have HB9:=Hq (joinB HB8.out hb9);clear hb9)
     |(with_reducible refine lL HG9.out Tryz.underlying29 ?_)
     |(go_at_call 20;(with_reducible refine(HOP.out _ HB9.out).mono ?_);rintro e w10 ⟨ps,v,h1,rfl,h2,h3,hb10⟩;(try dsimp only[logV]))
     |(with_reducible refine sN #[o.from_,o.n,o.end_,o.safe,o.tail] ?_))
    obtain⟨A9,c9,rfl⟩:=ownLen h2
    have hbn:=pastAlloc (o:=.cells #[o.from_,o.n,o.end_,o.safe,o.tail] 31) hb10
    have HB10:=Hq (joinB HBW.out (joinB HB9.out hbn))
    have HRP:=Hq (own_reads (ownBelow h2 (allocB w10 (.cells #[o.from_,o.n,o.end_,o.safe,o.tail] 31))))
    have hpl:ps.length≤200000:=by have:=congrArg List.length h1;rw[List.length_map]at this;simp only at this;omega
    have HFK:=Hq (fndK_all h1 HFD.out)
    have HLM:=Hq HFD.out.2
    obtain⟨W9,hW9⟩:=ex (w10.alloc (.cells #[o.from_,o.n,o.end_,o.safe,o.tail] 31))
    rw[← hW9]at HB10 HRP
    rw[← hW9]
    clear hW9 h1 h2 h3 hb10 hbn HB8 HB9 HG8 HG9 HMA HOP HFD HBW HG
    try simp only[Act.put]
    go_wp2_with fail
    go_loopw [16,17] (fun fv i wr=>∃ (j:Nat) (f:Bool),i= .int .i64 (j:Int)∧j≤ps.length∧fv= .bool f∧(f=true↔fndK ps mm j)∧Below W9.heap.size W9 wr) (fun _ i _=>ps.length-(intOf i).toNat)
    case atStart=>exact⟨0,(mm==0),rfl,Nat.zero_le _,rfl,⟨fun h=>.inl (by simpa using h),fun h=>by
     rcases h with h|⟨i,_,h,_⟩
     ·simpa using h
     ·omega⟩,Below.refl _ _⟩
    case round=>
     obtain⟨j,f,rfl,hj,rfl,hf,hbj⟩:=hrel
     have HF:=Hq hf
     have HBJ:=Hq hbj
     clear hf hbj
     by_cases hjl:j<ps.length
     ·have hj1:(0:Int)≤(j:Int):=by omega
      have hj2:(j:Int)<(ps.length:Int):=by omega
      have hwj:IntKind.i64.wrap ((j:Int)+1)=(j:Int)+1:=IntWalk.i64_in _ (by omega)
      cases f with
      |true=>
       go_wp2_with fail
       go_roundw
       case rel=>exact⟨j+1,true,by go_num,by omega,rfl,⟨fun _=>fndK_more (HF.out.1 rfl),fun _=>rfl⟩,HBJ.out⟩
       case measure=>simp[intOf];omega
      |false=>
       obtain⟨b,off,rfl,hc,hbl,hcell⟩:=read_at recC_len (HRP.out.below HBJ.out) hjl
       have HN:=Hq (show ¬ fndK ps mm j from fun h=>by have:=HF.out.2 h;cases this)
       have q0:=hcell 0 _ rfl
       have q3:=hcell 3 _ rfl
       simp only[Nat.add_zero]at q0
       by_cases h1:ps[j].r.lsn=mm
       ·have h1b:(ps[j].r.lsn==mm)=true:=by rw[h1];exact beq_self_eq_true _
        by_cases h9:ps[j].r.kind=9
        ·have h9b:(ps[j].r.kind==9)=true:=by rw[h9];rfl
         have HY:=Hq (show fndK ps mm (j+1)from .inr ⟨j,hjl,by omega,h1,h9⟩)
         generalize ps[j]=y at q0 q3 h1b h9b
         clear hcell h1 h9
         go_wp2_with fail
         go_roundw
         case rel=>exact⟨j+1,true,by go_num,by omega,rfl,⟨fun _=>HY.out,fun _=>rfl⟩,HBJ.out⟩
         case measure=>simp[intOf];omega
        ·have h9b:(ps[j].r.kind==9)=false:=beq_eq_false_iff_ne.2 h9
         have HY:=Hq (show ¬ fndK ps mm (j+1)from fndK_no hjl HN.out fun h=>h9 h.2)
         generalize ps[j]=y at q0 q3 h1b h9b
         clear hcell h1 h9
         go_wp2_with fail
         go_roundw
         case rel=>exact⟨j+1,false,by go_num,by omega,rfl,⟨(fun h=>by cases h),fun h=>absurd h HY.out⟩,HBJ.out⟩
         case measure=>simp[intOf];omega
       ·have h1b:(ps[j].r.lsn==mm)=false:=beq_eq_false_iff_ne.2 h1
        have HY:=Hq (show ¬ fndK ps mm (j+1)from fndK_no hjl HN.out fun h=>h1 h.1)
        generalize ps[j]=y at q0 q3 h1b
        clear hcell h1
        go_wp2_with fail
        go_roundw
        case rel=>exact⟨j+1,false,by go_num,by omega,rfl,⟨(fun h=>by cases h),fun h=>absurd h HY.out⟩,HBJ.out⟩
        case measure=>simp[intOf];omega
     ·obtain rfl:j=ps.length:=by omega
      have hft:f=true:=HF.out.2 HFK.out
      subst hft
      have hge:decide (mm≥last)=true:=decide_eq_true HLM.out
      have hge2:decide (last≤mm)=true:=decide_eq_true HLM.out
      go_wp2_with (go_at_call 7;(refine(HAW.out _).mono ?_);rintro e w11 ⟨rfl,hb11⟩)
      go_ret
      exact⟨by simp,joinB HB10.out (joinB HBJ.out hb11)⟩
 ·rw[decide_eq_false hfew]at HFW
  go_enter Tryz.func5,Tryz.ntmps5
  go_wp2_with (first
   |(go_at_call 6;(refine(HFW.out _).mono ?_);rintro e w1 ⟨rfl,hb1⟩)
   |(go_at_call 7;(refine(HAW.out _).mono ?_);rintro e w2 ⟨rfl,hb2⟩))
  go_ret
  exact⟨by simp,joinB hb1 hb2⟩
end Go.Proofs.YtilakddepaplhaaGreat
