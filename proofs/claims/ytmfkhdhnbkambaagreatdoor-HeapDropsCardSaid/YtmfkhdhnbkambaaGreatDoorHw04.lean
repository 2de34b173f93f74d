import Derived.Test.YtmfkhdhnbkambaaGreatDoorHw00
import Derived.Test.YtmfkhdhnbkambaaGreatDoorHw01
set_option maxRecDepth 100000
set_option maxHeartbeats 16000000
set_option linter.unusedSimpArgs false
namespace Rc
structure Op where
 kind:Int
 slot:Int
 By:ByteArray
 new:ByteArray
structure Be where
 txn:Int
 last:Int
 next:Int
 done:Bool
structure Bx where
 Ad:Int
 from_:Int
structure Key where
 key:ByteArray
 Ad:Int
 slot:Int
structure Rec where
 lsn:Int
 prev:Int
 txn:Int
 kind:Int
 Ad:Int
 next:Int
 num:Int
 op:Op
 how:Int
 root:Int
 e:Key
 txns:List Be
 dirty:List Bx
def Jo:Op:=⟨0,0,⟨#[]⟩,⟨#[]⟩⟩
def Ce:Key:=⟨⟨#[]⟩,0,0⟩
def bare (kind lsn prev txn:Int):Rec:=⟨lsn,prev,txn,kind,0,0,0,Jo,0,0,Ce,[],[]⟩
def num (n:Int):Prop:=0≤n∧n<1099511627776
def pg (n:Int):Prop:=0≤n∧n<8388608
def sl (n:Int):Prop:=0≤n∧n<32768
def Ix (o:Op):Prop:=1≤o.kind∧o.kind≤7∧sl o.slot∧o.By.size≤512∧o.new.size≤512
def Fp (r:Rec):Prop:=(r.how=1∧r.root=0∧r.e=Ce)∨((r.how=2∨r.how=3)∧pg r.root∧pg r.e.Ad∧sl r.e.slot∧r.e.key.size≤100)
def Ji (t:Be):Prop:=num t.txn∧num t.last∧num t.next
def Fj (d:Bx):Prop:=pg d.Ad∧num d.from_
def R9 (r:Rec):Prop:=r.txns.length≤1000∧r.dirty.length≤2000∧(∀ t∈r.txns,Ji t)∧∀ d∈r.dirty,Fj d
inductive Bu:Rec→Prop
 |small (kind lsn prev txn:Int) (hk:kind=1∨kind=5∨kind=6∨kind=7) (h1:num lsn) (h2:num prev) (h3:num txn):Bu (bare kind lsn prev txn)
 |change (lsn prev txn Ad:Int) (op:Op) (how root:Int) (e:Key) (h1:num lsn) (h2:num prev) (h3:num txn) (h4:pg Ad) (h5:Ix op)
   (h6:Fp ⟨lsn,prev,txn,2,Ad,0,0,op,how,root,e,[],[]⟩):Bu ⟨lsn,prev,txn,2,Ad,0,0,op,how,root,e,[],[]⟩
 |clr (lsn prev txn Ad:Int) (op:Op) (next:Int) (h1:num lsn) (h2:num prev) (h3:num txn) (h4:pg Ad) (h5:Ix op) (h6:num next):Bu ⟨lsn,prev,txn,3,Ad,next,0,op,0,0,Ce,[],[]⟩
 |nest (lsn prev txn next:Int) (h1:num lsn) (h2:num prev) (h3:num txn) (h6:num next):Bu ⟨lsn,prev,txn,4,0,next,0,Jo,0,0,Ce,[],[]⟩
 |image (lsn prev txn Ad:Int) (op:Op) (h1:num lsn) (h2:num prev) (h3:num txn) (h4:pg Ad) (h5:Ix op):Bu ⟨lsn,prev,txn,8,Ad,0,0,op,0,0,Ce,[],[]⟩
 |check (lsn prev txn n:Int) (ts:List Be) (ds:List Bx) (h1:num lsn) (h2:num prev) (h3:num txn) (h4:num n)
   (h5:R9 ⟨lsn,prev,txn,9,0,0,n,Jo,0,0,Ce,ts,ds⟩):Bu ⟨lsn,prev,txn,9,0,0,n,Jo,0,0,Ce,ts,ds⟩
def p (n:Int)(k:Nat):List UInt8:=Oct.Bm (Oct.word n) k
def t (s:ByteArray):List UInt8:=p s.size 2++s.data.toList
def M1 (o:Op):List UInt8:=p o.kind 1++(p o.slot 2++(t o.By++t o.new))
def Oz (x:Be):List UInt8:=p x.txn 6++(p x.last 6++(p x.next 6++p (if x.done then 1 else 0) 1))
def Hi (d:Bx):List UInt8:=p d.Ad 3++p d.from_ 6
def Gf (r:Rec):List UInt8:=p r.kind 1++(p r.lsn 6++(p r.prev 6++p r.txn 6))
def Nv (r:Rec):List UInt8:=if r.how=1 then[]else p r.root 3++(p r.e.Ad 3++(p r.e.slot 2++t r.e.key))
def Sa (r:Rec):List UInt8:=p r.num 6++(p r.txns.length 2++(r.txns.flatMap Oz++(p r.dirty.length 2++r.dirty.flatMap Hi)))
def Gc (r:Rec):List UInt8:=
 if r.kind=2 then p r.Ad 3++(M1 r.op++(p r.how 1++Nv r))
 else if r.kind=3 then p r.Ad 3++(M1 r.op++p r.next 6)
 else if r.kind=4 then p r.next 6
 else if r.kind=8 then p r.Ad 3++M1 r.op
 else if r.kind=9 then Sa r
 else[]
theorem O0 {r:Rec}(h:r.kind=2):Gc r=p r.Ad 3++(M1 r.op++(p r.how 1++Nv r)):=if_pos h
theorem Rd {r:Rec}(h:r.kind=3):Gc r=p r.Ad 3++(M1 r.op++p r.next 6):=by unfold Gc;rw[if_neg (by omega),if_pos h]
theorem Wo {r:Rec}(h:r.kind=4):Gc r=p r.next 6:=by unfold Gc;rw[if_neg (by omega),if_neg (by omega),if_pos h]
theorem Re {r:Rec}(h:r.kind=8):Gc r=p r.Ad 3++M1 r.op:=by unfold Gc;rw[if_neg (by omega),if_neg (by omega),if_neg (by omega),if_pos h]
theorem fL {r:Rec}(h:r.kind=9):Gc r=Sa r:=by unfold Gc;rw[if_neg (by omega),if_neg (by omega),if_neg (by omega),if_neg (by omega),if_pos h]
def Di (r:Rec):List UInt8:=Gf r++Gc r
structure St where
 at_:Nat
 bad:Bool
def Iy (adv:Bool)(s:List UInt8)(a:St)(k:Nat):Int×St:=
 if a.at_+k≤s.length then((Oct.Dj s a.at_ k:Nat),⟨a.at_+k,a.bad⟩)else(0,⟨if adv then a.at_+k else a.at_,true⟩)
def nW (s:List UInt8)(a:St):ByteArray×St:=
 if a.at_+2+Oct.Dj s a.at_ 2≤s.length then(⟨((s.drop (a.at_+2)).take (Oct.Dj s a.at_ 2)).toArray⟩,⟨a.at_+2+Oct.Dj s a.at_ 2,a.bad⟩)else(⟨#[]⟩,⟨a.at_,true⟩)
def yB (adv:Bool)(s:List UInt8)(a:St):Op×St:=
 let x:=Iy adv s a 1
 let y:=Iy adv s x.2 2
 let u:=nW s y.2
 let v:=nW s u.2
 (⟨x.1,y.1,u.1,v.1⟩,v.2)
def yC (adv:Bool)(s:List UInt8)(a:St):Be×St:=
 let x:=Iy adv s a 6
 let y:=Iy adv s x.2 6
 let z:=Iy adv s y.2 6
 let d:=Iy adv s z.2 1
 (⟨x.1,y.1,z.1,d.1==1⟩,d.2)
def uV (adv:Bool)(s:List UInt8)(a:St):Bx×St:=
 let x:=Iy adv s a 3
 let y:=Iy adv s x.2 6
 (⟨x.1,y.1⟩,y.2)
def nX {α:Type}(one:St→α×St):Nat→St→List α×St
 |0,a=>([],a)
 |n+1,a=>if a.bad then([],a)else
  let x:=one a
  let l:=nX one n x.2
  (x.1::l.1,l.2)
def uL (adv:Bool)(s:List UInt8):Rec×St:=
 let k:=Iy adv s ⟨0,false⟩ 1
 let l:=Iy adv s k.2 6
 let pr:=Iy adv s l.2 6
 let tx:=Iy adv s pr.2 6
 (bare k.1 l.1 pr.1 tx.1,tx.2)
def wO (adv:Bool)(s:List UInt8)(r:Rec)(a:St):Rec:=
 let h:=Iy adv s a 1
 if h.1=1 then{r with how:=h.1}else
  let ro:=Iy adv s h.2 3
  let pa:=Iy adv s ro.2 3
  let so:=Iy adv s pa.2 2
  let ke:=nW s so.2
  {r with how:=h.1,root:=ro.1,e:=⟨ke.1,pa.1,so.1⟩}
def uW (adv:Bool)(s:List UInt8)(r:Rec)(a:St):Rec:=
 let n:=Iy adv s a 6
 let c:=Iy adv s n.2 2
 let ts:=nX (yC adv s) c.1.toNat c.2
 let d:=Iy adv s ts.2 2
 let ds:=nX (uV adv s) d.1.toNat d.2
 {r with num:=n.1,txns:=ts.1,dirty:=ds.1}
def wP (adv:Bool)(s:List UInt8)(r:Rec)(a:St):Rec:=
 if r.kind=2 then
  let pa:=Iy adv s a 3
  let o:=yB adv s pa.2
  wO adv s {r with Ad:=pa.1,op:=o.1} o.2
 else if r.kind=3 then
  let pa:=Iy adv s a 3
  let o:=yB adv s pa.2
  let n:=Iy adv s o.2 6
  {r with Ad:=pa.1,op:=o.1,next:=n.1}
 else if r.kind=4 then
  let n:=Iy adv s a 6
  {r with next:=n.1}
 else if r.kind=8 then
  let pa:=Iy adv s a 3
  let o:=yB adv s pa.2
  {r with Ad:=pa.1,op:=o.1}
 else if r.kind=9 then uW adv s r a
 else r
def uM (adv:Bool)(s:List UInt8):Rec:=wP adv s (uL adv s).1 (uL adv s).2
theorem Bf (n:Int)(k:Nat):(p n k).length=k:=Oct.Bc _ _
instance:DecidableEq Op:=fun a b=>by
 obtain⟨a1,a2,a3,a4⟩:=a;obtain⟨b1,b2,b3,b4⟩:=b
 by_cases h:a1=b1∧a2=b2∧a3=b3∧a4=b4
 ·exact .isTrue (by obtain⟨rfl,rfl,rfl,rfl⟩:=h;rfl)
 ·exact .isFalse (fun e=>by injection e with e1 e2 e3 e4;exact h ⟨e1,e2,e3,e4⟩)
instance:DecidableEq Key:=fun a b=>by
 obtain⟨a1,a2,a3⟩:=a;obtain⟨b1,b2,b3⟩:=b
 by_cases h:a1=b1∧a2=b2∧a3=b3
 ·exact .isTrue (by obtain⟨rfl,rfl,rfl⟩:=h;rfl)
 ·exact .isFalse (fun e=>by injection e with e1 e2 e3;exact h ⟨e1,e2,e3⟩)
instance (n:Int):Decidable (num n):=by unfold num;exact inferInstance
instance (n:Int):Decidable (pg n):=by unfold pg;exact inferInstance
instance (n:Int):Decidable (sl n):=by unfold sl;exact inferInstance
instance (o:Op):Decidable (Ix o):=by unfold Ix;exact inferInstance
instance (r:Rec):Decidable (Fp r):=by unfold Fp;exact inferInstance
instance (x:Be):Decidable (Ji x):=by unfold Ji;exact inferInstance
instance (x:Bx):Decidable (Fj x):=by unfold Fj;exact inferInstance
instance (r:Rec):Decidable (R9 r):=by unfold R9;exact inferInstance
def E4 (k:Int):Prop:=k=2∨k=3∨k=8
def hasNext (k:Int):Prop:=k=3∨k=4
structure Form (r:Rec):Prop where
 kind:1≤r.kind∧r.kind≤9
 nums:num r.lsn∧num r.prev∧num r.txn
 change:E4 r.kind→pg r.Ad∧Ix r.op
 bare:¬ E4 r.kind→r.Ad=0∧r.op=Jo
 tree:r.kind=2→Fp r
 noTree:r.kind≠2→r.how=0∧r.root=0∧r.e=Ce
 next:hasNext r.kind→num r.next
 noNext:¬ hasNext r.kind→r.next=0
 lists:r.kind=9→num r.num∧R9 r
 noLists:r.kind≠9→r.num=0∧r.txns=[]∧r.dirty=[]
theorem F9 {r:Rec}(h:Bu r):Form r:=by
 cases h with
 |small kind a prev b hk c d f=>
  have g:(bare kind a prev b).kind=kind:=rfl;exact⟨by rw[g];omega,⟨c,d,f⟩,fun h=>(by unfold E4 at h;rw[g]at h;omega),fun _=>⟨rfl,rfl⟩,fun h=>(by rw[g]at h;omega),fun _=>⟨rfl,rfl,rfl⟩,fun h=>(by unfold hasNext at h;rw[g]at h;omega),fun _=>rfl,fun h=>(by rw[g]at h;omega),fun _=>⟨rfl,rfl,rfl⟩⟩
 |change a prev b Ad op how root e c d f h4 h5 h6=>
  exact⟨⟨by show(1:Int)≤2;omega,by show(2:Int)≤9;omega⟩,⟨c,d,f⟩,fun _=>⟨h4,h5⟩,fun h=>absurd (Or.inl rfl) h,fun _=>h6,fun h=>absurd rfl h,fun h=>(by rcases h with h|h<;>cases h),fun _=>rfl,fun h=>(by cases h),fun _=>⟨rfl,rfl,rfl⟩⟩
 |clr a prev b Ad op next c d f h4 h5 h6=>
  exact⟨⟨by show(1:Int)≤3;omega,by show(3:Int)≤9;omega⟩,⟨c,d,f⟩,fun _=>⟨h4,h5⟩,fun h=>absurd (Or.inr (Or.inl rfl)) h,fun h=>(by cases h),fun _=>⟨rfl,rfl,rfl⟩,fun _=>h6,fun h=>absurd (Or.inl rfl) h,fun h=>(by cases h),fun _=>⟨rfl,rfl,rfl⟩⟩
 |nest a prev b next c d f h6=>
  exact⟨⟨by show(1:Int)≤4;omega,by show(4:Int)≤9;omega⟩,⟨c,d,f⟩,fun h=>(by rcases h with h|h|h<;>cases h),fun _=>⟨rfl,rfl⟩,fun h=>(by cases h),fun _=>⟨rfl,rfl,rfl⟩,fun _=>h6,fun h=>absurd (Or.inr rfl) h,fun h=>(by cases h),fun _=>⟨rfl,rfl,rfl⟩⟩
 |image a prev b Ad op c d f h4 h5=>
  exact⟨⟨by show(1:Int)≤8;omega,by show(8:Int)≤9;omega⟩,⟨c,d,f⟩,fun _=>⟨h4,h5⟩,fun h=>absurd (Or.inr (Or.inr rfl)) h,fun h=>(by cases h),fun _=>⟨rfl,rfl,rfl⟩,fun h=>(by rcases h with h|h<;>cases h),fun _=>rfl,fun h=>(by cases h),fun _=>⟨rfl,rfl,rfl⟩⟩
 |check a prev b n ts ds c d f h4 h5=>
  exact⟨⟨by show(1:Int)≤9;omega,by show(9:Int)≤9;omega⟩,⟨c,d,f⟩,fun h=>(by rcases h with h|h|h<;>cases h),fun _=>⟨rfl,rfl⟩,fun h=>(by cases h),fun _=>⟨rfl,rfl,rfl⟩,fun h=>(by rcases h with h|h<;>cases h),fun _=>rfl,fun _=>⟨h4,h5⟩,fun h=>absurd rfl h⟩
def Jp (most:Int)(xs:List Int):Bool:=xs.all fun n=>decide (0≤n∧n≤most)
theorem nY {a:Int}{xs:List Int}{k:Nat}(hk:k<xs.length)(h:¬ (0≤xs[k]∧xs[k]≤a)):Jp a xs=false:=by
 unfold Jp;rw[List.all_eq_false];exact⟨_,List.getElem_mem hk,by simpa using h⟩
theorem nZ {a:Int}{xs:List Int}(h:∀ k (hk:k<xs.length),0≤xs[k]∧xs[k]≤a):Jp a xs=true:=by
 unfold Jp;rw[List.all_eq_true];intro x b;obtain⟨k,hk,rfl⟩:=List.getElem_of_mem b
 simpa using h k hk
end Rc
namespace Go.Proofs.YtmfkhdhnbkambaaGreatDoor
open Go.RowKit
theorem Yz (n most:Int)(g:Nat)(w:World)(h:w.cell? ⟨g,0,none⟩=some (.int .i64 most)):
 Cq 302 #[n,.pointer (some ⟨g,0,none⟩)] w fun e w'=>e= .returned (.bool (!decide (0≤n∧n≤most)))∧w=w':=by
 by_cases a:n<0
 ·rw[show decide (0≤n∧n≤most)=false from decide_eq_false (by omega)]
  go_enter Tryz.func302,Tryz.ntmps302;go_wp2_with fail;go_ret;exact⟨by simp[*],rfl⟩
 ·have c:0≤n:=by omega
  by_cases b:most<n
  ·rw[show decide (0≤n∧n≤most)=false from decide_eq_false (by omega)]
   go_enter Tryz.func302,Tryz.ntmps302;go_wp2_with fail;go_ret;exact⟨by simp[*],rfl⟩
  ·have d:n≤most:=by omega
   rw[show decide (0≤n∧n≤most)=true from decide_eq_true (by omega)];clear a b;go_enter Tryz.func302,Tryz.ntmps302;go_wp2_with fail;go_ret;exact⟨by simp[*],rfl⟩
def oA (b:Bool)(w:World)(e:Ending)(w':World):Prop:=∃ k:Int,e= .returned (.int .i64 k)∧(if b then k= -1 else 0≤k)∧w=w'
theorem cE (a:Int)(xs:List Int)(H:xs.length≤1048576)(A:Option Addr)(c g:Nat)(w:World)(z:Reads w A c xs.length (xs.map (Value.int .i64)))(h:w.cell? ⟨g,0,none⟩=some (.int .i64 a)):
 Cq 306 #[.slice A xs.length c,.func (.func 302) #[] #[.pointer (some ⟨g,0,none⟩)]] w (oA (Rc.Jp a xs) w):=by
 have D:=Hq z;have E:=Hq (fun n=>Yz n a g w h);obtain⟨b,s⟩:=ex (Rc.Jp a xs);rw[← s];have B:=Hq s;clear z h s;go_enter Tryz.func306,Tryz.ntmps306;go_wp2_with fail
 go_loop [8] (fun i=>∃ k:Nat,k≤xs.length∧i= .int .i64 k∧∀ j (m:j<xs.length),j<k→0≤xs[j]∧xs[j]≤a) (fun i=>xs.length-(intOf i).toNat)
 case atStart=>exact⟨0,Nat.zero_le _,rfl,fun _ _ h=>absurd h (by omega)⟩
 case round=>
  obtain⟨k,hk,rfl,l⟩:=hrel;have C:=Hq l;clear l
  by_cases p:k<xs.length
  ·obtain⟨I,off,rfl,J,F,d⟩:=D.out.at_ (by omega)
   have t:=d k (.int .i64 xs[k]) (by rw[List.getElem?_map,List.getElem?_eq_getElem p];rfl);clear d;have q:=Hq (show ¬ (0≤xs[k]∧xs[k]≤a)→b=false from fun h=>B.out.trans (Rc.nY p h));have r:=Hq (show(0≤xs[k]∧xs[k]≤a)→∀ j (m:j<xs.length),j<k+1→0≤xs[j]∧xs[j]≤a from fun h j m u=>by
    rcases Nat.lt_or_eq_of_le (Nat.le_of_lt_succ u)with h1|h1
    ·exact C.out j m h1
    ·subst h1;exact h)
   have f:=Hq (E.out xs[k]);generalize xs[k]=x at t q r f
   cases o:decide (0≤x∧x≤a)with
   |true=>
    have v:=Hq (r.out (of_decide_eq_true o));rw[o]at f;clear q r o
    go_wp2_with((go_at_call 302;refine(f.out).mono ?_;rintro e w' ⟨rfl,rfl⟩))
    go_round
    case rel=>exact⟨k+1,by omega,by go_num,v.out⟩
    case measure=>simp[intOf];omega
   |false=>
    have y:=Hq (q.out (of_decide_eq_false o));rw[o]at f;clear q r o
    go_wp2_with((go_at_call 302;refine(f.out).mono ?_;rintro e w' ⟨rfl,rfl⟩))
    go_ret;exact⟨k,rfl,by rw[y.out];simp,rfl⟩
  ·obtain rfl:k=xs.length:=by omega
   have G:=Hq (show b=true from B.out.trans (Rc.nZ fun j m=>C.out j m m));go_wp2_with fail;go_ret;exact⟨-1,rfl,by rw[G.out];rfl,rfl⟩
theorem Ui (a:Int)(xs:List Int)(i:xs.length≤1048576)(A:Option Addr)(c g:Nat)(w:World)(f:Reads w A c xs.length (xs.map (Value.int .i64)))(h:w.cell? ⟨g,0,none⟩=some (.int .i64 a)):
 Cq 301 #[.slice A xs.length c,.func (.func 302) #[] #[.pointer (some ⟨g,0,none⟩)]] w fun e w'=>e= .returned (.bool (!Rc.Jp a xs))∧w=w':=by
 have b:=Hq (cE a xs i A c g w f h);clear f h
 cases d:Rc.Jp a xs with
 |true=>
  rw[d]at b;clear d;go_enter Tryz.func301,Tryz.ntmps301
  go_wp2_with((go_at_call 306;refine(b.out).mono ?_;rintro e w' ⟨k,rfl,hk,rfl⟩;obtain rfl:k= -1:=hk))
  go_ret;exact⟨rfl,rfl⟩
 |false=>
  rw[d]at b;clear d;go_enter Tryz.func301,Tryz.ntmps301
  go_wp2_with((go_at_call 306;refine(b.out).mono ?_;rintro e w' ⟨k,rfl,hk,rfl⟩;have j:0≤k:=by simpa using hk))
  go_ret;exact⟨by simp[*],rfl⟩
theorem Ob (a:Int)(xs:List Int)(g:xs.length≤1048576)(A:Option Addr)(c:Nat)(w:World)(d:Reads w A c xs.length (xs.map (Value.int .i64))):
 Cr 283 #[a,.slice A xs.length c] w (.bool (Rc.Jp a xs)):=by
 have f:=Hq (Ui a xs g A c w.heap.size (w.alloc (.cells #[a] 3)) (d.alloc _) (by rw[Aa (heap_alloc_new w _)];rfl));clear d;generalize Rc.Jp a xs=b at f ⊢;go_enter Tryz.func283,Tryz.ntmps283
 go_wp2_with((go_at_call 301;refine(f.out).mono ?_;rintro e w' ⟨rfl,rfl⟩))
 go_ret;exact⟨by simp,Ac _ _⟩
theorem Sb (xs:List Int)(f:xs.length≤1048576)(A:Option Addr)(c:Nat)(w:World)(a:Reads w A c xs.length (xs.map (Value.int .i64))):
 Cr 246 #[.slice A xs.length c] w (.bool (Rc.Jp 1099511627775 xs)):=by
 have d:=Hq (Ob 1099511627775 xs f A c w a);clear a;generalize Rc.Jp 1099511627775 xs=b at d ⊢;go_enter Tryz.func246,Tryz.ntmps246
 go_wp2_with((go_at_call 283;refine(d.out).mono ?_;rintro e w' ⟨rfl,g⟩))
 go_ret;exact⟨rfl,g⟩
theorem U4 (xs:List Int)(f:xs.length≤1048576)(A:Option Addr)(c:Nat)(w:World)(a:Reads w A c xs.length (xs.map (Value.int .i64))):
 Cr 247 #[.slice A xs.length c] w (.bool (Rc.Jp 8388607 xs)):=by
 have d:=Hq (Ob 8388607 xs f A c w a);clear a;generalize Rc.Jp 8388607 xs=b at d ⊢;go_enter Tryz.func247,Tryz.ntmps247
 go_wp2_with((go_at_call 283;refine(d.out).mono ?_;rintro e w' ⟨rfl,g⟩))
 go_ret;exact⟨rfl,g⟩
theorem oB (xs:List Int)(f:xs.length≤1048576)(A:Option Addr)(c:Nat)(w:World)(a:Reads w A c xs.length (xs.map (Value.int .i64))):
 Cr 284 #[.slice A xs.length c] w (.bool (Rc.Jp 32767 xs)):=by
 have d:=Hq (Ob 32767 xs f A c w a);clear a;generalize Rc.Jp 32767 xs=b at d ⊢;go_enter Tryz.func284,Tryz.ntmps284
 go_wp2_with((go_at_call 283;refine(d.out).mono ?_;rintro e w' ⟨rfl,g⟩))
 go_ret;exact⟨rfl,g⟩
end Go.Proofs.YtmfkhdhnbkambaaGreatDoor
namespace Rc
theorem Sd (m n:Int):Jp m [n]=decide (0≤n∧n≤m):=by simp[Jp]
theorem oC (m a b:Int):Jp m [a,b]=decide ((0≤a∧a≤m)∧(0≤b∧b≤m)):=by simp[Jp,Bool.decide_and]
theorem cF (m a b c:Int):Jp m [a,b,c]=decide ((0≤a∧a≤m)∧(0≤b∧b≤m)∧(0≤c∧c≤m)):=by simp[Jp,Bool.decide_and]
theorem Rf (n:Int):(0≤n∧n≤1099511627775)↔num n:=by unfold num;omega
theorem cG (n:Int):(0≤n∧n≤8388607)↔pg n:=by unfold pg;omega
theorem uX (n:Int):(0≤n∧n≤32767)↔sl n:=by unfold sl;omega
end Rc
namespace Go.Proofs.YtmfkhdhnbkambaaGreatDoor
open Go.RowKit
theorem Fb (w:World)(o1 o2:Obj):((w.alloc o1).alloc o2).heap[w.heap.size+1]? =some o2:=by simpa using heap_alloc_new (w.alloc o1) o2
theorem Ld (a:Int)(w:World)(g:Nat)(b:w.heap[g]? =some (.cells #[a] 3 (0,0))):
 Cr 246 #[.slice (some ⟨g,0,none⟩) 1 1] w (.bool (decide (Rc.num a))):=by
 have h:=Sb [a] (by simp) (some ⟨g,0,none⟩) 1 w (F7 (cs:=[.int .i64 a]) b (Nat.le_refl _));rw[Rc.Sd,decide_eq_decide.2 (Rc.Rf a)]at h;exact h
theorem Oc (a:Int)(w:World)(g:Nat)(b:w.heap[g]? =some (.cells #[a] 3 (0,0))):
 Cr 247 #[.slice (some ⟨g,0,none⟩) 1 1] w (.bool (decide (Rc.pg a))):=by
 have h:=U4 [a] (by simp) (some ⟨g,0,none⟩) 1 w (F7 (cs:=[.int .i64 a]) b (Nat.le_refl _));rw[Rc.Sd,decide_eq_decide.2 (Rc.cG a)]at h;exact h
theorem Nw (a:Int)(w:World)(g:Nat)(b:w.heap[g]? =some (.cells #[a] 3 (0,0))):
 Cr 284 #[.slice (some ⟨g,0,none⟩) 1 1] w (.bool (decide (Rc.sl a))):=by
 have h:=oB [a] (by simp) (some ⟨g,0,none⟩) 1 w (F7 (cs:=[.int .i64 a]) b (Nat.le_refl _));rw[Rc.Sd,decide_eq_decide.2 (Rc.uX a)]at h;exact h
theorem Mh (a b:Int)(w:World)(g:Nat)(c:w.heap[g]? =some (.cells #[a,b] 3 (0,0))):
 Cr 247 #[.slice (some ⟨g,0,none⟩) 2 2] w (.bool (decide (Rc.pg a∧Rc.pg b))):=by
 have h:=U4 [a,b] (by simp) (some ⟨g,0,none⟩) 2 w (F7 (cs:=[.int .i64 a,.int .i64 b]) c (Nat.le_refl _));rw[Rc.oC,decide_eq_decide.2 (and_congr (Rc.cG a) (Rc.cG b))]at h;exact h
theorem Le (a b c:Int)(w:World)(g:Nat)(d:w.heap[g]? =some (.cells #[a,b,c] 3 (0,0))):
 Cr 246 #[.slice (some ⟨g,0,none⟩) 3 3] w (.bool (decide (Rc.num a∧Rc.num b∧Rc.num c))):=by
 have h:=Sb [a,b,c] (by simp) (some ⟨g,0,none⟩) 3 w (F7 (cs:=[.int .i64 a,.int .i64 b,.int .i64 c]) d (Nat.le_refl _));rw[Rc.cF,decide_eq_decide.2 (and_congr (Rc.Rf a) (and_congr (Rc.Rf b) (Rc.Rf c)))]at h;exact h
abbrev oD (o:Rc.Op):Value:=.agg #[o.kind,o.slot,o.By,o.new]
abbrev uY (e:Rc.Key):Value:=.agg #[e.key,e.Ad,e.slot]
abbrev D3 (r:Rc.Rec)(T D:Value):Array Value:=#[r.lsn,r.prev,r.txn,r.kind,r.Ad,r.next,r.num,r.op.kind,r.op.slot,r.op.By,r.op.new,r.how,r.root,r.e.key,r.e.Ad,r.e.slot,T,D]
abbrev D9 (r:Rc.Rec)(T D:Value):Value:=.agg (D3 r T D)
theorem Od (a b:ByteArray):a.toList=b.toList↔a=b:=by
 rw[ByteArray.toList_eq,ByteArray.toList_eq];exact⟨fun h=>ByteArray.ext (Array.toList_inj.1 h),fun h=>by rw[h]⟩
theorem M4 (a b:Rc.Key)(w:World):(Op.equalIn 10000 46 (uY a) (uY b)).run Tryz.prog w= .ok (decide (a=b)) w:=by
 obtain⟨k,c,s1⟩:=a;obtain⟨l,d,s2⟩:=b;have m:Tryz.prog.underlying 46=some (.struct (Tryz.prog.fieldsOf 46)):=by kernel_rfl
 have n:Tryz.prog.stoodInHeld 46=false:=by kernel_rfl
 have f:Tryz.prog.underlying 44=some (.struct (Tryz.prog.fieldsOf 44)):=by kernel_rfl
 have g:Tryz.prog.stoodInHeld 44=false:=by kernel_rfl
 have o:∀ W:World,(Op.equalIn 9999 44 (.agg #[c,s1]) (.agg #[d,s2])).run Tryz.prog W= .ok ((c==d)&&(s1==s2)) W:=fun W=>by
  rw[show(9999:Nat)=9998+1 from rfl,run_equalIn_agg W 9998 44 _ _ f g];simp only[Program.fieldsOf,Y0]
  go_simp
  by_cases i:c=d<;>by_cases j:s1=s2<;>simp[i,j]
 rw[show(10000:Nat)=9999+1 from rfl,run_equalIn_agg w 9999 46 _ _ m n];simp only[Program.fieldsOf,zH]
 go_simp
 have hk:=Od k l
 by_cases e:k=l
 ·rw[if_pos (hk.2 e)]
  by_cases i:c=d<;>by_cases j:s1=s2<;>simp[e,i,j]
 ·rw[if_neg (fun h=>e (hk.1 h))]
  simp[e]
theorem Y1 (a b:Rc.Op)(w:World):(Op.equalIn 10000 42 (oD a) (oD b)).run Tryz.prog w= .ok (decide (a=b)) w:=by
 obtain⟨c,d,s1,t1⟩:=a;obtain⟨e,f,s2,t2⟩:=b;have g:Tryz.prog.underlying 42=some (.struct (Tryz.prog.fieldsOf 42)):=by kernel_rfl
 have h:Tryz.prog.stoodInHeld 42=false:=by kernel_rfl
 rw[show(10000:Nat)=9999+1 from rfl,run_equalIn_agg w 9999 42 _ _ g h];simp only[Program.fieldsOf,oE]
 go_simp
 have i:=Od s1 s2;have j:=Od t1 t2
 by_cases k:c=e<;>by_cases l:d=f<;>by_cases m:s1=s2<;>by_cases n:t1=t2<;>simp[k,l,m,n,i,j]
end Go.Proofs.YtmfkhdhnbkambaaGreatDoor
namespace Rc
instance:DecidableEq Be:=fun a b=>by
 obtain⟨a1,a2,a3,a4⟩:=a;obtain⟨b1,b2,b3,b4⟩:=b
 by_cases h:a1=b1∧a2=b2∧a3=b3∧a4=b4
 ·exact .isTrue (by obtain⟨rfl,rfl,rfl,rfl⟩:=h;rfl)
 ·exact .isFalse (fun e=>by injection e with e1 e2 e3 e4;exact h ⟨e1,e2,e3,e4⟩)
instance:DecidableEq Bx:=fun a b=>by
 obtain⟨a1,a2⟩:=a;obtain⟨b1,b2⟩:=b
 by_cases h:a1=b1∧a2=b2
 ·exact .isTrue (by obtain⟨rfl,rfl⟩:=h;rfl)
 ·exact .isFalse (fun e=>by injection e with e1 e2;exact h ⟨e1,e2⟩)
theorem oF {α:Type}(R:α→Prop)[DecidablePred R]{l:List α}{k:Nat}(hk:k<l.length)(h:¬ R l[k]):decide (∀ x∈l,R x)=false:=decide_eq_false (fun a=>h (a _ (List.getElem_mem hk)))
theorem fM {α:Type}(R:α→Prop)[DecidablePred R]{l:List α}(h:∀ k (hk:k<l.length),R l[k]):decide (∀ x∈l,R x)=true:=decide_eq_true (fun x a=>by
 obtain⟨k,hk,rfl⟩:=List.getElem_of_mem a;exact h k hk)
theorem fN {α:Type}[DecidableEq α]{l m:List α}{k:Nat}(hk:k<l.length)(a:k<m.length)(h:l[k]≠m[k]):decide (l=m)=false:=decide_eq_false (fun e=>h (by subst e;rfl))
theorem Wp {α:Type}[DecidableEq α]{l m:List α}(a:l.length=m.length)(h:∀ k (hk:k<l.length) (hk':k<m.length),l[k]=m[k]):decide (l=m)=true:=decide_eq_true (List.ext_getElem a h)
end Rc
namespace Go.Proofs.YtmfkhdhnbkambaaGreatDoor
open Go.RowKit
def F6 (t:Rc.Be):List Value:=[.int .i64 t.txn,.int .i64 t.last,.int .i64 t.next,.bool t.done]
def zA (t:Rc.Bx):List Value:=[.int .i64 t.Ad,.int .i64 t.from_]
theorem Dr (t:Rc.Be):(F6 t).length=4:=rfl
theorem M5 (t:Rc.Bx):(zA t).length=2:=rfl
abbrev wQ (t:Rc.Be):Value:=.agg #[t.txn,t.last,t.next,t.done]
abbrev yD (t:Rc.Bx):Value:=.agg #[t.Ad,t.from_]
abbrev Xx (w:World)(A:Option Addr)(c:Nat)(l:List Rc.Be):Prop:=Reads w A c l.length (l.flatMap F6)
abbrev rZ (w:World)(A:Option Addr)(c:Nat)(l:List Rc.Bx):Prop:=Reads w A c l.length (l.flatMap zA)
def oG (b:Bool)(w:World)(e:Ending)(w':World):Prop:=∃ k:Int,e= .returned (.int .i64 k)∧(if b then k= -1 else 0≤k)∧Bw w w'
theorem U5 (a b:Rc.Be)(w:World):(Op.equalIn 10000 59 (wQ a) (wQ b)).run Tryz.prog w= .ok (decide (a=b)) w:=by
 obtain⟨c,d,s1,t1⟩:=a;obtain⟨e,f,s2,t2⟩:=b;have g:Tryz.prog.underlying 59=some (.struct (Tryz.prog.fieldsOf 59)):=by kernel_rfl
 have h:Tryz.prog.stoodInHeld 59=false:=by kernel_rfl
 rw[show(10000:Nat)=9999+1 from rfl,run_equalIn_agg w 9999 59 _ _ g h];simp only[Program.fieldsOf,oH]
 go_simp
 by_cases i:c=e<;>by_cases j:d=f<;>by_cases k:s1=s2<;>cases t1<;>cases t2<;>simp[i,j,k]
theorem Qn (a b:Rc.Bx)(w:World):(Op.equalIn 10000 138 (yD a) (yD b)).run Tryz.prog w= .ok (decide (a=b)) w:=by
 obtain⟨c,d⟩:=a;obtain⟨e,f⟩:=b;have g:Tryz.prog.underlying 138=some (.struct (Tryz.prog.fieldsOf 138)):=by kernel_rfl
 have h:Tryz.prog.stoodInHeld 138=false:=by kernel_rfl
 rw[show(10000:Nat)=9999+1 from rfl,run_equalIn_agg w 9999 138 _ _ g h];simp only[Program.fieldsOf,zB]
 go_simp
 by_cases i:c=e<;>by_cases j:d=f<;>simp[i,j]
theorem Y2 (t:Rc.Be)(w:World):
 Cr 251 #[wQ t] w (.bool (!decide (Rc.Ji t))):=by
 obtain⟨a,b,c,d⟩:=t;have f:=Hq (fun W g h=>Le a b c W g h);rw[show decide (Rc.Ji ⟨a,b,c,d⟩)=decide (Rc.num a∧Rc.num b∧Rc.num c)from rfl];generalize decide (Rc.num a∧Rc.num b∧Rc.num c)=q at f ⊢;go_enter Tryz.func251,Tryz.ntmps251
 go_wp2_with((go_at_call 246;(with_reducible refine(f.out _ _ ?_).mono ?_);(with_reducible exact Fb _ _ _);rintro e w' ⟨rfl,i⟩))
 go_ret;exact⟨rfl,Ag (Aj (Ac _ _)) i⟩
theorem Uj (t:Rc.Bx)(w:World):
 Cr 253 #[yD t] w (.bool (!decide (Rc.Fj t))):=by
 obtain⟨a,b⟩:=t;have d:=Hq (fun W g h=>Oc a W g h);have j:=Hq (fun W g h=>Ld b W g h);rw[show decide (Rc.Fj ⟨a,b⟩)=(decide (Rc.pg a)&&decide (Rc.num b))from Bool.decide_and _ _];generalize decide (Rc.pg a)=p at d ⊢;generalize decide (Rc.num b)=q at j ⊢
 cases p with
 |false=>
  go_enter Tryz.func253,Tryz.ntmps253
  go_wp2_with((go_at_call 247;(with_reducible refine(d.out _ _ ?_).mono ?_);(with_reducible exact Fb _ _ _);rintro e w' ⟨rfl,c⟩))
  go_ret;exact⟨rfl,Ag (Aj (Ac _ _)) c⟩
 |true=>
  go_enter Tryz.func253,Tryz.ntmps253
  go_wp2_with(first
   |(go_at_call 247;(with_reducible refine(d.out _ _ ?_).mono ?_);(with_reducible exact Fb _ _ _);rintro e w' ⟨rfl,c⟩;have f:=Aa (Et (heap_alloc_new w _) c) 1;simp at f)
   |(go_at_call 246;(with_reducible refine(j.out _ _ ?_).mono ?_);(with_reducible exact heap_alloc_new _ _);rintro e k ⟨rfl,i⟩))
  go_ret;exact⟨by simp,Ag (Aj (Ag (Aj (Ac _ _)) c)) i⟩
theorem iR (l:List Rc.Be)(O:l.length≤1048576)(A:Option Addr)(c:Nat)(w:World)(z:Xx w A c l):
 Cq 76 #[.slice A l.length c,.func (.func 251) #[] #[]] w (oG (decide (∀ x∈l,Rc.Ji x)) w):=by
 have E:=Hq z;have F:=Hq (fun t W=>Y2 t W);obtain⟨b,s⟩:=ex (decide (∀ x∈l,Rc.Ji x));rw[← s];have B:=Hq s;clear z s;go_enter Tryz.func76,Tryz.ntmps76;go_wp2_with fail
 go_loopw [8] (fun i wr=>∃ k:Nat,k≤l.length∧i= .int .i64 k∧(∀ j (n:j<l.length),j<k→Rc.Ji l[j])∧Bw w wr) (fun i _=>l.length-(intOf i).toNat)
 case atStart=>exact⟨0,Nat.zero_le _,rfl,fun _ _ h=>absurd h (by omega),Below.refl _ _⟩
 case round=>
  obtain⟨k,hk,rfl,g,f⟩:=hrel;have C:=Hq g;clear g
  by_cases p:k<l.length
  ·obtain⟨P,off,rfl,Q,G,a⟩:=Bz Dr (E.out.below f) p
   have D:=a 0 _ rfl;have H:=a 1 _ rfl;have I:=a 2 _ rfl;have J:=a 3 _ rfl;clear a;simp only[Nat.add_zero]at D;have q:=Hq (show ¬ Rc.Ji l[k]→b=false from fun h=>B.out.trans (Rc.oF _ p h));have r:=Hq (show Rc.Ji l[k]→∀ j (n:j<l.length),j<k+1→Rc.Ji l[j]from fun h j n u=>by
    rcases Nat.lt_or_eq_of_le (Nat.le_of_lt_succ u)with h1|h1
    ·exact C.out j n h1
    ·subst h1;exact h)
   have d:=Hq (fun W=>F.out l[k] W);generalize l[k]=x at D H I J q r d
   cases o:decide (Rc.Ji x)with
   |true=>
    have v:=Hq (r.out (of_decide_eq_true o));rw[o]at d;clear q r o;obtain⟨K,L,M,fd⟩:=x
    go_wp2_with((go_at_call 251;(with_reducible refine(d.out _).mono ?_);rintro e w' ⟨rfl,m⟩))
    go_roundw
    case rel=>exact⟨k+1,by omega,by go_num,v.out,Ag f m⟩
    case measure=>simp[intOf];omega
   |false=>
    have y:=Hq (q.out (of_decide_eq_false o));rw[o]at d;clear q r o;obtain⟨K,L,M,fd⟩:=x
    go_wp2_with((go_at_call 251;(with_reducible refine(d.out _).mono ?_);rintro e w' ⟨rfl,m⟩))
    go_ret;exact⟨k,rfl,by rw[y.out];simp,Ag f m⟩
  ·obtain rfl:k=l.length:=by omega
   have N:=Hq (show b=true from B.out.trans (Rc.fM _ fun j n=>C.out j n n));go_wp2_with fail;go_ret;exact⟨-1,rfl,by rw[N.out];rfl,f⟩
theorem Wq (l:List Rc.Be)(g:l.length≤1048576)(A:Option Addr)(c:Nat)(w:World)(f:Xx w A c l):
 Cr 250 #[.slice A l.length c,.func (.func 251) #[] #[]] w (.bool (!decide (∀ x∈l,Rc.Ji x))):=by
 have a:=Hq (iR l g A c w f);clear f;generalize decide (∀ x∈l,Rc.Ji x)=b at a ⊢
 cases b with
 |true=>
  go_enter Tryz.func250,Tryz.ntmps250
  go_wp2_with((go_at_call 76;refine(a.out).mono ?_;rintro e w' ⟨k,rfl,hk,d⟩;obtain rfl:k= -1:=hk))
  go_ret;exact⟨rfl,d⟩
 |false=>
  go_enter Tryz.func250,Tryz.ntmps250
  go_wp2_with((go_at_call 76;refine(a.out).mono ?_;rintro e w' ⟨k,rfl,hk,d⟩;have h:0≤k:=by simpa using hk))
  go_ret;exact⟨by simp[*],d⟩
theorem iS (l m:List Rc.Be)(hn:l.length≤140737488355328)(_hm:m.length≤140737488355328)(A Z:Option Addr)(c c':Nat)(w:World)(hr:Xx w A c l)(z:Xx w Z c' m):
 Cr 286 #[.slice A l.length c,.slice Z m.length c'] w (.bool (decide (l=m))):=by
 have HR:=Hq hr;have H:=Hq z;obtain⟨b,I⟩:=ex (decide (l=m));rw[← I];have J:=Hq I;clear hr z I
 by_cases f:l.length=m.length
 rotate_left
 ·have ad:((l.length:Int)==(m.length:Int))=false:=by simp;omega
  have a1:((l.length:Int) != (m.length:Int))=true:=by simp;omega
  have a6:(l.length==m.length)=false:=by simpa using f
  have a7:(l.length != m.length)=true:=by simpa using f
  have HF:=Hq (J.out.trans (decide_eq_false (fun e=>f (by rw[e]))));go_enter Tryz.func286,Tryz.ntmps286;go_wp2_with fail
  all_goals
   go_ret;exact⟨by rw[HF.out];rfl,Below.refl _ _⟩
 ·have B:=Hq f
  obtain⟨n,p⟩:=ex l.length;rw[← f,← p];rw[← p]at hn;have C:=Hq p;clear f p;go_enter Tryz.func286,Tryz.ntmps286;go_wp2_with fail
  go_loopw [13] (fun i wr=>∃ k:Nat,k≤n∧i= .int .i64 k∧(∀ j (u:j<l.length) (g:j<m.length),j<k→l[j]=m[j])∧Bw w wr) (fun i _=>n-(intOf i).toNat)
  case atStart=>exact⟨0,Nat.zero_le _,rfl,fun _ _ _ h=>absurd h (by omega),Below.refl _ _⟩
  case round=>
   obtain⟨k,hk,rfl,q,o⟩:=hrel;have K:=Hq q;clear q
   by_cases D:k<n
   ·have s:k<l.length:=by rw[← C.out];exact D
    have E:k<m.length:=(by rw[← B.out];exact s);obtain⟨b1,off,rfl,hc,ae,d⟩:=Bz Dr (HR.out.below o) s;obtain⟨b2,a8,rfl,L,aa,a⟩:=Bz Dr (H.out.below o) E;have q0:=d 0 _ rfl;have r0:=a 0 _ rfl;have q1:=d 1 _ rfl;have r1:=a 1 _ rfl;have q2:=d 2 _ rfl;have r2:=a 2 _ rfl;have q3:=d 3 _ rfl;have r3:=a 3 _ rfl;clear d a;simp only[Nat.add_zero]at q0 r0;have F:=Hq (show l[k]≠m[k]→b=false from fun h=>J.out.trans (Rc.fN s E h));have G:=Hq (show l[k]=m[k]→∀ j (u:j<l.length) (g:j<m.length),j<k+1→l[j]=m[j]from fun h j u g M=>by
     rcases Nat.lt_or_eq_of_le (Nat.le_of_lt_succ M)with h1|h1
     ·exact K.out j u g h1
     ·subst h1;exact h)
    have r:=Hq (fun W=>U5 l[k] m[k] W);clear hc L K;generalize l[k]=x at q0 q1 q2 q3 F G r;generalize m[k]=y at r0 r1 r2 r3 F G r;have af:(0:Int)≤(k:Int):=(by omega);have ag:(k:Int)<(n:Int):=(by omega);have N:decide (k<n)=true:=decide_eq_true D
    cases v:decide (x=y)with
    |true=>
     have O:=Hq (G.out (of_decide_eq_true v));have t:=r.out;rw[v]at t;clear F G v r;obtain⟨P,Q,R,S⟩:=x;obtain⟨T,U,V,X⟩:=y
     go_upto_region 6 with(fail)
     go_quiet (fail)
     go_wp2_with fail;go_roundw
     case rel=>exact⟨k+1,by omega,by go_num,O.out,Ag o (Ej _ _)⟩
     case measure=>simp[intOf];omega
    |false=>
     have Y:=Hq (F.out (of_decide_eq_false v));have t:=r.out;rw[v]at t;clear F G v r;obtain⟨P,Q,R,S⟩:=x;obtain⟨T,U,V,X⟩:=y
     go_upto_region 6 with(fail)
     go_quiet (fail)
     go_wp2_with fail;go_ret;exact⟨by rw[Y.out];rfl,Ag o (Ej _ _)⟩
   ·obtain rfl:k=n:=by omega
    have r:=Hq (show b=true from J.out.trans (Rc.Wp B.out fun j u g=>K.out j u g (by rw[C.out];exact u)));have N:decide (k<k)=false:=decide_eq_false (by omega);go_wp2_with fail;go_ret;exact⟨by rw[r.out];rfl,o⟩
theorem Y3 (l:List Rc.Bx)(L:l.length≤1048576)(A:Option Addr)(c:Nat)(w:World)(z:rZ w A c l):
 Cq 285 #[.slice A l.length c,.func (.func 253) #[] #[]] w (oG (decide (∀ x∈l,Rc.Fj x)) w):=by
 have E:=Hq z;have F:=Hq (fun t W=>Uj t W);obtain⟨b,s⟩:=ex (decide (∀ x∈l,Rc.Fj x));rw[← s];have B:=Hq s;clear z s;go_enter Tryz.func285,Tryz.ntmps285;go_wp2_with fail
 go_loopw [8] (fun i wr=>∃ k:Nat,k≤l.length∧i= .int .i64 k∧(∀ j (n:j<l.length),j<k→Rc.Fj l[j])∧Bw w wr) (fun i _=>l.length-(intOf i).toNat)
 case atStart=>exact⟨0,Nat.zero_le _,rfl,fun _ _ h=>absurd h (by omega),Below.refl _ _⟩
 case round=>
  obtain⟨k,hk,rfl,g,f⟩:=hrel;have C:=Hq g;clear g
  by_cases p:k<l.length
  ·obtain⟨M,off,rfl,N,G,a⟩:=Bz M5 (E.out.below f) p
   have D:=a 0 _ rfl;have H:=a 1 _ rfl;clear a;simp only[Nat.add_zero]at D;have q:=Hq (show ¬ Rc.Fj l[k]→b=false from fun h=>B.out.trans (Rc.oF _ p h));have r:=Hq (show Rc.Fj l[k]→∀ j (n:j<l.length),j<k+1→Rc.Fj l[j]from fun h j n u=>by
    rcases Nat.lt_or_eq_of_le (Nat.le_of_lt_succ u)with h1|h1
    ·exact C.out j n h1
    ·subst h1;exact h)
   have d:=Hq (fun W=>F.out l[k] W);generalize l[k]=x at D H q r d
   cases o:decide (Rc.Fj x)with
   |true=>
    have v:=Hq (r.out (of_decide_eq_true o));rw[o]at d;clear q r o;obtain⟨I,J⟩:=x
    go_wp2_with((go_at_call 253;(with_reducible refine(d.out _).mono ?_);rintro e w' ⟨rfl,m⟩))
    go_roundw
    case rel=>exact⟨k+1,by omega,by go_num,v.out,Ag f m⟩
    case measure=>simp[intOf];omega
   |false=>
    have y:=Hq (q.out (of_decide_eq_false o));rw[o]at d;clear q r o;obtain⟨I,J⟩:=x
    go_wp2_with((go_at_call 253;(with_reducible refine(d.out _).mono ?_);rintro e w' ⟨rfl,m⟩))
    go_ret;exact⟨k,rfl,by rw[y.out];simp,Ag f m⟩
  ·obtain rfl:k=l.length:=by omega
   have K:=Hq (show b=true from B.out.trans (Rc.fM _ fun j n=>C.out j n n));go_wp2_with fail;go_ret;exact⟨-1,rfl,by rw[K.out];rfl,f⟩
theorem Se (l:List Rc.Bx)(g:l.length≤1048576)(A:Option Addr)(c:Nat)(w:World)(f:rZ w A c l):
 Cr 252 #[.slice A l.length c,.func (.func 253) #[] #[]] w (.bool (!decide (∀ x∈l,Rc.Fj x))):=by
 have a:=Hq (Y3 l g A c w f);clear f;generalize decide (∀ x∈l,Rc.Fj x)=b at a ⊢
 cases b with
 |true=>
  go_enter Tryz.func252,Tryz.ntmps252
  go_wp2_with((go_at_call 285;refine(a.out).mono ?_;rintro e w' ⟨k,rfl,hk,d⟩;obtain rfl:k= -1:=hk))
  go_ret;exact⟨rfl,d⟩
 |false=>
  go_enter Tryz.func252,Tryz.ntmps252
  go_wp2_with((go_at_call 285;refine(a.out).mono ?_;rintro e w' ⟨k,rfl,hk,d⟩;have h:0≤k:=by simpa using hk))
  go_ret;exact⟨by simp[*],d⟩
theorem Y4 (l m:List Rc.Bx)(hn:l.length≤140737488355328)(_hm:m.length≤140737488355328)(A U:Option Addr)(c V:Nat)(w:World)(X:rZ w A c l)(z:rZ w U V m):
 Cr 287 #[.slice A l.length c,.slice U m.length V] w (.bool (decide (l=m))):=by
 have HR:=Hq X;have H:=Hq z;obtain⟨b,I⟩:=ex (decide (l=m));rw[← I];have J:=Hq I;clear X z I
 by_cases f:l.length=m.length
 rotate_left
 ·have a8:((l.length:Int)==(m.length:Int))=false:=by simp;omega
  have Y:((l.length:Int) != (m.length:Int))=true:=by simp;omega
  have Z:(l.length==m.length)=false:=by simpa using f
  have a1:(l.length != m.length)=true:=by simpa using f
  have HF:=Hq (J.out.trans (decide_eq_false (fun e=>f (by rw[e]))));go_enter Tryz.func287,Tryz.ntmps287;go_wp2_with fail
  all_goals
   go_ret;exact⟨by rw[HF.out];rfl,Below.refl _ _⟩
 ·have B:=Hq f
  obtain⟨n,p⟩:=ex l.length;rw[← f,← p];rw[← p]at hn;have C:=Hq p;clear f p;go_enter Tryz.func287,Tryz.ntmps287;go_wp2_with fail
  go_loopw [13] (fun i wr=>∃ k:Nat,k≤n∧i= .int .i64 k∧(∀ j (u:j<l.length) (g:j<m.length),j<k→l[j]=m[j])∧Bw w wr) (fun i _=>n-(intOf i).toNat)
  case atStart=>exact⟨0,Nat.zero_le _,rfl,fun _ _ _ h=>absurd h (by omega),Below.refl _ _⟩
  case round=>
   obtain⟨k,hk,rfl,q,o⟩:=hrel;have K:=Hq q;clear q
   by_cases D:k<n
   ·have s:k<l.length:=by rw[← C.out];exact D
    have E:k<m.length:=(by rw[← B.out];exact s);obtain⟨b1,off,rfl,hc,aa,d⟩:=Bz M5 (HR.out.below o) s;obtain⟨b2,a6,rfl,L,a7,a⟩:=Bz M5 (H.out.below o) E;have q0:=d 0 _ rfl;have r0:=a 0 _ rfl;have q1:=d 1 _ rfl;have r1:=a 1 _ rfl;clear d a;simp only[Nat.add_zero]at q0 r0;have F:=Hq (show l[k]≠m[k]→b=false from fun h=>J.out.trans (Rc.fN s E h));have G:=Hq (show l[k]=m[k]→∀ j (u:j<l.length) (g:j<m.length),j<k+1→l[j]=m[j]from fun h j u g M=>by
     rcases Nat.lt_or_eq_of_le (Nat.le_of_lt_succ M)with h1|h1
     ·exact K.out j u g h1
     ·subst h1;exact h)
    have r:=Hq (fun W=>Qn l[k] m[k] W);clear hc L K;generalize l[k]=x at q0 q1 F G r;generalize m[k]=y at r0 r1 F G r;have ad:(0:Int)≤(k:Int):=(by omega);have ae:(k:Int)<(n:Int):=(by omega);have N:decide (k<n)=true:=decide_eq_true D
    cases v:decide (x=y)with
    |true=>
     have O:=Hq (G.out (of_decide_eq_true v));have t:=r.out;rw[v]at t;clear F G v r;obtain⟨P,Q⟩:=x;obtain⟨R,S⟩:=y
     go_upto_region 6 with(fail)
     go_quiet (fail)
     go_wp2_with fail;go_roundw
     case rel=>exact⟨k+1,by omega,by go_num,O.out,Ag o (Ej _ _)⟩
     case measure=>simp[intOf];omega
    |false=>
     have T:=Hq (F.out (of_decide_eq_false v));have t:=r.out;rw[v]at t;clear F G v r;obtain⟨P,Q⟩:=x;obtain⟨R,S⟩:=y
     go_upto_region 6 with(fail)
     go_quiet (fail)
     go_wp2_with fail;go_ret;exact⟨by rw[T.out];rfl,Ag o (Ej _ _)⟩
   ·obtain rfl:k=n:=by omega
    have r:=Hq (show b=true from J.out.trans (Rc.Wp B.out fun j u g=>K.out j u g (by rw[C.out];exact u)));have N:decide (k<k)=false:=decide_eq_false (by omega);go_wp2_with fail;go_ret;exact⟨by rw[r.out];rfl,o⟩
theorem iT (l m:List Rc.Be)(hn:l.length≤140737488355328)(_hm:m.length≤140737488355328)(A Y:Option Addr)(c Z:Nat)(w:World)(hr:Xx w A c l)(C:Xx w Y Z m):
 Cr 199 #[.slice A l.length c,.slice Y m.length Z] w (.bool (decide (l=m))):=by
 have HR:=Hq hr;have G:=Hq C;obtain⟨b,H⟩:=ex (decide (l=m));rw[← H];have F:=Hq H;clear hr C H;go_enter Tryz.func199,Tryz.ntmps199;go_wp2_with fail
 go_loopw [5] (fun i wr=>∃ k:Nat,k≤l.length∧k≤m.length∧i= .int .i64 k∧(∀ j (z:j<l.length) (o:j<m.length),j<k→l[j]=m[j])∧Bw w wr) (fun i _=>l.length-(intOf i).toNat)
 case atStart=>exact⟨0,Nat.zero_le _,Nat.zero_le _,rfl,fun _ _ _ h=>absurd h (by omega),Below.refl _ _⟩
 case round=>
  obtain⟨k,hk,a7,rfl,r,g⟩:=hrel;have I:=Hq r;clear r
  by_cases n:k<l.length
  ·have J:decide (k<l.length)=true:=decide_eq_true n
   by_cases p:k<m.length
   ·have K:decide (k<m.length)=true:=decide_eq_true p
    obtain⟨b1,off,rfl,hc,a8,d⟩:=Bz Dr (HR.out.below g) n;obtain⟨b2,a1,rfl,L,a6,a⟩:=Bz Dr (G.out.below g) p;have q0:=d 0 _ rfl;have r0:=a 0 _ rfl;have q1:=d 1 _ rfl;have r1:=a 1 _ rfl;have q2:=d 2 _ rfl;have r2:=a 2 _ rfl;have q3:=d 3 _ rfl;have r3:=a 3 _ rfl;clear d a;simp only[Nat.add_zero]at q0 r0;have D:=Hq (show l[k]≠m[k]→b=false from fun h=>F.out.trans (Rc.fN n p h));have E:=Hq (show l[k]=m[k]→∀ j (z:j<l.length) (o:j<m.length),j<k+1→l[j]=m[j]from fun h j z o M=>by
     rcases Nat.lt_or_eq_of_le (Nat.le_of_lt_succ M)with h1|h1
     ·exact I.out j z o h1
     ·subst h1;exact h)
    have s:=Hq (fun W=>U5 l[k] m[k] W);clear hc L I;generalize l[k]=x at q0 q1 q2 q3 D E s;generalize m[k]=y at r0 r1 r2 r3 D E s;have aa:(0:Int)≤(k:Int):=(by omega);have ad:(k:Int)<(l.length:Int):=(by omega);have ae:(k:Int)<(m.length:Int):=by omega
    cases B:decide (x=y)with
    |true=>
     have N:=Hq (E.out (of_decide_eq_true B));have v:=s.out;rw[B]at v;clear D E B s;obtain⟨O,P,Q,R⟩:=x;obtain⟨S,T,U,V⟩:=y
     go_upto_region 4 with(fail)
     go_quiet (fail)
     go_wp2_with fail;go_roundw
     case rel=>exact⟨k+1,by omega,by omega,by go_num,N.out,Ag g (Ej _ _)⟩
     case measure=>simp[intOf];omega
    |false=>
     have q:=Hq (D.out (of_decide_eq_false B));have v:=s.out;rw[B]at v;clear D E B s;obtain⟨O,P,Q,R⟩:=x;obtain⟨S,T,U,V⟩:=y
     go_upto_region 4 with(fail)
     go_quiet (fail)
     go_wp2_with fail;go_ret;exact⟨by rw[q.out];rfl,Ag g (Ej _ _)⟩
   ·have K:decide (k<m.length)=false:=decide_eq_false p
    have t:(l.length==m.length)=false:=(by simp;omega);have u:((l.length:Int)==(m.length:Int))=false:=(by simp;omega);have q:=Hq (F.out.trans (decide_eq_false (fun e=>by rw[e]at n;exact p n)));go_wp2_with fail;go_ret;exact⟨by rw[q.out];simp;try omega,g⟩
  ·have J:decide (k<l.length)=false:=decide_eq_false n
   obtain rfl:k=l.length:=by omega
   by_cases f:l.length=m.length
   ·have s:=Hq (show b=true from F.out.trans (Rc.Wp f fun j z o=>I.out j z o z))
    have t:(l.length==m.length)=true:=(by simp[f]);have u:((l.length:Int)==(m.length:Int))=true:=(by simp[f]);have X:=Hq f;clear f;go_wp2_with fail;go_ret;exact⟨by rw[s.out];have f:=X.out;simp[f],g⟩
   ·have t:(l.length==m.length)=false:=by simp;omega
    have u:((l.length:Int)==(m.length:Int))=false:=(by simp;omega);have q:=Hq (F.out.trans (decide_eq_false (fun e=>f (by rw[e]))));go_wp2_with fail;go_ret;exact⟨by rw[q.out];simp;try omega,g⟩
theorem Y5 (l m:List Rc.Bx)(hn:l.length≤140737488355328)(_hm:m.length≤140737488355328)(A T:Option Addr)(c U:Nat)(w:World)(V:rZ w A c l)(C:rZ w T U m):
 Cr 200 #[.slice A l.length c,.slice T m.length U] w (.bool (decide (l=m))):=by
 have HR:=Hq V;have G:=Hq C;obtain⟨b,H⟩:=ex (decide (l=m));rw[← H];have F:=Hq H;clear V C H;go_enter Tryz.func200,Tryz.ntmps200;go_wp2_with fail
 go_loopw [5] (fun i wr=>∃ k:Nat,k≤l.length∧k≤m.length∧i= .int .i64 k∧(∀ j (z:j<l.length) (o:j<m.length),j<k→l[j]=m[j])∧Bw w wr) (fun i _=>l.length-(intOf i).toNat)
 case atStart=>exact⟨0,Nat.zero_le _,Nat.zero_le _,rfl,fun _ _ _ h=>absurd h (by omega),Below.refl _ _⟩
 case round=>
  obtain⟨k,hk,a1,rfl,r,f⟩:=hrel;have I:=Hq r;clear r
  by_cases n:k<l.length
  ·have J:decide (k<l.length)=true:=decide_eq_true n
   by_cases p:k<m.length
   ·have K:decide (k<m.length)=true:=decide_eq_true p
    obtain⟨b1,off,rfl,hc,a6,g⟩:=Bz M5 (HR.out.below f) n;obtain⟨b2,X,rfl,L,Y,a⟩:=Bz M5 (G.out.below f) p;have Z:=g 0 _ rfl;have r0:=a 0 _ rfl;have q1:=g 1 _ rfl;have r1:=a 1 _ rfl;clear g a;simp only[Nat.add_zero]at Z r0;have D:=Hq (show l[k]≠m[k]→b=false from fun h=>F.out.trans (Rc.fN n p h));have E:=Hq (show l[k]=m[k]→∀ j (z:j<l.length) (o:j<m.length),j<k+1→l[j]=m[j]from fun h j z o M=>by
     rcases Nat.lt_or_eq_of_le (Nat.le_of_lt_succ M)with h1|h1
     ·exact I.out j z o h1
     ·subst h1;exact h)
    have s:=Hq (fun W=>Qn l[k] m[k] W);clear hc L I;generalize l[k]=x at Z q1 D E s;generalize m[k]=y at r0 r1 D E s;have a7:(0:Int)≤(k:Int):=(by omega);have a8:(k:Int)<(l.length:Int):=(by omega);have aa:(k:Int)<(m.length:Int):=by omega
    cases B:decide (x=y)with
    |true=>
     have N:=Hq (E.out (of_decide_eq_true B));have v:=s.out;rw[B]at v;clear D E B s;obtain⟨O,P⟩:=x;obtain⟨Q,R⟩:=y
     go_upto_region 4 with(fail)
     go_quiet (fail)
     go_wp2_with fail;go_roundw
     case rel=>exact⟨k+1,by omega,by omega,by go_num,N.out,Ag f (Ej _ _)⟩
     case measure=>simp[intOf];omega
    |false=>
     have q:=Hq (D.out (of_decide_eq_false B));have v:=s.out;rw[B]at v;clear D E B s;obtain⟨O,P⟩:=x;obtain⟨Q,R⟩:=y
     go_upto_region 4 with(fail)
     go_quiet (fail)
     go_wp2_with fail;go_ret;exact⟨by rw[q.out];rfl,Ag f (Ej _ _)⟩
   ·have K:decide (k<m.length)=false:=decide_eq_false p
    have t:(l.length==m.length)=false:=(by simp;omega);have u:((l.length:Int)==(m.length:Int))=false:=(by simp;omega);have q:=Hq (F.out.trans (decide_eq_false (fun e=>by rw[e]at n;exact p n)));go_wp2_with fail;go_ret;exact⟨by rw[q.out];simp;try omega,f⟩
  ·have J:decide (k<l.length)=false:=decide_eq_false n
   obtain rfl:k=l.length:=by omega
   by_cases d:l.length=m.length
   ·have s:=Hq (show b=true from F.out.trans (Rc.Wp d fun j z o=>I.out j z o z))
    have t:(l.length==m.length)=true:=(by simp[d]);have u:((l.length:Int)==(m.length:Int))=true:=(by simp[d]);have S:=Hq d;clear d;go_wp2_with fail;go_ret;exact⟨by rw[s.out];have d:=S.out;simp[d],f⟩
   ·have t:(l.length==m.length)=false:=by simp;omega
    have u:((l.length:Int)==(m.length:Int))=false:=(by simp;omega);have q:=Hq (F.out.trans (decide_eq_false (fun e=>d (by rw[e]))));go_wp2_with fail;go_ret;exact⟨by rw[q.out];simp;try omega,f⟩
end Go.Proofs.YtmfkhdhnbkambaaGreatDoor
namespace Rc
instance:DecidableEq Rec:=fun a b=>
 if h:a.lsn=b.lsn∧a.prev=b.prev∧a.txn=b.txn∧a.kind=b.kind∧a.Ad=b.Ad∧a.next=b.next∧a.num=b.num∧a.op=b.op∧a.how=b.how∧a.root=b.root∧a.e=b.e∧a.txns=b.txns∧a.dirty=b.dirty then
  .isTrue (by
   obtain⟨a1,a2,a3,a4,a5,a6,a7,a8,a9,a10,a11,a12,a13⟩:=a;obtain⟨b1,b2,b3,b4,b5,b6,b7,b8,b9,b10,b11,b12,b13⟩:=b;simp only at h;obtain⟨rfl,rfl,rfl,rfl,rfl,rfl,rfl,rfl,rfl,rfl,rfl,rfl,rfl⟩:=h
   rfl)
 else .isFalse (fun e=>h (by subst e;exact⟨rfl,rfl,rfl,rfl,rfl,rfl,rfl,rfl,rfl,rfl,rfl,rfl,rfl⟩))
end Rc
namespace Go.Proofs.YtmfkhdhnbkambaaGreatDoor
open Go.RowKit
theorem Qo (w:World)(o1 a:Obj):((w.alloc o1).alloc a).heap[w.heap.size]? =some o1:=by
 rw[Below.heap_alloc _ _ _ (by simp)];exact heap_alloc_new w o1
structure Ig (w:World) (r:Rc.Rec) (A:Option Addr) (c:Nat) (B:Option Addr) (d:Nat):Prop where
 txns:Xx w A c r.txns
 dirty:rZ w B d r.dirty
 small:r.txns.length≤140737488355328∧r.dirty.length≤140737488355328
theorem Ig.below {w w':World}{r:Rc.Rec}{A:Option Addr}{c:Nat}{B:Option Addr}{d:Nat}(h:Ig w r A c B d)(a:Bw w w'):Ig w' r A c B d:=⟨h.txns.below a,h.dirty.below a,h.small⟩
theorem Ko (r s:Rc.Rec)(A A' B B':Option Addr)(c c' d d':Nat)(w:World)(Q:Ig w r A c B d)(R:Ig w s A' c' B' d'):
 Cr 254 #[D9 r (.slice A r.txns.length c) (.slice B r.dirty.length d),D9 s (.slice A' s.txns.length c') (.slice B' s.dirty.length d')] w (.bool (decide (r=s))):=by
 have HT:=Hq (fun W hb=>iS r.txns s.txns Q.small.1 R.small.1 A A' c c' W (Q.txns.below hb) (R.txns.below hb));have HD:=Hq (fun W hb=>Y4 r.dirty s.dirty Q.small.2 R.small.2 B B' d d' W (Q.dirty.below hb) (R.dirty.below hb));have aq:=Q.small.1;have ar:=R.small.1;have au:=Q.small.2;have av:=R.small.2;have HO:=Hq (fun W=>Y1 r.op s.op W);have HK:=Hq (fun W=>M4 r.e s.e W);clear Q R;obtain⟨S,T,U,V,X,Y,Z,j,a1,a6,k,aw,ax⟩:=r;obtain⟨a7,a8,stx,aa,ad,ae,af,l,ag,ah,m,ay,az⟩:=s;simp only at HT HD HO HK aq ar au av ⊢
 by_cases F:S=a7
 rotate_left
 ·rw[decide_eq_false (fun e=>F (congrArg Rc.Rec.lsn e))]
  have b1:(S==a7)=false:=by simp[F]
  have b2:(S != a7)=true:=by simp[F]
  clear F;obtain⟨u,rs,rx,v⟩:=j;obtain⟨x,y,z,C⟩:=l;obtain⟨a,b,f⟩:=k;obtain⟨g,h,i⟩:=m;go_enter Tryz.func254,Tryz.ntmps254;go_wp2_with fail;go_ret;exact⟨by simp,Aj (Ac _ _)⟩
 subst F
 by_cases G:T=a8
 rotate_left
 ·rw[decide_eq_false (fun e=>G (congrArg Rc.Rec.prev e))]
  have b3:(T==a8)=false:=by simp[G]
  have mpr:(T != a8)=true:=by simp[G]
  clear G;obtain⟨u,rs,rx,v⟩:=j;obtain⟨x,y,z,C⟩:=l;obtain⟨a,b,f⟩:=k;obtain⟨g,h,i⟩:=m;go_enter Tryz.func254,Tryz.ntmps254;go_wp2_with fail;go_ret;exact⟨by simp,Aj (Ac _ _)⟩
 subst G
 by_cases H:U=stx
 rotate_left
 ·rw[decide_eq_false (fun e=>H (congrArg Rc.Rec.txn e))]
  have b4:(U==stx)=false:=by simp[H]
  have b5:(U != stx)=true:=by simp[H]
  clear H;obtain⟨u,rs,rx,v⟩:=j;obtain⟨x,y,z,C⟩:=l;obtain⟨a,b,f⟩:=k;obtain⟨g,h,i⟩:=m;go_enter Tryz.func254,Tryz.ntmps254;go_wp2_with fail;go_ret;exact⟨by simp,Aj (Ac _ _)⟩
 subst H
 by_cases I:V=aa
 rotate_left
 ·rw[decide_eq_false (fun e=>I (congrArg Rc.Rec.kind e))]
  have b6:(V==aa)=false:=by simp[I]
  have b7:(V != aa)=true:=by simp[I]
  clear I;obtain⟨u,rs,rx,v⟩:=j;obtain⟨x,y,z,C⟩:=l;obtain⟨a,b,f⟩:=k;obtain⟨g,h,i⟩:=m;go_enter Tryz.func254,Tryz.ntmps254;go_wp2_with fail;go_ret;exact⟨by simp,Aj (Ac _ _)⟩
 subst I
 by_cases J:X=ad
 rotate_left
 ·rw[decide_eq_false (fun e=>J (congrArg Rc.Rec.Ad e))]
  have b8:(X==ad)=false:=by simp[J]
  have b9:(X != ad)=true:=by simp[J]
  clear J;obtain⟨u,rs,rx,v⟩:=j;obtain⟨x,y,z,C⟩:=l;obtain⟨a,b,f⟩:=k;obtain⟨g,h,i⟩:=m;go_enter Tryz.func254,Tryz.ntmps254;go_wp2_with fail;go_ret;exact⟨by simp,Aj (Ac _ _)⟩
 subst J
 by_cases K:Y=ae
 rotate_left
 ·rw[decide_eq_false (fun e=>K (congrArg Rc.Rec.next e))]
  have ba:(Y==ae)=false:=by simp[K]
  have bb:(Y != ae)=true:=by simp[K]
  clear K;obtain⟨u,rs,rx,v⟩:=j;obtain⟨x,y,z,C⟩:=l;obtain⟨a,b,f⟩:=k;obtain⟨g,h,i⟩:=m;go_enter Tryz.func254,Tryz.ntmps254;go_wp2_with fail;go_ret;exact⟨by simp,Aj (Ac _ _)⟩
 subst K
 by_cases L:Z=af
 rotate_left
 ·rw[decide_eq_false (fun e=>L (congrArg Rc.Rec.num e))]
  have bc:(Z==af)=false:=by simp[L]
  have bd:(Z != af)=true:=by simp[L]
  clear L;obtain⟨u,rs,rx,v⟩:=j;obtain⟨x,y,z,C⟩:=l;obtain⟨a,b,f⟩:=k;obtain⟨g,h,i⟩:=m;go_enter Tryz.func254,Tryz.ntmps254;go_wp2_with fail;go_ret;exact⟨by simp,Aj (Ac _ _)⟩
 subst L
 cases D:decide (j=l)with
 |false=>
  rw[decide_eq_false (fun e=>of_decide_eq_false D (congrArg Rc.Rec.op e))];have ai:=HO.out;rw[D]at ai;clear D;obtain⟨u,rs,rx,v⟩:=j;obtain⟨x,y,z,C⟩:=l;obtain⟨a,b,f⟩:=k;obtain⟨g,h,i⟩:=m;go_enter Tryz.func254,Tryz.ntmps254;go_wp2_with fail;go_ret;exact⟨by simp,Aj (Ac _ _)⟩
 |true=>
 have ai:=HO.out;rw[D]at ai;have al:=Hq (of_decide_eq_true D);clear D HO
 by_cases M:a1=ag
 rotate_left
 ·rw[decide_eq_false (fun e=>M (congrArg Rc.Rec.how e))]
  have bf:(a1==ag)=false:=by simp[M]
  have bg:(a1 != ag)=true:=by simp[M]
  clear M;obtain⟨u,rs,rx,v⟩:=j;obtain⟨x,y,z,C⟩:=l;obtain⟨a,b,f⟩:=k;obtain⟨g,h,i⟩:=m;go_enter Tryz.func254,Tryz.ntmps254;go_wp2_with fail;go_ret;exact⟨by simp,Aj (Ac _ _)⟩
 subst M
 by_cases N:a6=ah
 rotate_left
 ·rw[decide_eq_false (fun e=>N (congrArg Rc.Rec.root e))]
  have bh:(a6==ah)=false:=by simp[N]
  have bj:(a6 != ah)=true:=by simp[N]
  clear N;obtain⟨u,rs,rx,v⟩:=j;obtain⟨x,y,z,C⟩:=l;obtain⟨a,b,f⟩:=k;obtain⟨g,h,i⟩:=m;go_enter Tryz.func254,Tryz.ntmps254;go_wp2_with fail;go_ret;exact⟨by simp,Aj (Ac _ _)⟩
 subst N
 cases E:decide (k=m)with
 |false=>
  rw[decide_eq_false (fun e=>of_decide_eq_false E (congrArg Rc.Rec.e e))];have aj:=HK.out;rw[E]at aj;clear E;obtain⟨u,rs,rx,v⟩:=j;obtain⟨x,y,z,C⟩:=l;obtain⟨a,b,f⟩:=k;obtain⟨g,h,i⟩:=m;go_enter Tryz.func254,Tryz.ntmps254;go_wp2_with fail;go_ret;exact⟨by simp,Aj (Ac _ _)⟩
 |true=>
 have aj:=HK.out;rw[E]at aj;have an:=Hq (of_decide_eq_true E);clear E HK
 cases o:decide (aw=ay)with
 |false=>
  have O:=Hq o;rw[decide_eq_false (fun e=>of_decide_eq_false o (congrArg Rc.Rec.txns e))];clear o;obtain⟨u,rs,rx,v⟩:=j;obtain⟨x,y,z,C⟩:=l;obtain⟨a,b,f⟩:=k;obtain⟨g,h,i⟩:=m;go_enter Tryz.func254,Tryz.ntmps254
  go_wp2_with(first|(go_at_call 286;(with_reducible refine(HT.out _ ?_).mono ?_);(exact Aj (Ac _ _));rintro e w2 ⟨rfl,n⟩;have q:=Af (Qo _ _ _) n;have t:=Af (Fb _ _ _) n;have q1:=Aa q 17;have q2:=Aa t 17;clear q t;simp at q1 q2;rw[O.out]))
  go_ret;exact⟨by simp,Ag (Aj (Ac _ _)) n⟩
 |true=>
 have ao:=Hq o;have O:=Hq (of_decide_eq_true o);clear o
 cases p:decide (ax=az)with
 |false=>
  have P:=Hq p;rw[decide_eq_false (fun e=>of_decide_eq_false p (congrArg Rc.Rec.dirty e))];clear p;obtain⟨u,rs,rx,v⟩:=j;obtain⟨x,y,z,C⟩:=l;obtain⟨a,b,f⟩:=k;obtain⟨g,h,i⟩:=m;go_enter Tryz.func254,Tryz.ntmps254
  go_wp2_with(first|(go_at_call 286;(with_reducible refine(HT.out _ ?_).mono ?_);(exact Aj (Ac _ _));rintro e w2 ⟨rfl,n⟩;have q:=Af (Qo _ _ _) n;have t:=Af (Fb _ _ _) n;have q1:=Aa q 17;have q2:=Aa t 17;clear q t;simp at q1 q2;rw[ao.out])|(go_at_call 287;(with_reducible refine(HD.out _ ?_).mono ?_);(exact Ag (Aj (Ac _ _)) n);rintro e w3 ⟨rfl,ak⟩;rw[P.out]))
  go_ret;exact⟨by simp,Ag (Ag (Aj (Ac _ _)) n) ak⟩
 |true=>
 have b0:=Hq p;have P:=Hq (of_decide_eq_true p);clear p;rw[decide_eq_true (by rw[al.out,an.out,O.out,P.out])];clear al an O P;obtain⟨u,rs,rx,v⟩:=j;obtain⟨x,y,z,C⟩:=l;obtain⟨a,b,f⟩:=k;obtain⟨g,h,i⟩:=m;go_enter Tryz.func254,Tryz.ntmps254
 go_wp2_with(first|(go_at_call 286;(with_reducible refine(HT.out _ ?_).mono ?_);(exact Aj (Ac _ _));rintro e w2 ⟨rfl,n⟩;have q:=Af (Qo _ _ _) n;have t:=Af (Fb _ _ _) n;have q1:=Aa q 17;have q2:=Aa t 17;clear q t;simp at q1 q2;rw[ao.out])|(go_at_call 287;(with_reducible refine(HD.out _ ?_).mono ?_);(exact Ag (Aj (Ac _ _)) n);rintro e w3 ⟨rfl,ak⟩;rw[b0.out]))
 go_ret;exact⟨by simp,Ag (Ag (Aj (Ac _ _)) n) ak⟩
end Go.Proofs.YtmfkhdhnbkambaaGreatDoor
