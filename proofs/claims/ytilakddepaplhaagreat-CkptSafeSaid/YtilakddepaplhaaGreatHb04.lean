import Derived.Test.YtilakddepaplhaaGreatHb00
import Derived.Test.YtilakddepaplhaaGreatHb01
set_option maxRecDepth 100000
set_option maxHeartbeats 16000000
set_option linter.unusedSimpArgs false
namespace Rc
structure Op where
 kind:Int
 slot:Int
 old:ByteArray
 new:ByteArray
structure TxnAt where
 txn:Int
 last:Int
 next:Int
 done:Bool
structure DirtyAt where
 page:Int
 from_:Int
structure Key where
 key:ByteArray
 page:Int
 slot:Int
structure Rec where
 lsn:Int
 prev:Int
 txn:Int
 kind:Int
 page:Int
 next:Int
 num:Int
 op:Op
 how:Int
 root:Int
 e:Key
 txns:List TxnAt
 dirty:List DirtyAt
def noOp:Op:=⟨0,0,⟨#[]⟩,⟨#[]⟩⟩
def noKey:Key:=⟨⟨#[]⟩,0,0⟩
def bare (kind lsn prev txn:Int):Rec:=⟨lsn,prev,txn,kind,0,0,0,noOp,0,0,noKey,[],[]⟩
def num (n:Int):Prop:=0≤n∧n<1099511627776
def pg (n:Int):Prop:=0≤n∧n<8388608
def sl (n:Int):Prop:=0≤n∧n<32768
def opR (o:Op):Prop:=1≤o.kind∧o.kind≤7∧sl o.slot∧o.old.size≤512∧o.new.size≤512
def treeR (r:Rec):Prop:=(r.how=1∧r.root=0∧r.e=noKey)∨((r.how=2∨r.how=3)∧pg r.root∧pg r.e.page∧sl r.e.slot∧r.e.key.size≤100)
def txnR (t:TxnAt):Prop:=num t.txn∧num t.last∧num t.next
def dirtyR (d:DirtyAt):Prop:=pg d.page∧num d.from_
def listsR (r:Rec):Prop:=r.txns.length≤1000∧r.dirty.length≤2000∧(∀ t∈r.txns,txnR t)∧∀ d∈r.dirty,dirtyR d
inductive Right:Rec→Prop
 |small (kind lsn prev txn:Int) (hk:kind=1∨kind=5∨kind=6∨kind=7) (h1:num lsn) (h2:num prev) (h3:num txn):Right (bare kind lsn prev txn)
 |change (lsn prev txn page:Int) (op:Op) (how root:Int) (e:Key) (h1:num lsn) (h2:num prev) (h3:num txn) (h4:pg page) (h5:opR op)
   (h6:treeR ⟨lsn,prev,txn,2,page,0,0,op,how,root,e,[],[]⟩):Right ⟨lsn,prev,txn,2,page,0,0,op,how,root,e,[],[]⟩
 |clr (lsn prev txn page:Int) (op:Op) (next:Int) (h1:num lsn) (h2:num prev) (h3:num txn) (h4:pg page) (h5:opR op) (h6:num next):Right ⟨lsn,prev,txn,3,page,next,0,op,0,0,noKey,[],[]⟩
 |nest (lsn prev txn next:Int) (h1:num lsn) (h2:num prev) (h3:num txn) (h6:num next):Right ⟨lsn,prev,txn,4,0,next,0,noOp,0,0,noKey,[],[]⟩
 |image (lsn prev txn page:Int) (op:Op) (h1:num lsn) (h2:num prev) (h3:num txn) (h4:pg page) (h5:opR op):Right ⟨lsn,prev,txn,8,page,0,0,op,0,0,noKey,[],[]⟩
 |check (lsn prev txn n:Int) (ts:List TxnAt) (ds:List DirtyAt) (h1:num lsn) (h2:num prev) (h3:num txn) (h4:num n)
   (h5:listsR ⟨lsn,prev,txn,9,0,0,n,noOp,0,0,noKey,ts,ds⟩):Right ⟨lsn,prev,txn,9,0,0,n,noOp,0,0,noKey,ts,ds⟩
def p (n:Int)(k:Nat):List UInt8:=Oct.putL (Oct.word n) k
def t (s:ByteArray):List UInt8:=p s.size 2++s.data.toList
def opB (o:Op):List UInt8:=p o.kind 1++(p o.slot 2++(t o.old++t o.new))
def txnB (x:TxnAt):List UInt8:=p x.txn 6++(p x.last 6++(p x.next 6++p (if x.done then 1 else 0) 1))
def dirtyB (d:DirtyAt):List UInt8:=p d.page 3++p d.from_ 6
def headB (r:Rec):List UInt8:=p r.kind 1++(p r.lsn 6++(p r.prev 6++p r.txn 6))
def treeB (r:Rec):List UInt8:=if r.how=1 then[]else p r.root 3++(p r.e.page 3++(p r.e.slot 2++t r.e.key))
def listsB (r:Rec):List UInt8:=p r.num 6++(p r.txns.length 2++(r.txns.flatMap txnB++(p r.dirty.length 2++r.dirty.flatMap dirtyB)))
def restB (r:Rec):List UInt8:=
 if r.kind=2 then p r.page 3++(opB r.op++(p r.how 1++treeB r))
 else if r.kind=3 then p r.page 3++(opB r.op++p r.next 6)
 else if r.kind=4 then p r.next 6
 else if r.kind=8 then p r.page 3++opB r.op
 else if r.kind=9 then listsB r
 else[]
theorem restB_2 {r:Rec}(h:r.kind=2):restB r=p r.page 3++(opB r.op++(p r.how 1++treeB r)):=if_pos h
theorem restB_3 {r:Rec}(h:r.kind=3):restB r=p r.page 3++(opB r.op++p r.next 6):=by unfold restB;rw[if_neg (by omega),if_pos h]
theorem restB_4 {r:Rec}(h:r.kind=4):restB r=p r.next 6:=by unfold restB;rw[if_neg (by omega),if_neg (by omega),if_pos h]
theorem restB_8 {r:Rec}(h:r.kind=8):restB r=p r.page 3++opB r.op:=by unfold restB;rw[if_neg (by omega),if_neg (by omega),if_neg (by omega),if_pos h]
theorem restB_9 {r:Rec}(h:r.kind=9):restB r=listsB r:=by unfold restB;rw[if_neg (by omega),if_neg (by omega),if_neg (by omega),if_neg (by omega),if_pos h]
def bodyB (r:Rec):List UInt8:=headB r++restB r
structure St where
 at_:Nat
 bad:Bool
def numM (adv:Bool)(s:List UInt8)(a:St)(k:Nat):Int×St:=
 if a.at_+k≤s.length then((Oct.getN s a.at_ k:Nat),⟨a.at_+k,a.bad⟩)else(0,⟨if adv then a.at_+k else a.at_,true⟩)
def textM (s:List UInt8)(a:St):ByteArray×St:=
 if a.at_+2+Oct.getN s a.at_ 2≤s.length then(⟨((s.drop (a.at_+2)).take (Oct.getN s a.at_ 2)).toArray⟩,⟨a.at_+2+Oct.getN s a.at_ 2,a.bad⟩)else(⟨#[]⟩,⟨a.at_,true⟩)
def opM (adv:Bool)(s:List UInt8)(a:St):Op×St:=
 let x:=numM adv s a 1
 let y:=numM adv s x.2 2
 let u:=textM s y.2
 let v:=textM s u.2
 (⟨x.1,y.1,u.1,v.1⟩,v.2)
def txnM (adv:Bool)(s:List UInt8)(a:St):TxnAt×St:=
 let x:=numM adv s a 6
 let y:=numM adv s x.2 6
 let z:=numM adv s y.2 6
 let d:=numM adv s z.2 1
 (⟨x.1,y.1,z.1,d.1==1⟩,d.2)
def dirtyM (adv:Bool)(s:List UInt8)(a:St):DirtyAt×St:=
 let x:=numM adv s a 3
 let y:=numM adv s x.2 6
 (⟨x.1,y.1⟩,y.2)
def manyM {α:Type}(one:St→α×St):Nat→St→List α×St
 |0,a=>([],a)
 |n+1,a=>if a.bad then([],a)else
  let x:=one a
  let l:=manyM one n x.2
  (x.1::l.1,l.2)
def headM (adv:Bool)(s:List UInt8):Rec×St:=
 let k:=numM adv s ⟨0,false⟩ 1
 let l:=numM adv s k.2 6
 let pr:=numM adv s l.2 6
 let tx:=numM adv s pr.2 6
 (bare k.1 l.1 pr.1 tx.1,tx.2)
def treeM (adv:Bool)(s:List UInt8)(r:Rec)(a:St):Rec:=
 let h:=numM adv s a 1
 if h.1=1 then{r with how:=h.1}else
  let ro:=numM adv s h.2 3
  let pa:=numM adv s ro.2 3
  let so:=numM adv s pa.2 2
  let ke:=textM s so.2
  {r with how:=h.1,root:=ro.1,e:=⟨ke.1,pa.1,so.1⟩}
def listsM (adv:Bool)(s:List UInt8)(r:Rec)(a:St):Rec:=
 let n:=numM adv s a 6
 let c:=numM adv s n.2 2
 let ts:=manyM (txnM adv s) c.1.toNat c.2
 let d:=numM adv s ts.2 2
 let ds:=manyM (dirtyM adv s) d.1.toNat d.2
 {r with num:=n.1,txns:=ts.1,dirty:=ds.1}
def restM (adv:Bool)(s:List UInt8)(r:Rec)(a:St):Rec:=
 if r.kind=2 then
  let pa:=numM adv s a 3
  let o:=opM adv s pa.2
  treeM adv s {r with page:=pa.1,op:=o.1} o.2
 else if r.kind=3 then
  let pa:=numM adv s a 3
  let o:=opM adv s pa.2
  let n:=numM adv s o.2 6
  {r with page:=pa.1,op:=o.1,next:=n.1}
 else if r.kind=4 then
  let n:=numM adv s a 6
  {r with next:=n.1}
 else if r.kind=8 then
  let pa:=numM adv s a 3
  let o:=opM adv s pa.2
  {r with page:=pa.1,op:=o.1}
 else if r.kind=9 then listsM adv s r a
 else r
theorem restM_2 {adv:Bool}{s:List UInt8}{r:Rec}{a:St}(h:r.kind=2):restM adv s r a=treeM adv s {r with page:=(numM adv s a 3).1,op:=(opM adv s (numM adv s a 3).2).1} (opM adv s (numM adv s a 3).2).2:=if_pos h
theorem restM_3 {adv:Bool}{s:List UInt8}{r:Rec}{a:St}(h:r.kind=3):restM adv s r a={r with page:=(numM adv s a 3).1,op:=(opM adv s (numM adv s a 3).2).1,next:=(numM adv s (opM adv s (numM adv s a 3).2).2 6).1}:=by unfold restM;rw[if_neg (by omega),if_pos h]
theorem restM_4 {adv:Bool}{s:List UInt8}{r:Rec}{a:St}(h:r.kind=4):restM adv s r a={r with next:=(numM adv s a 6).1}:=by unfold restM;rw[if_neg (by omega),if_neg (by omega),if_pos h]
theorem restM_8 {adv:Bool}{s:List UInt8}{r:Rec}{a:St}(h:r.kind=8):restM adv s r a={r with page:=(numM adv s a 3).1,op:=(opM adv s (numM adv s a 3).2).1}:=by unfold restM;rw[if_neg (by omega),if_neg (by omega),if_neg (by omega),if_pos h]
theorem restM_9 {adv:Bool}{s:List UInt8}{r:Rec}{a:St}(h:r.kind=9):restM adv s r a=listsM adv s r a:=by unfold restM;rw[if_neg (by omega),if_neg (by omega),if_neg (by omega),if_neg (by omega),if_pos h]
def readM (adv:Bool)(s:List UInt8):Rec:=restM adv s (headM adv s).1 (headM adv s).2
def Left (s:List UInt8)(a:St)(l:List UInt8):Prop:=a.bad=false∧s.drop a.at_=l∧a.at_≤s.length
theorem p_length (n:Int)(k:Nat):(p n k).length=k:=Oct.putL_length _ _
theorem left_len {s:List UInt8}{a:St}{l:List UInt8}(h:Left s a l):s.length=a.at_+l.length:=by
 obtain⟨_,h2,h3⟩:=h
 have:=congrArg List.length h2
 rw[List.length_drop]at this
 omega
theorem Left.skip {s:List UInt8}{a:St}{x l:List UInt8}(h:Left s a (x++l)):Left s ⟨a.at_+x.length,false⟩ l:=by
 have hl:=left_len h
 obtain⟨_,h2,h3⟩:=h
 rw[List.length_append]at hl
 refine⟨rfl,?_,by show a.at_+x.length≤s.length;omega⟩
 show s.drop (a.at_+x.length)=l
 rw[← List.drop_drop,h2,List.drop_left]
theorem getN_left {s:List UInt8}{a:St}{l:List UInt8}{u k:Nat}(h:Left s a (Oct.putL u k++l))(hu:u<256^k):Oct.getN s a.at_ k=u:=by
 unfold Oct.getN
 rw[h.2.1,List.take_append_of_le_length (by rw[Oct.putL_length];omega),List.take_of_length_le (by rw[Oct.putL_length];omega),Oct.getL_putL,Nat.mod_eq_of_lt hu]
theorem word_of {n:Int}(h0:0≤n)(h:n<18446744073709551616):((Oct.word n:Nat):Int)=n:=by unfold Oct.word;omega
theorem numM_left {adv:Bool}{s:List UInt8}{a:St}{n:Int}{k:Nat}{l:List UInt8}(h:Left s a (p n k++l))(h0:0≤n)(hn:n<((256^k:Nat):Int))(hk:k≤8):
 numM adv s a k=(n,⟨a.at_+k,false⟩)∧Left s ⟨a.at_+k,false⟩ l:=by
 have hp:(256:Nat)^k≤18446744073709551616:=Nat.pow_le_pow_right (n:=256) (by omega) hk
 generalize hq:(256:Nat)^k=q at hn hp
 have hn8:n<18446744073709551616:=by omega
 have hw:=word_of h0 hn8
 have hu:Oct.word n<256^k:=by omega
 have hl:=left_len h
 have hs:=h.skip
 rw[p_length]at hs
 rw[List.length_append,p_length]at hl
 refine⟨?_,hs⟩
 unfold numM
 rw[if_pos (by omega),getN_left h hu,hw,h.1]
theorem textM_left {s:List UInt8}{a:St}{x:ByteArray}{l:List UInt8}(h:Left s a (t x++l))(hx:x.size<65536):
 textM s a=(x,⟨a.at_+(2+x.size),false⟩)∧Left s ⟨a.at_+(2+x.size),false⟩ l:=by
 have hlx:x.data.toList.length=x.size:=by simp
 have hw:Oct.word (x.size:Int)=x.size:=Oct.word_nat _ (by omega)
 have hs:=h.skip
 have htl:(t x).length=2+x.size:=by unfold t;rw[List.length_append,p_length,hlx]
 rw[htl]at hs
 have hl:=left_len h
 rw[List.length_append,htl]at hl
 have h':Left s a (Oct.putL x.size 2++(x.data.toList++l)):=by
  unfold t p at h;rw[hw,List.append_assoc]at h;exact h
 have hg:=getN_left h' (by omega)
 have hd:=h'.skip
 rw[Oct.putL_length]at hd
 refine⟨?_,hs⟩
 unfold textM
 rw[hg,if_pos (by omega),h.1]
 have hdd:s.drop (a.at_+2)=x.data.toList++l:=hd.2.1
 rw[hdd,List.take_append_of_le_length (by omega),List.take_of_length_le (by omega),Nat.add_assoc]
theorem numM_6 {adv:Bool}{s:List UInt8}{a:St}{n:Int}{l:List UInt8}(h:Left s a (p n 6++l))(hn:num n):numM adv s a 6=(n,⟨a.at_+6,false⟩)∧Left s ⟨a.at_+6,false⟩ l:=
 numM_left h hn.1 (by have:=hn.2;show n<281474976710656;omega) (by omega)
theorem numM_3 {adv:Bool}{s:List UInt8}{a:St}{n:Int}{l:List UInt8}(h:Left s a (p n 3++l))(hn:pg n):numM adv s a 3=(n,⟨a.at_+3,false⟩)∧Left s ⟨a.at_+3,false⟩ l:=
 numM_left h hn.1 (by have:=hn.2;show n<16777216;omega) (by omega)
theorem numM_2 {adv:Bool}{s:List UInt8}{a:St}{n:Int}{l:List UInt8}(h:Left s a (p n 2++l))(h0:0≤n)(hn:n<65536):numM adv s a 2=(n,⟨a.at_+2,false⟩)∧Left s ⟨a.at_+2,false⟩ l:=
 numM_left h h0 (by show n<65536;omega) (by omega)
theorem numM_1 {adv:Bool}{s:List UInt8}{a:St}{n:Int}{l:List UInt8}(h:Left s a (p n 1++l))(h0:0≤n)(hn:n<256):numM adv s a 1=(n,⟨a.at_+1,false⟩)∧Left s ⟨a.at_+1,false⟩ l:=
 numM_left h h0 (by show n<256;omega) (by omega)
theorem opM_left {adv:Bool}{s:List UInt8}{a:St}{o:Op}{l:List UInt8}(h:Left s a (opB o++l))(ho:opR o):∃ b,opM adv s a=(o,b)∧Left s b l:=by
 obtain⟨h1,h2,h3,h4,h5⟩:=ho
 unfold opB at h
 simp only[List.append_assoc]at h
 obtain⟨e1,l1⟩:=numM_1 (adv:=adv) h (by omega) (by omega)
 obtain⟨e2,l2⟩:=numM_2 (adv:=adv) l1 h3.1 (by have:=h3.2;omega)
 obtain⟨e3,l3⟩:=textM_left l2 (by omega)
 obtain⟨e4,l4⟩:=textM_left l3 (by omega)
 refine⟨_,?_,l4⟩
 unfold opM
 simp only[e1,e2,e3,e4]
theorem txnM_left {adv:Bool}{s:List UInt8}{a:St}{x:TxnAt}{l:List UInt8}(h:Left s a (txnB x++l))(hx:txnR x):∃ b,txnM adv s a=(x,b)∧Left s b l:=by
 obtain⟨h1,h2,h3⟩:=hx
 obtain⟨xt,xl,xn,xd⟩:=x
 unfold txnB at h
 simp only[List.append_assoc]at h
 obtain⟨e1,l1⟩:=numM_6 (adv:=adv) h h1
 obtain⟨e2,l2⟩:=numM_6 (adv:=adv) l1 h2
 obtain⟨e3,l3⟩:=numM_6 (adv:=adv) l2 h3
 obtain⟨e4,l4⟩:=numM_1 (adv:=adv) l3 (by split<;>omega) (by split<;>omega)
 refine⟨_,?_,l4⟩
 unfold txnM
 simp only[e1,e2,e3,e4]
 cases xd<;>rfl
theorem dirtyM_left {adv:Bool}{s:List UInt8}{a:St}{x:DirtyAt}{l:List UInt8}(h:Left s a (dirtyB x++l))(hx:dirtyR x):∃ b,dirtyM adv s a=(x,b)∧Left s b l:=by
 obtain⟨h1,h2⟩:=hx
 unfold dirtyB at h
 simp only[List.append_assoc]at h
 obtain⟨e1,l1⟩:=numM_3 (adv:=adv) h h1
 obtain⟨e2,l2⟩:=numM_6 (adv:=adv) l1 h2
 refine⟨_,?_,l2⟩
 unfold dirtyM
 simp only[e1,e2]
theorem manyM_left {α:Type}{one:St→α×St}{enc:α→List UInt8}{R:α→Prop}{s:List UInt8}(h1:∀ a x l,Left s a (enc x++l)→R x→∃ b,one a=(x,b)∧Left s b l):
 ∀ (xs:List α) (a:St) (l:List UInt8),Left s a (xs.flatMap enc++l)→(∀ x∈xs,R x)→∃ b,manyM one xs.length a=(xs,b)∧Left s b l:=by
 intro xs
 induction xs with
 |nil=>intro a l h _;exact⟨a,rfl,h⟩
 |cons x xs ih=>
  intro a l h hR
  rw[List.flatMap_cons,List.append_assoc]at h
  obtain⟨b,e,hb⟩:=h1 a x _ h (hR x (List.mem_cons_self ..))
  obtain⟨c,e2,hc⟩:=ih b l hb (fun y hy=>hR y (List.mem_cons_of_mem _ hy))
  refine⟨c,?_,hc⟩
  show manyM one (xs.length+1) a=_
  unfold manyM
  rw[h.1]
  simp only[e,e2]
  rfl
theorem headM_left {adv:Bool}{r:Rec}{s l:List UInt8}(h:s=headB r++l)(hk0:0≤r.kind)(hk:r.kind<256)(h1:num r.lsn)(h2:num r.prev)(h3:num r.txn):
 ∃ b,headM adv s=(bare r.kind r.lsn r.prev r.txn,b)∧Left s b l:=by
 have h0:Left s ⟨0,false⟩ (headB r++l):=⟨rfl,h,Nat.zero_le _⟩
 unfold headB at h0
 simp only[List.append_assoc]at h0
 obtain⟨e1,l1⟩:=numM_1 (adv:=adv) h0 hk0 hk
 obtain⟨e2,l2⟩:=numM_6 (adv:=adv) l1 h1
 obtain⟨e3,l3⟩:=numM_6 (adv:=adv) l2 h2
 obtain⟨e4,l4⟩:=numM_6 (adv:=adv) l3 h3
 refine⟨_,?_,l4⟩
 unfold headM
 simp only[e1,e2,e3,e4]
theorem treeM_left {adv:Bool}{r r0:Rec}{s tl:List UInt8}{a:St}(h:Left s a (p r.how 1++(treeB r++tl)))(hr:treeR r):
 treeM adv s r0 a={r0 with how:=r.how,root:=if r.how=1 then r0.root else r.root,e:=if r.how=1 then r0.e else r.e}:=by
 rcases hr with⟨h1,h2,h3⟩|⟨h1,h2,h3,h4,h5⟩
 ·obtain⟨e1,l1⟩:=numM_1 (adv:=adv) h (by omega) (by omega)
  unfold treeM
  simp only[e1,h1,if_true]
 ·have hne:r.how≠1:=by omega
  obtain⟨e1,l1⟩:=numM_1 (adv:=adv) h (by omega) (by omega)
  unfold treeB at l1
  rw[if_neg hne]at l1
  simp only[List.append_assoc]at l1
  obtain⟨e2,l2⟩:=numM_3 (adv:=adv) l1 h2
  obtain⟨e3,l3⟩:=numM_3 (adv:=adv) l2 h3
  obtain⟨e4,l4⟩:=numM_2 (adv:=adv) l3 h4.1 (by have:=h4.2;omega)
  obtain⟨e5,l5⟩:=textM_left l4 (by omega)
  unfold treeM
  simp only[e1,hne,if_false,e2,e3,e4,e5]
theorem listsM_left {adv:Bool}{r r0:Rec}{s tl:List UInt8}{a:St}(h:Left s a (listsB r++tl))(hn:num r.num)(hr:listsR r):
 listsM adv s r0 a={r0 with num:=r.num,txns:=r.txns,dirty:=r.dirty}:=by
 obtain⟨h1,h2,h3,h4⟩:=hr
 unfold listsB at h
 simp only[List.append_assoc]at h
 obtain⟨e1,l1⟩:=numM_6 (adv:=adv) h hn
 obtain⟨e2,l2⟩:=numM_2 (adv:=adv) l1 (by omega) (by omega)
 obtain⟨b,e3,l3⟩:=manyM_left (one:=txnM adv s) (enc:=txnB) (R:=txnR) (fun a x l h hx=>txnM_left h hx) r.txns _ _ l2 h3
 obtain⟨e4,l4⟩:=numM_2 (adv:=adv) l3 (by omega) (by omega)
 obtain⟨c,e5,l5⟩:=manyM_left (one:=dirtyM adv s) (enc:=dirtyB) (R:=dirtyR) (fun a x l h hx=>dirtyM_left h hx) r.dirty _ _ l4 h4
 unfold listsM
 simp only[e1,e2,Int.toNat_natCast,e3,e4,e5]
theorem read_more (adv:Bool)(tl:List UInt8){r:Rec}(h:Right r):readM adv (bodyB r++tl)=r:=by
 cases h with
 |small kind lsn prev txn hk h1 h2 h3=>
  have hk2:restB (bare kind lsn prev txn)=[]:=by
   unfold restB bare
   simp only
   rw[if_neg (by omega),if_neg (by omega),if_neg (by omega),if_neg (by omega),if_neg (by omega)]
  obtain⟨b,e,l⟩:=headM_left (adv:=adv) (r:=bare kind lsn prev txn) (s:=bodyB (bare kind lsn prev txn)++tl) (l:=restB (bare kind lsn prev txn)++tl) (List.append_assoc _ _ _) (show 0≤kind by omega) (show kind<256 by omega) h1 h2 h3
  unfold readM
  rw[e]
  unfold restM bare
  simp only
  rw[if_neg (by omega),if_neg (by omega),if_neg (by omega),if_neg (by omega),if_neg (by omega)]
 |change lsn prev txn page op how root e h1 h2 h3 h4 h5 h6=>
  obtain⟨b,e1,l1⟩:=headM_left (adv:=adv) (r:=⟨lsn,prev,txn,2,page,0,0,op,how,root,e,[],[]⟩) (s:=bodyB _++tl) (l:=restB _++tl) (List.append_assoc _ _ _) (show(0:Int)≤2 by omega) (show(2:Int)<256 by omega) h1 h2 h3
  unfold readM
  rw[e1]
  rw[restB_2 rfl]at l1
  simp only[List.append_assoc]at l1
  obtain⟨e2,l2⟩:=numM_3 (adv:=adv) (n:=page) l1 h4
  obtain⟨c,e3,l3⟩:=opM_left (adv:=adv) (o:=op) l2 h5
  have e4:=treeM_left (adv:=adv) (r0:=⟨lsn,prev,txn,2,page,0,0,op,0,0,noKey,[],[]⟩) l3 h6
  show restM adv (bodyB _++tl) (bare 2 lsn prev txn) b=_
  rw[restM_2 rfl]
  simp only[e2,e3]
  refine e4.trans ?_
  rcases h6 with⟨h7,h8,h9⟩|⟨h7,_⟩
  ·simp only at h7 h8 h9
   subst h7 h8 h9
   rfl
  ·have hne:how≠1:=by simp only at h7;omega
   simp only[hne,if_false]
 |clr lsn prev txn page op next h1 h2 h3 h4 h5 h6=>
  obtain⟨b,e1,l1⟩:=headM_left (adv:=adv) (r:=⟨lsn,prev,txn,3,page,next,0,op,0,0,noKey,[],[]⟩) (s:=bodyB _++tl) (l:=restB _++tl) (List.append_assoc _ _ _) (show(0:Int)≤3 by omega) (show(3:Int)<256 by omega) h1 h2 h3
  unfold readM
  rw[e1]
  rw[restB_3 rfl]at l1
  simp only[List.append_assoc]at l1
  obtain⟨e2,l2⟩:=numM_3 (adv:=adv) (n:=page) l1 h4
  obtain⟨c,e3,l3⟩:=opM_left (adv:=adv) (o:=op) l2 h5
  obtain⟨e4,l4⟩:=numM_6 (adv:=adv) (n:=next) l3 h6
  show restM adv (bodyB _++tl) (bare 3 lsn prev txn) b=_
  rw[restM_3 rfl]
  simp only[e2,e3,e4]
  rfl
 |nest lsn prev txn next h1 h2 h3 h6=>
  obtain⟨b,e1,l1⟩:=headM_left (adv:=adv) (r:=⟨lsn,prev,txn,4,0,next,0,noOp,0,0,noKey,[],[]⟩) (s:=bodyB _++tl) (l:=restB _++tl) (List.append_assoc _ _ _) (show(0:Int)≤4 by omega) (show(4:Int)<256 by omega) h1 h2 h3
  unfold readM
  rw[e1]
  rw[restB_4 rfl]at l1
  obtain⟨e4,l4⟩:=numM_6 (adv:=adv) (n:=next) l1 h6
  show restM adv (bodyB _++tl) (bare 4 lsn prev txn) b=_
  rw[restM_4 rfl]
  simp only[e4]
  rfl
 |image lsn prev txn page op h1 h2 h3 h4 h5=>
  obtain⟨b,e1,l1⟩:=headM_left (adv:=adv) (r:=⟨lsn,prev,txn,8,page,0,0,op,0,0,noKey,[],[]⟩) (s:=bodyB _++tl) (l:=restB _++tl) (List.append_assoc _ _ _) (show(0:Int)≤8 by omega) (show(8:Int)<256 by omega) h1 h2 h3
  unfold readM
  rw[e1]
  rw[restB_8 rfl]at l1
  simp only[List.append_assoc]at l1
  obtain⟨e2,l2⟩:=numM_3 (adv:=adv) (n:=page) l1 h4
  obtain⟨c,e3,l3⟩:=opM_left (adv:=adv) (o:=op) l2 h5
  show restM adv (bodyB _++tl) (bare 8 lsn prev txn) b=_
  rw[restM_8 rfl]
  simp only[e2,e3]
  rfl
 |check lsn prev txn n ts ds h1 h2 h3 h4 h5=>
  obtain⟨b,e1,l1⟩:=headM_left (adv:=adv) (r:=⟨lsn,prev,txn,9,0,0,n,noOp,0,0,noKey,ts,ds⟩) (s:=bodyB _++tl) (l:=restB _++tl) (List.append_assoc _ _ _) (show(0:Int)≤9 by omega) (show(9:Int)<256 by omega) h1 h2 h3
  unfold readM
  rw[e1]
  rw[restB_9 rfl]at l1
  have e4:=listsM_left (adv:=adv) (r0:=bare 9 lsn prev txn) l1 h4 h5
  show restM adv (bodyB _++tl) (bare 9 lsn prev txn) b=_
  rw[restM_9 rfl]
  exact e4
theorem read_body (adv:Bool){r:Rec}(h:Right r):readM adv (bodyB r)=r:=by
 have:=read_more adv [] h
 rwa[List.append_nil]at this
theorem body_prefix {r x:Rec}{l:List UInt8}(hr:Right r)(hx:Right x)(h:bodyB r=bodyB x++l):x=r:=by
 have h1:=read_body true hr
 rw[h,read_more true l hx]at h1
 exact h1
instance:DecidableEq Op:=fun a b=>by
 obtain⟨a1,a2,a3,a4⟩:=a
 obtain⟨b1,b2,b3,b4⟩:=b
 by_cases h:a1=b1∧a2=b2∧a3=b3∧a4=b4
 ·exact .isTrue (by obtain⟨rfl,rfl,rfl,rfl⟩:=h;rfl)
 ·exact .isFalse (fun e=>by injection e with e1 e2 e3 e4;exact h ⟨e1,e2,e3,e4⟩)
instance:DecidableEq Key:=fun a b=>by
 obtain⟨a1,a2,a3⟩:=a
 obtain⟨b1,b2,b3⟩:=b
 by_cases h:a1=b1∧a2=b2∧a3=b3
 ·exact .isTrue (by obtain⟨rfl,rfl,rfl⟩:=h;rfl)
 ·exact .isFalse (fun e=>by injection e with e1 e2 e3;exact h ⟨e1,e2,e3⟩)
instance (n:Int):Decidable (num n):=by unfold num;exact inferInstance
instance (n:Int):Decidable (pg n):=by unfold pg;exact inferInstance
instance (n:Int):Decidable (sl n):=by unfold sl;exact inferInstance
instance (o:Op):Decidable (opR o):=by unfold opR;exact inferInstance
instance (r:Rec):Decidable (treeR r):=by unfold treeR;exact inferInstance
instance (x:TxnAt):Decidable (txnR x):=by unfold txnR;exact inferInstance
instance (x:DirtyAt):Decidable (dirtyR x):=by unfold dirtyR;exact inferInstance
instance (r:Rec):Decidable (listsR r):=by unfold listsR;exact inferInstance
def hasChange (k:Int):Prop:=k=2∨k=3∨k=8
def hasNext (k:Int):Prop:=k=3∨k=4
structure Form (r:Rec):Prop where
 kind:1≤r.kind∧r.kind≤9
 nums:num r.lsn∧num r.prev∧num r.txn
 change:hasChange r.kind→pg r.page∧opR r.op
 bare:¬ hasChange r.kind→r.page=0∧r.op=noOp
 tree:r.kind=2→treeR r
 noTree:r.kind≠2→r.how=0∧r.root=0∧r.e=noKey
 next:hasNext r.kind→num r.next
 noNext:¬ hasNext r.kind→r.next=0
 lists:r.kind=9→num r.num∧listsR r
 noLists:r.kind≠9→r.num=0∧r.txns=[]∧r.dirty=[]
theorem form_of {r:Rec}(h:Right r):Form r:=by
 cases h with
 |small kind lsn prev txn hk h1 h2 h3=>
  have hb:(bare kind lsn prev txn).kind=kind:=rfl
  exact⟨by rw[hb];omega,⟨h1,h2,h3⟩,fun h=>(by unfold hasChange at h;rw[hb]at h;omega),fun _=>⟨rfl,rfl⟩,fun h=>(by rw[hb]at h;omega),fun _=>⟨rfl,rfl,rfl⟩,fun h=>(by unfold hasNext at h;rw[hb]at h;omega),fun _=>rfl,fun h=>(by rw[hb]at h;omega),fun _=>⟨rfl,rfl,rfl⟩⟩
 |change lsn prev txn page op how root e h1 h2 h3 h4 h5 h6=>
  exact⟨⟨by show(1:Int)≤2;omega,by show(2:Int)≤9;omega⟩,⟨h1,h2,h3⟩,fun _=>⟨h4,h5⟩,fun h=>absurd (Or.inl rfl) h,fun _=>h6,fun h=>absurd rfl h,fun h=>(by rcases h with h|h<;>cases h),fun _=>rfl,fun h=>(by cases h),fun _=>⟨rfl,rfl,rfl⟩⟩
 |clr lsn prev txn page op next h1 h2 h3 h4 h5 h6=>
  exact⟨⟨by show(1:Int)≤3;omega,by show(3:Int)≤9;omega⟩,⟨h1,h2,h3⟩,fun _=>⟨h4,h5⟩,fun h=>absurd (Or.inr (Or.inl rfl)) h,fun h=>(by cases h),fun _=>⟨rfl,rfl,rfl⟩,fun _=>h6,fun h=>absurd (Or.inl rfl) h,fun h=>(by cases h),fun _=>⟨rfl,rfl,rfl⟩⟩
 |nest lsn prev txn next h1 h2 h3 h6=>
  exact⟨⟨by show(1:Int)≤4;omega,by show(4:Int)≤9;omega⟩,⟨h1,h2,h3⟩,fun h=>(by rcases h with h|h|h<;>cases h),fun _=>⟨rfl,rfl⟩,fun h=>(by cases h),fun _=>⟨rfl,rfl,rfl⟩,fun _=>h6,fun h=>absurd (Or.inr rfl) h,fun h=>(by cases h),fun _=>⟨rfl,rfl,rfl⟩⟩
 |image lsn prev txn page op h1 h2 h3 h4 h5=>
  exact⟨⟨by show(1:Int)≤8;omega,by show(8:Int)≤9;omega⟩,⟨h1,h2,h3⟩,fun _=>⟨h4,h5⟩,fun h=>absurd (Or.inr (Or.inr rfl)) h,fun h=>(by cases h),fun _=>⟨rfl,rfl,rfl⟩,fun h=>(by rcases h with h|h<;>cases h),fun _=>rfl,fun h=>(by cases h),fun _=>⟨rfl,rfl,rfl⟩⟩
 |check lsn prev txn n ts ds h1 h2 h3 h4 h5=>
  exact⟨⟨by show(1:Int)≤9;omega,by show(9:Int)≤9;omega⟩,⟨h1,h2,h3⟩,fun h=>(by rcases h with h|h|h<;>cases h),fun _=>⟨rfl,rfl⟩,fun h=>(by cases h),fun _=>⟨rfl,rfl,rfl⟩,fun h=>(by rcases h with h|h<;>cases h),fun _=>rfl,fun _=>⟨h4,h5⟩,fun h=>absurd rfl h⟩
def allW (most:Int)(xs:List Int):Bool:=xs.all fun n=>decide (0≤n∧n≤most)
theorem allW_bad {most:Int}{xs:List Int}{k:Nat}(hk:k<xs.length)(h:¬ (0≤xs[k]∧xs[k]≤most)):allW most xs=false:=by
 unfold allW
 rw[List.all_eq_false]
 exact⟨_,List.getElem_mem hk,by simpa using h⟩
theorem allW_all {most:Int}{xs:List Int}(h:∀ k (hk:k<xs.length),0≤xs[k]∧xs[k]≤most):allW most xs=true:=by
 unfold allW
 rw[List.all_eq_true]
 intro x hx
 obtain⟨k,hk,rfl⟩:=List.getElem_of_mem hx
 simpa using h k hk
end Rc
namespace Go.Proofs.YtilakddepaplhaaGreat
open Go.RowKit
theorem outside_any (n most:Int)(g:Nat)(w:World)(h:w.cell? ⟨g,0,none⟩=some (.int .i64 most)):
 Calls Tryz.prog 201 #[n,.pointer (some ⟨g,0,none⟩)] w fun e w'=>e= .returned (.bool (!decide (0≤n∧n≤most)))∧w=w':=by
 by_cases h0:n<0
 ·rw[show decide (0≤n∧n≤most)=false from decide_eq_false (by omega)]
  go_enter Tryz.func201,Tryz.ntmps201
  go_wp2_with fail
  go_ret
  exact⟨by simp[*],rfl⟩
 ·have h1:0≤n:=by omega
  by_cases h2:most<n
  ·rw[show decide (0≤n∧n≤most)=false from decide_eq_false (by omega)]
   go_enter Tryz.func201,Tryz.ntmps201
   go_wp2_with fail
   go_ret
   exact⟨by simp[*],rfl⟩
  ·have h3:n≤most:=by omega
   rw[show decide (0≤n∧n≤most)=true from decide_eq_true (by omega)]
   clear h0 h2
   go_enter Tryz.func201,Tryz.ntmps201
   go_wp2_with fail
   go_ret
   exact⟨by simp[*],rfl⟩
def FirstOut (b:Bool)(w:World)(e:Ending)(w':World):Prop:=∃ k:Int,e= .returned (.int .i64 k)∧(if b then k= -1 else 0≤k)∧w=w'
theorem index_ints (most:Int)(xs:List Int)(hn:xs.length≤1048576)(A:Option Addr)(c g:Nat)(w:World)(hr:Reads w A c xs.length (xs.map (Value.int .i64)))(h:w.cell? ⟨g,0,none⟩=some (.int .i64 most)):
 Calls Tryz.prog 203 #[.slice A xs.length c,.func (.func 201) #[] #[.pointer (some ⟨g,0,none⟩)]] w (FirstOut (Rc.allW most xs) w):=by
 have HR:=Hq hr
 have HO:=Hq (fun n=>outside_any n most g w h)
 obtain⟨b,hb⟩:=ex (Rc.allW most xs)
 rw[← hb]
 have HB:=Hq hb
 clear hr h hb
 go_enter Tryz.func203,Tryz.ntmps203
 go_wp2_with fail
 go_loop [8] (fun i=>∃ k:Nat,k≤xs.length∧i= .int .i64 k∧∀ j (hj:j<xs.length),j<k→0≤xs[j]∧xs[j]≤most) (fun i=>xs.length-(intOf i).toNat)
 case atStart=>exact⟨0,Nat.zero_le _,rfl,fun _ _ h=>absurd h (by omega)⟩
 case round=>
  obtain⟨k,hk,rfl,hall⟩:=hrel
  have HA:=Hq hall
  clear hall
  by_cases hlt:k<xs.length
  ·obtain⟨b',off,rfl,hc,hbl,hcell⟩:=HR.out.at_ (by omega)
   have hck:=hcell k (.int .i64 xs[k]) (by rw[List.getElem?_map,List.getElem?_eq_getElem hlt];rfl)
   clear hcell
   have HN:=Hq (show ¬ (0≤xs[k]∧xs[k]≤most)→b=false from fun h=>HB.out.trans (Rc.allW_bad hlt h))
   have HY:=Hq (show(0≤xs[k]∧xs[k]≤most)→∀ j (hj:j<xs.length),j<k+1→0≤xs[j]∧xs[j]≤most from fun h j hj hjk=>by
    rcases Nat.lt_or_eq_of_le (Nat.le_of_lt_succ hjk)with h1|h1
    ·exact HA.out j hj h1
    ·subst h1;exact h)
   have HOk:=Hq (HO.out xs[k])
   generalize xs[k]=x at hck HN HY HOk
   cases hd:decide (0≤x∧x≤most)with
   |true=>
    have HY2:=Hq (HY.out (of_decide_eq_true hd))
    rw[hd]at HOk
    clear HN HY hd
    go_wp2_with ((go_at_call 201;refine(HOk.out).mono ?_;rintro e w' ⟨rfl,rfl⟩))
    go_round
    case rel=>exact⟨k+1,by omega,by go_num,HY2.out⟩
    case measure=>simp[intOf];omega
   |false=>
    have HN2:=Hq (HN.out (of_decide_eq_false hd))
    rw[hd]at HOk
    clear HN HY hd
    go_wp2_with ((go_at_call 201;refine(HOk.out).mono ?_;rintro e w' ⟨rfl,rfl⟩))
    go_ret
    exact⟨k,rfl,by rw[HN2.out];simp,rfl⟩
  ·obtain rfl:k=xs.length:=by omega
   have HE:=Hq (show b=true from HB.out.trans (Rc.allW_all fun j hj=>HA.out j hj hj))
   go_wp2_with fail
   go_ret
   exact⟨-1,rfl,by rw[HE.out];rfl,rfl⟩
theorem contains_ints (most:Int)(xs:List Int)(hn:xs.length≤1048576)(A:Option Addr)(c g:Nat)(w:World)(hr:Reads w A c xs.length (xs.map (Value.int .i64)))(h:w.cell? ⟨g,0,none⟩=some (.int .i64 most)):
 Calls Tryz.prog 200 #[.slice A xs.length c,.func (.func 201) #[] #[.pointer (some ⟨g,0,none⟩)]] w fun e w'=>e= .returned (.bool (!Rc.allW most xs))∧w=w':=by
 have HI:=Hq (index_ints most xs hn A c g w hr h)
 clear hr h
 cases hb:Rc.allW most xs with
 |true=>
  rw[hb]at HI
  clear hb
  go_enter Tryz.func200,Tryz.ntmps200
  go_wp2_with ((go_at_call 203;refine(HI.out).mono ?_;rintro e w' ⟨k,rfl,hk,rfl⟩;obtain rfl:k= -1:=hk))
  go_ret
  exact⟨rfl,rfl⟩
 |false=>
  rw[hb]at HI
  clear hb
  go_enter Tryz.func200,Tryz.ntmps200
  go_wp2_with ((go_at_call 203;refine(HI.out).mono ?_;rintro e w' ⟨k,rfl,hk,rfl⟩;have hk0:0≤k:=by simpa using hk))
  go_ret
  exact⟨by simp[*],rfl⟩
theorem within_any (most:Int)(xs:List Int)(hn:xs.length≤1048576)(A:Option Addr)(c:Nat)(w:World)(hr:Reads w A c xs.length (xs.map (Value.int .i64))):
 Calls Tryz.prog 179 #[most,.slice A xs.length c] w fun e w'=>e= .returned (.bool (Rc.allW most xs))∧Below w.heap.size w w':=by
 have HC:=Hq (contains_ints most xs hn A c w.heap.size (w.alloc (.cells #[most] 3)) (hr.alloc _) (by rw[blkCell (heap_alloc_new w _)];rfl))
 clear hr
 generalize Rc.allW most xs=b at HC ⊢
 go_enter Tryz.func179,Tryz.ntmps179
 go_wp2_with ((go_at_call 200;refine(HC.out).mono ?_;rintro e w' ⟨rfl,rfl⟩))
 go_ret
 exact⟨by simp,allocB _ _⟩
theorem number_any (xs:List Int)(hn:xs.length≤1048576)(A:Option Addr)(c:Nat)(w:World)(hr:Reads w A c xs.length (xs.map (Value.int .i64))):
 Calls Tryz.prog 119 #[.slice A xs.length c] w fun e w'=>e= .returned (.bool (Rc.allW 1099511627775 xs))∧Below w.heap.size w w':=by
 have HC:=Hq (within_any 1099511627775 xs hn A c w hr)
 clear hr
 generalize Rc.allW 1099511627775 xs=b at HC ⊢
 go_enter Tryz.func119,Tryz.ntmps119
 go_wp2_with ((go_at_call 179;refine(HC.out).mono ?_;rintro e w' ⟨rfl,hb⟩))
 go_ret
 exact⟨rfl,hb⟩
theorem paged_any (xs:List Int)(hn:xs.length≤1048576)(A:Option Addr)(c:Nat)(w:World)(hr:Reads w A c xs.length (xs.map (Value.int .i64))):
 Calls Tryz.prog 120 #[.slice A xs.length c] w fun e w'=>e= .returned (.bool (Rc.allW 8388607 xs))∧Below w.heap.size w w':=by
 have HC:=Hq (within_any 8388607 xs hn A c w hr)
 clear hr
 generalize Rc.allW 8388607 xs=b at HC ⊢
 go_enter Tryz.func120,Tryz.ntmps120
 go_wp2_with ((go_at_call 179;refine(HC.out).mono ?_;rintro e w' ⟨rfl,hb⟩))
 go_ret
 exact⟨rfl,hb⟩
theorem slot_any (xs:List Int)(hn:xs.length≤1048576)(A:Option Addr)(c:Nat)(w:World)(hr:Reads w A c xs.length (xs.map (Value.int .i64))):
 Calls Tryz.prog 180 #[.slice A xs.length c] w fun e w'=>e= .returned (.bool (Rc.allW 32767 xs))∧Below w.heap.size w w':=by
 have HC:=Hq (within_any 32767 xs hn A c w hr)
 clear hr
 generalize Rc.allW 32767 xs=b at HC ⊢
 go_enter Tryz.func180,Tryz.ntmps180
 go_wp2_with ((go_at_call 179;refine(HC.out).mono ?_;rintro e w' ⟨rfl,hb⟩))
 go_ret
 exact⟨rfl,hb⟩
end Go.Proofs.YtilakddepaplhaaGreat
namespace Rc
theorem allW_one (m n:Int):allW m [n]=decide (0≤n∧n≤m):=by simp[allW]
theorem allW_two (m a b:Int):allW m [a,b]=decide ((0≤a∧a≤m)∧(0≤b∧b≤m)):=by simp[allW,Bool.decide_and]
theorem allW_three (m a b c:Int):allW m [a,b,c]=decide ((0≤a∧a≤m)∧(0≤b∧b≤m)∧(0≤c∧c≤m)):=by simp[allW,Bool.decide_and]
theorem num_iff (n:Int):(0≤n∧n≤1099511627775)↔num n:=by unfold num;omega
theorem pg_iff (n:Int):(0≤n∧n≤8388607)↔pg n:=by unfold pg;omega
theorem sl_iff (n:Int):(0≤n∧n≤32767)↔sl n:=by unfold sl;omega
end Rc
namespace Go.Proofs.YtilakddepaplhaaGreat
open Go.RowKit
theorem new2 (w:World)(o1 o2:Obj):((w.alloc o1).alloc o2).heap[w.heap.size+1]? =some o2:=by simpa using heap_alloc_new (w.alloc o1) o2
theorem number1 (a:Int)(w:World)(g:Nat)(hg:w.heap[g]? =some (.cells #[a] 3 (0,0))):
 Calls Tryz.prog 119 #[.slice (some ⟨g,0,none⟩) 1 1] w fun e w'=>e= .returned (.bool (decide (Rc.num a)))∧Below w.heap.size w w':=by
 have h:=number_any [a] (by simp) (some ⟨g,0,none⟩) 1 w (reads_blk (cs:=[.int .i64 a]) hg (Nat.le_refl _))
 rw[Rc.allW_one,decide_eq_decide.2 (Rc.num_iff a)]at h
 exact h
theorem paged1 (a:Int)(w:World)(g:Nat)(hg:w.heap[g]? =some (.cells #[a] 3 (0,0))):
 Calls Tryz.prog 120 #[.slice (some ⟨g,0,none⟩) 1 1] w fun e w'=>e= .returned (.bool (decide (Rc.pg a)))∧Below w.heap.size w w':=by
 have h:=paged_any [a] (by simp) (some ⟨g,0,none⟩) 1 w (reads_blk (cs:=[.int .i64 a]) hg (Nat.le_refl _))
 rw[Rc.allW_one,decide_eq_decide.2 (Rc.pg_iff a)]at h
 exact h
theorem slot1 (a:Int)(w:World)(g:Nat)(hg:w.heap[g]? =some (.cells #[a] 3 (0,0))):
 Calls Tryz.prog 180 #[.slice (some ⟨g,0,none⟩) 1 1] w fun e w'=>e= .returned (.bool (decide (Rc.sl a)))∧Below w.heap.size w w':=by
 have h:=slot_any [a] (by simp) (some ⟨g,0,none⟩) 1 w (reads_blk (cs:=[.int .i64 a]) hg (Nat.le_refl _))
 rw[Rc.allW_one,decide_eq_decide.2 (Rc.sl_iff a)]at h
 exact h
theorem paged2 (a b:Int)(w:World)(g:Nat)(hg:w.heap[g]? =some (.cells #[a,b] 3 (0,0))):
 Calls Tryz.prog 120 #[.slice (some ⟨g,0,none⟩) 2 2] w fun e w'=>e= .returned (.bool (decide (Rc.pg a∧Rc.pg b)))∧Below w.heap.size w w':=by
 have h:=paged_any [a,b] (by simp) (some ⟨g,0,none⟩) 2 w (reads_blk (cs:=[.int .i64 a,.int .i64 b]) hg (Nat.le_refl _))
 rw[Rc.allW_two,decide_eq_decide.2 (and_congr (Rc.pg_iff a) (Rc.pg_iff b))]at h
 exact h
theorem number3 (a b c:Int)(w:World)(g:Nat)(hg:w.heap[g]? =some (.cells #[a,b,c] 3 (0,0))):
 Calls Tryz.prog 119 #[.slice (some ⟨g,0,none⟩) 3 3] w fun e w'=>e= .returned (.bool (decide (Rc.num a∧Rc.num b∧Rc.num c)))∧Below w.heap.size w w':=by
 have h:=number_any [a,b,c] (by simp) (some ⟨g,0,none⟩) 3 w (reads_blk (cs:=[.int .i64 a,.int .i64 b,.int .i64 c]) hg (Nat.le_refl _))
 rw[Rc.allW_three,decide_eq_decide.2 (and_congr (Rc.num_iff a) (and_congr (Rc.num_iff b) (Rc.num_iff c)))]at h
 exact h
abbrev opV (o:Rc.Op):Value:=.agg #[o.kind,o.slot,o.old,o.new]
abbrev keyV (e:Rc.Key):Value:=.agg #[e.key,e.page,e.slot]
abbrev recA (r:Rc.Rec)(T D:Value):Array Value:=#[r.lsn,r.prev,r.txn,r.kind,r.page,r.next,r.num,r.op.kind,r.op.slot,r.op.old,r.op.new,r.how,r.root,r.e.key,r.e.page,r.e.slot,T,D]
abbrev recV (r:Rc.Rec)(T D:Value):Value:=.agg (recA r T D)
theorem bytes_list (a b:ByteArray):a.toList=b.toList↔a=b:=by
 rw[ByteArray.toList_eq,ByteArray.toList_eq]
 exact⟨fun h=>ByteArray.ext (Array.toList_inj.1 h),fun h=>by rw[h]⟩
theorem key_equal (a b:Rc.Key)(w:World):(Op.equalIn 10000 52 (keyV a) (keyV b)).run Tryz.prog w= .ok (decide (a=b)) w:=by
 obtain⟨k1,p1,s1⟩:=a
 obtain⟨k2,p2,s2⟩:=b
 have hS:Tryz.prog.underlying 52=some (.struct (Tryz.prog.fieldsOf 52)):=by kernel_rfl
 have hp:Tryz.prog.stoodInHeld 52=false:=by kernel_rfl
 have hS2:Tryz.prog.underlying 50=some (.struct (Tryz.prog.fieldsOf 50)):=by kernel_rfl
 have hp2:Tryz.prog.stoodInHeld 50=false:=by kernel_rfl
 have hin:∀ W:World,(Op.equalIn 9999 50 (.agg #[p1,s1]) (.agg #[p2,s2])).run Tryz.prog W= .ok ((p1==p2)&&(s1==s2)) W:=fun W=>by
  rw[show(9999:Nat)=9998+1 from rfl,run_equalIn_agg W 9998 50 _ _ hS2 hp2]
  simp only[Program.fieldsOf,Tryz.underlying50]
  go_simp
  by_cases h1:p1=p2<;>by_cases h2:s1=s2<;>simp[h1,h2]
 rw[show(10000:Nat)=9999+1 from rfl,run_equalIn_agg w 9999 52 _ _ hS hp]
 simp only[Program.fieldsOf,Tryz.underlying52]
 go_simp
 have hk:=bytes_list k1 k2
 by_cases h0:k1=k2
 ·rw[if_pos (hk.2 h0)]
  by_cases h1:p1=p2<;>by_cases h2:s1=s2<;>simp[h0,h1,h2]
 ·rw[if_neg (fun h=>h0 (hk.1 h))]
  simp[h0]
theorem op_equal (a b:Rc.Op)(w:World):(Op.equalIn 10000 48 (opV a) (opV b)).run Tryz.prog w= .ok (decide (a=b)) w:=by
 obtain⟨k1,p1,s1,t1⟩:=a
 obtain⟨k2,p2,s2,t2⟩:=b
 have hS:Tryz.prog.underlying 48=some (.struct (Tryz.prog.fieldsOf 48)):=by kernel_rfl
 have hp:Tryz.prog.stoodInHeld 48=false:=by kernel_rfl
 rw[show(10000:Nat)=9999+1 from rfl,run_equalIn_agg w 9999 48 _ _ hS hp]
 simp only[Program.fieldsOf,Tryz.underlying48]
 go_simp
 have hs:=bytes_list s1 s2
 have ht:=bytes_list t1 t2
 by_cases h0:k1=k2<;>by_cases h1:p1=p2<;>by_cases h2:s1=s2<;>by_cases h3:t1=t2<;>simp[h0,h1,h2,h3,hs,ht]
end Go.Proofs.YtilakddepaplhaaGreat
namespace Rc
instance:DecidableEq TxnAt:=fun a b=>by
 obtain⟨a1,a2,a3,a4⟩:=a
 obtain⟨b1,b2,b3,b4⟩:=b
 by_cases h:a1=b1∧a2=b2∧a3=b3∧a4=b4
 ·exact .isTrue (by obtain⟨rfl,rfl,rfl,rfl⟩:=h;rfl)
 ·exact .isFalse (fun e=>by injection e with e1 e2 e3 e4;exact h ⟨e1,e2,e3,e4⟩)
instance:DecidableEq DirtyAt:=fun a b=>by
 obtain⟨a1,a2⟩:=a
 obtain⟨b1,b2⟩:=b
 by_cases h:a1=b1∧a2=b2
 ·exact .isTrue (by obtain⟨rfl,rfl⟩:=h;rfl)
 ·exact .isFalse (fun e=>by injection e with e1 e2;exact h ⟨e1,e2⟩)
theorem all_no {α:Type}(R:α→Prop)[DecidablePred R]{l:List α}{k:Nat}(hk:k<l.length)(h:¬ R l[k]):decide (∀ x∈l,R x)=false:=decide_eq_false (fun h'=>h (h' _ (List.getElem_mem hk)))
theorem all_yes {α:Type}(R:α→Prop)[DecidablePred R]{l:List α}(h:∀ k (hk:k<l.length),R l[k]):decide (∀ x∈l,R x)=true:=decide_eq_true (fun x hx=>by
 obtain⟨k,hk,rfl⟩:=List.getElem_of_mem hx
 exact h k hk)
theorem eq_no {α:Type}[DecidableEq α]{l m:List α}{k:Nat}(hk:k<l.length)(hk':k<m.length)(h:l[k]≠m[k]):decide (l=m)=false:=decide_eq_false (fun e=>h (by subst e;rfl))
theorem eq_yes {α:Type}[DecidableEq α]{l m:List α}(hl:l.length=m.length)(h:∀ k (hk:k<l.length) (hk':k<m.length),l[k]=m[k]):decide (l=m)=true:=decide_eq_true (List.ext_getElem hl h)
end Rc
namespace Go.Proofs.YtilakddepaplhaaGreat
open Go.RowKit
def txC (t:Rc.TxnAt):List Value:=[.int .i64 t.txn,.int .i64 t.last,.int .i64 t.next,.bool t.done]
def diC (t:Rc.DirtyAt):List Value:=[.int .i64 t.page,.int .i64 t.from_]
theorem txC_len (t:Rc.TxnAt):(txC t).length=4:=rfl
theorem diC_len (t:Rc.DirtyAt):(diC t).length=2:=rfl
abbrev txV (t:Rc.TxnAt):Value:=.agg #[t.txn,t.last,t.next,t.done]
abbrev diV (t:Rc.DirtyAt):Value:=.agg #[t.page,t.from_]
abbrev TxR (w:World)(A:Option Addr)(c:Nat)(l:List Rc.TxnAt):Prop:=Reads w A c l.length (l.flatMap txC)
abbrev DiR (w:World)(A:Option Addr)(c:Nat)(l:List Rc.DirtyAt):Prop:=Reads w A c l.length (l.flatMap diC)
def IdxOut (b:Bool)(w:World)(e:Ending)(w':World):Prop:=∃ k:Int,e= .returned (.int .i64 k)∧(if b then k= -1 else 0≤k)∧Below w.heap.size w w'
theorem txn_equal (a b:Rc.TxnAt)(w:World):(Op.equalIn 10000 92 (txV a) (txV b)).run Tryz.prog w= .ok (decide (a=b)) w:=by
 obtain⟨k1,p1,s1,t1⟩:=a
 obtain⟨k2,p2,s2,t2⟩:=b
 have hS:Tryz.prog.underlying 92=some (.struct (Tryz.prog.fieldsOf 92)):=by kernel_rfl
 have hp:Tryz.prog.stoodInHeld 92=false:=by kernel_rfl
 rw[show(10000:Nat)=9999+1 from rfl,run_equalIn_agg w 9999 92 _ _ hS hp]
 simp only[Program.fieldsOf,Tryz.underlying92]
 go_simp
 by_cases h0:k1=k2<;>by_cases h1:p1=p2<;>by_cases h2:s1=s2<;>cases t1<;>cases t2<;>simp[h0,h1,h2]
theorem dirty_equal (a b:Rc.DirtyAt)(w:World):(Op.equalIn 10000 94 (diV a) (diV b)).run Tryz.prog w= .ok (decide (a=b)) w:=by
 obtain⟨k1,p1⟩:=a
 obtain⟨k2,p2⟩:=b
 have hS:Tryz.prog.underlying 94=some (.struct (Tryz.prog.fieldsOf 94)):=by kernel_rfl
 have hp:Tryz.prog.stoodInHeld 94=false:=by kernel_rfl
 rw[show(10000:Nat)=9999+1 from rfl,run_equalIn_agg w 9999 94 _ _ hS hp]
 simp only[Program.fieldsOf,Tryz.underlying94]
 go_simp
 by_cases h0:k1=k2<;>by_cases h1:p1=p2<;>simp[h0,h1]
theorem txn_bad_any (t:Rc.TxnAt)(w:World):
 Calls Tryz.prog 124 #[txV t] w fun e w'=>e= .returned (.bool (!decide (Rc.txnR t)))∧Below w.heap.size w w':=by
 obtain⟨a,b,c,d⟩:=t
 have HN:=Hq (fun W g h=>number3 a b c W g h)
 rw[show decide (Rc.txnR ⟨a,b,c,d⟩)=decide (Rc.num a∧Rc.num b∧Rc.num c)from rfl]
 generalize decide (Rc.num a∧Rc.num b∧Rc.num c)=q at HN ⊢
 go_enter Tryz.func124,Tryz.ntmps124
 go_wp2_with ((go_at_call 119;(with_reducible refine(HN.out _ _ ?_).mono ?_);(with_reducible exact new2 _ _ _);rintro e w' ⟨rfl,hb⟩))
 go_ret
 exact⟨rfl,joinB (pastAlloc (allocB _ _)) hb⟩
theorem dirty_bad_any (t:Rc.DirtyAt)(w:World):
 Calls Tryz.prog 126 #[diV t] w fun e w'=>e= .returned (.bool (!decide (Rc.dirtyR t)))∧Below w.heap.size w w':=by
 obtain⟨a,b⟩:=t
 have HP:=Hq (fun W g h=>paged1 a W g h)
 have HN:=Hq (fun W g h=>number1 b W g h)
 rw[show decide (Rc.dirtyR ⟨a,b⟩)=(decide (Rc.pg a)&&decide (Rc.num b))from Bool.decide_and _ _]
 generalize decide (Rc.pg a)=p at HP ⊢
 generalize decide (Rc.num b)=q at HN ⊢
 cases p with
 |false=>
  go_enter Tryz.func126,Tryz.ntmps126
  go_wp2_with ((go_at_call 120;(with_reducible refine(HP.out _ _ ?_).mono ?_);(with_reducible exact new2 _ _ _);rintro e w' ⟨rfl,hb⟩))
  go_ret
  exact⟨rfl,joinB (pastAlloc (allocB _ _)) hb⟩
 |true=>
  go_enter Tryz.func126,Tryz.ntmps126
  go_wp2_with (first
   |(go_at_call 120;(with_reducible refine(HP.out _ _ ?_).mono ?_);(with_reducible exact new2 _ _ _);rintro e w' ⟨rfl,hb⟩;have h11:=blkCell (blkPast (heap_alloc_new w _) hb) 1;simp at h11)
   |(go_at_call 119;(with_reducible refine(HN.out _ _ ?_).mono ?_);(with_reducible exact heap_alloc_new _ _);rintro e w2 ⟨rfl,hb2⟩))
  go_ret
  exact⟨by simp,joinB (pastAlloc (joinB (pastAlloc (allocB _ _)) hb)) hb2⟩
theorem index_txn (l:List Rc.TxnAt)(hn:l.length≤1048576)(A:Option Addr)(c:Nat)(w:World)(hr:TxR w A c l):
 Calls Tryz.prog 181 #[.slice A l.length c,.func (.func 124) #[] #[]] w (IdxOut (decide (∀ x∈l,Rc.txnR x)) w):=by
 have HR:=Hq hr
 have HO:=Hq (fun t W=>txn_bad_any t W)
 obtain⟨b,hb⟩:=ex (decide (∀ x∈l,Rc.txnR x))
 rw[← hb]
 have HB:=Hq hb
 clear hr hb
 go_enter Tryz.func181,Tryz.ntmps181
 go_wp2_with fail
 go_loopw [8] (fun i wr=>∃ k:Nat,k≤l.length∧i= .int .i64 k∧(∀ j (hj:j<l.length),j<k→Rc.txnR l[j])∧Below w.heap.size w wr) (fun i _=>l.length-(intOf i).toNat)
 case atStart=>exact⟨0,Nat.zero_le _,rfl,fun _ _ h=>absurd h (by omega),Below.refl _ _⟩
 case round=>
  obtain⟨k,hk,rfl,hall,hbw⟩:=hrel
  have HA:=Hq hall
  clear hall
  by_cases hlt:k<l.length
  ·obtain⟨b',off,rfl,hc,hbl,hcell⟩:=read_at txC_len (HR.out.below hbw) hlt
   have q0:=hcell 0 _ rfl
   have q1:=hcell 1 _ rfl
   have q2:=hcell 2 _ rfl
   have q3:=hcell 3 _ rfl
   clear hcell
   simp only[Nat.add_zero]at q0
   have HN:=Hq (show ¬ Rc.txnR l[k]→b=false from fun h=>HB.out.trans (Rc.all_no _ hlt h))
   have HY:=Hq (show Rc.txnR l[k]→∀ j (hj:j<l.length),j<k+1→Rc.txnR l[j]from fun h j hj hjk=>by
    rcases Nat.lt_or_eq_of_le (Nat.le_of_lt_succ hjk)with h1|h1
    ·exact HA.out j hj h1
    ·subst h1;exact h)
   have HOk:=Hq (fun W=>HO.out l[k] W)
   generalize l[k]=x at q0 q1 q2 q3 HN HY HOk
   cases hd:decide (Rc.txnR x)with
   |true=>
    have HY2:=Hq (HY.out (of_decide_eq_true hd))
    rw[hd]at HOk
    clear HN HY hd
    obtain⟨fa,fb,fc,fd⟩:=x
    go_wp2_with ((go_at_call 124;(with_reducible refine(HOk.out _).mono ?_);rintro e w' ⟨rfl,hb2⟩))
    go_roundw
    case rel=>exact⟨k+1,by omega,by go_num,HY2.out,joinB hbw hb2⟩
    case measure=>simp[intOf];omega
   |false=>
    have HN2:=Hq (HN.out (of_decide_eq_false hd))
    rw[hd]at HOk
    clear HN HY hd
    obtain⟨fa,fb,fc,fd⟩:=x
    go_wp2_with ((go_at_call 124;(with_reducible refine(HOk.out _).mono ?_);rintro e w' ⟨rfl,hb2⟩))
    go_ret
    exact⟨k,rfl,by rw[HN2.out];simp,joinB hbw hb2⟩
  ·obtain rfl:k=l.length:=by omega
   have HE:=Hq (show b=true from HB.out.trans (Rc.all_yes _ fun j hj=>HA.out j hj hj))
   go_wp2_with fail
   go_ret
   exact⟨-1,rfl,by rw[HE.out];rfl,hbw⟩
theorem contains_txn (l:List Rc.TxnAt)(hn:l.length≤1048576)(A:Option Addr)(c:Nat)(w:World)(hr:TxR w A c l):
 Calls Tryz.prog 123 #[.slice A l.length c,.func (.func 124) #[] #[]] w fun e w'=>e= .returned (.bool (!decide (∀ x∈l,Rc.txnR x)))∧Below w.heap.size w w':=by
 have HI:=Hq (index_txn l hn A c w hr)
 clear hr
 generalize decide (∀ x∈l,Rc.txnR x)=b at HI ⊢
 cases b with
 |true=>
  go_enter Tryz.func123,Tryz.ntmps123
  go_wp2_with ((go_at_call 181;refine(HI.out).mono ?_;rintro e w' ⟨k,rfl,hk,hb⟩;obtain rfl:k= -1:=hk))
  go_ret
  exact⟨rfl,hb⟩
 |false=>
  go_enter Tryz.func123,Tryz.ntmps123
  go_wp2_with ((go_at_call 181;refine(HI.out).mono ?_;rintro e w' ⟨k,rfl,hk,hb⟩;have hk0:0≤k:=by simpa using hk))
  go_ret
  exact⟨by simp[*],hb⟩
theorem equal_txn (l m:List Rc.TxnAt)(hn:l.length≤140737488355328)(_hm:m.length≤140737488355328)(A A':Option Addr)(c c':Nat)(w:World)(hr:TxR w A c l)(hr':TxR w A' c' m):
 Calls Tryz.prog 183 #[.slice A l.length c,.slice A' m.length c'] w fun e w'=>e= .returned (.bool (decide (l=m)))∧Below w.heap.size w w':=by
 have HR:=Hq hr
 have HR':=Hq hr'
 obtain⟨b,hb⟩:=ex (decide (l=m))
 rw[← hb]
 have HB:=Hq hb
 clear hr hr' hb
 by_cases hlm:l.length=m.length
 rotate_left
 ·have hne:((l.length:Int)==(m.length:Int))=false:=by simp;omega
  have hne2:((l.length:Int) != (m.length:Int))=true:=by simp;omega
  have hne3:(l.length==m.length)=false:=by simpa using hlm
  have hne4:(l.length != m.length)=true:=by simpa using hlm
  have HF:=Hq (HB.out.trans (decide_eq_false (fun e=>hlm (by rw[e]))))
  go_enter Tryz.func183,Tryz.ntmps183
  go_wp2_with fail
  all_goals
   go_ret
   exact⟨by rw[HF.out];rfl,Below.refl _ _⟩
 ·have HLM:=Hq hlm
  obtain⟨n,hn'⟩:=ex l.length
  rw[← hlm,← hn']
  rw[← hn']at hn
  have HNL:=Hq hn'
  clear hlm hn'
  go_enter Tryz.func183,Tryz.ntmps183
  go_wp2_with fail
  go_loopw [13] (fun i wr=>∃ k:Nat,k≤n∧i= .int .i64 k∧(∀ j (hj:j<l.length) (hj':j<m.length),j<k→l[j]=m[j])∧Below w.heap.size w wr) (fun i _=>n-(intOf i).toNat)
  case atStart=>exact⟨0,Nat.zero_le _,rfl,fun _ _ _ h=>absurd h (by omega),Below.refl _ _⟩
  case round=>
   obtain⟨k,hk,rfl,hall,hbw⟩:=hrel
   have HA:=Hq hall
   clear hall
   by_cases hlt:k<n
   ·have hl1:k<l.length:=by rw[← HNL.out];exact hlt
    have hl2:k<m.length:=by rw[← HLM.out];exact hl1
    obtain⟨b1,off,rfl,hc,hbl,hcell⟩:=read_at txC_len (HR.out.below hbw) hl1
    obtain⟨b2,off2,rfl,hc2,hbl2,hcell2⟩:=read_at txC_len (HR'.out.below hbw) hl2
    have q0:=hcell 0 _ rfl
    have r0:=hcell2 0 _ rfl
    have q1:=hcell 1 _ rfl
    have r1:=hcell2 1 _ rfl
    have q2:=hcell 2 _ rfl
    have r2:=hcell2 2 _ rfl
    have q3:=hcell 3 _ rfl
    have r3:=hcell2 3 _ rfl
    clear hcell hcell2
    simp only[Nat.add_zero]at q0 r0
    have HN:=Hq (show l[k]≠m[k]→b=false from fun h=>HB.out.trans (Rc.eq_no hl1 hl2 h))
    have HY:=Hq (show l[k]=m[k]→∀ j (hj:j<l.length) (hj':j<m.length),j<k+1→l[j]=m[j]from fun h j hj hj' hjk=>by
     rcases Nat.lt_or_eq_of_le (Nat.le_of_lt_succ hjk)with h1|h1
     ·exact HA.out j hj hj' h1
     ·subst h1;exact h)
    have HE:=Hq (fun W=>txn_equal l[k] m[k] W)
    clear hc hc2 HA
    generalize l[k]=x at q0 q1 q2 q3 HN HY HE
    generalize m[k]=y at r0 r1 r2 r3 HN HY HE
    have hi1:(0:Int)≤(k:Int):=by omega
    have hi2:(k:Int)<(n:Int):=by omega
    have hi3:decide (k<n)=true:=decide_eq_true hlt
    cases hd:decide (x=y)with
    |true=>
     have HY2:=Hq (HY.out (of_decide_eq_true hd))
     have heq:=HE.out
     rw[hd]at heq
     clear HN HY hd HE
     obtain⟨xfa,xfb,xfc,xfd⟩:=x
     obtain⟨yfa,yfb,yfc,yfd⟩:=y
     go_upto_region 6 with(fail)
     go_quiet (fail)
     go_wp2_with fail
     go_roundw
     case rel=>exact⟨k+1,by omega,by go_num,HY2.out,joinB hbw (drewB _ _)⟩
     case measure=>simp[intOf];omega
    |false=>
     have HN2:=Hq (HN.out (of_decide_eq_false hd))
     have heq:=HE.out
     rw[hd]at heq
     clear HN HY hd HE
     obtain⟨xfa,xfb,xfc,xfd⟩:=x
     obtain⟨yfa,yfb,yfc,yfd⟩:=y
     go_upto_region 6 with(fail)
     go_quiet (fail)
     go_wp2_with fail
     go_ret
     exact⟨by rw[HN2.out];rfl,joinB hbw (drewB _ _)⟩
   ·obtain rfl:k=n:=by omega
    have HE:=Hq (show b=true from HB.out.trans (Rc.eq_yes HLM.out fun j hj hj'=>HA.out j hj hj' (by rw[HNL.out];exact hj)))
    have hi3:decide (k<k)=false:=decide_eq_false (by omega)
    go_wp2_with fail
    go_ret
    exact⟨by rw[HE.out];rfl,hbw⟩
theorem index_dirty (l:List Rc.DirtyAt)(hn:l.length≤1048576)(A:Option Addr)(c:Nat)(w:World)(hr:DiR w A c l):
 Calls Tryz.prog 182 #[.slice A l.length c,.func (.func 126) #[] #[]] w (IdxOut (decide (∀ x∈l,Rc.dirtyR x)) w):=by
 have HR:=Hq hr
 have HO:=Hq (fun t W=>dirty_bad_any t W)
 obtain⟨b,hb⟩:=ex (decide (∀ x∈l,Rc.dirtyR x))
 rw[← hb]
 have HB:=Hq hb
 clear hr hb
 go_enter Tryz.func182,Tryz.ntmps182
 go_wp2_with fail
 go_loopw [8] (fun i wr=>∃ k:Nat,k≤l.length∧i= .int .i64 k∧(∀ j (hj:j<l.length),j<k→Rc.dirtyR l[j])∧Below w.heap.size w wr) (fun i _=>l.length-(intOf i).toNat)
 case atStart=>exact⟨0,Nat.zero_le _,rfl,fun _ _ h=>absurd h (by omega),Below.refl _ _⟩
 case round=>
  obtain⟨k,hk,rfl,hall,hbw⟩:=hrel
  have HA:=Hq hall
  clear hall
  by_cases hlt:k<l.length
  ·obtain⟨b',off,rfl,hc,hbl,hcell⟩:=read_at diC_len (HR.out.below hbw) hlt
   have q0:=hcell 0 _ rfl
   have q1:=hcell 1 _ rfl
   clear hcell
   simp only[Nat.add_zero]at q0
   have HN:=Hq (show ¬ Rc.dirtyR l[k]→b=false from fun h=>HB.out.trans (Rc.all_no _ hlt h))
   have HY:=Hq (show Rc.dirtyR l[k]→∀ j (hj:j<l.length),j<k+1→Rc.dirtyR l[j]from fun h j hj hjk=>by
    rcases Nat.lt_or_eq_of_le (Nat.le_of_lt_succ hjk)with h1|h1
    ·exact HA.out j hj h1
    ·subst h1;exact h)
   have HOk:=Hq (fun W=>HO.out l[k] W)
   generalize l[k]=x at q0 q1 HN HY HOk
   cases hd:decide (Rc.dirtyR x)with
   |true=>
    have HY2:=Hq (HY.out (of_decide_eq_true hd))
    rw[hd]at HOk
    clear HN HY hd
    obtain⟨fa,fb⟩:=x
    go_wp2_with ((go_at_call 126;(with_reducible refine(HOk.out _).mono ?_);rintro e w' ⟨rfl,hb2⟩))
    go_roundw
    case rel=>exact⟨k+1,by omega,by go_num,HY2.out,joinB hbw hb2⟩
    case measure=>simp[intOf];omega
   |false=>
    have HN2:=Hq (HN.out (of_decide_eq_false hd))
    rw[hd]at HOk
    clear HN HY hd
    obtain⟨fa,fb⟩:=x
    go_wp2_with ((go_at_call 126;(with_reducible refine(HOk.out _).mono ?_);rintro e w' ⟨rfl,hb2⟩))
    go_ret
    exact⟨k,rfl,by rw[HN2.out];simp,joinB hbw hb2⟩
  ·obtain rfl:k=l.length:=by omega
   have HE:=Hq (show b=true from HB.out.trans (Rc.all_yes _ fun j hj=>HA.out j hj hj))
   go_wp2_with fail
   go_ret
   exact⟨-1,rfl,by rw[HE.out];rfl,hbw⟩
theorem contains_dirty (l:List Rc.DirtyAt)(hn:l.length≤1048576)(A:Option Addr)(c:Nat)(w:World)(hr:DiR w A c l):
 Calls Tryz.prog 125 #[.slice A l.length c,.func (.func 126) #[] #[]] w fun e w'=>e= .returned (.bool (!decide (∀ x∈l,Rc.dirtyR x)))∧Below w.heap.size w w':=by
 have HI:=Hq (index_dirty l hn A c w hr)
 clear hr
 generalize decide (∀ x∈l,Rc.dirtyR x)=b at HI ⊢
 cases b with
 |true=>
  go_enter Tryz.func125,Tryz.ntmps125
  go_wp2_with ((go_at_call 182;refine(HI.out).mono ?_;rintro e w' ⟨k,rfl,hk,hb⟩;obtain rfl:k= -1:=hk))
  go_ret
  exact⟨rfl,hb⟩
 |false=>
  go_enter Tryz.func125,Tryz.ntmps125
  go_wp2_with ((go_at_call 182;refine(HI.out).mono ?_;rintro e w' ⟨k,rfl,hk,hb⟩;have hk0:0≤k:=by simpa using hk))
  go_ret
  exact⟨by simp[*],hb⟩
theorem equal_dirty (l m:List Rc.DirtyAt)(hn:l.length≤140737488355328)(_hm:m.length≤140737488355328)(A A':Option Addr)(c c':Nat)(w:World)(hr:DiR w A c l)(hr':DiR w A' c' m):
 Calls Tryz.prog 184 #[.slice A l.length c,.slice A' m.length c'] w fun e w'=>e= .returned (.bool (decide (l=m)))∧Below w.heap.size w w':=by
 have HR:=Hq hr
 have HR':=Hq hr'
 obtain⟨b,hb⟩:=ex (decide (l=m))
 rw[← hb]
 have HB:=Hq hb
 clear hr hr' hb
 by_cases hlm:l.length=m.length
 rotate_left
 ·have hne:((l.length:Int)==(m.length:Int))=false:=by simp;omega
  have hne2:((l.length:Int) != (m.length:Int))=true:=by simp;omega
  have hne3:(l.length==m.length)=false:=by simpa using hlm
  have hne4:(l.length != m.length)=true:=by simpa using hlm
  have HF:=Hq (HB.out.trans (decide_eq_false (fun e=>hlm (by rw[e]))))
  go_enter Tryz.func184,Tryz.ntmps184
  go_wp2_with fail
  all_goals
   go_ret
   exact⟨by rw[HF.out];rfl,Below.refl _ _⟩
 ·have HLM:=Hq hlm
  obtain⟨n,hn'⟩:=ex l.length
  rw[← hlm,← hn']
  rw[← hn']at hn
  have HNL:=Hq hn'
  clear hlm hn'
  go_enter Tryz.func184,Tryz.ntmps184
  go_wp2_with fail
  go_loopw [13] (fun i wr=>∃ k:Nat,k≤n∧i= .int .i64 k∧(∀ j (hj:j<l.length) (hj':j<m.length),j<k→l[j]=m[j])∧Below w.heap.size w wr) (fun i _=>n-(intOf i).toNat)
  case atStart=>exact⟨0,Nat.zero_le _,rfl,fun _ _ _ h=>absurd h (by omega),Below.refl _ _⟩
  case round=>
   obtain⟨k,hk,rfl,hall,hbw⟩:=hrel
   have HA:=Hq hall
   clear hall
   by_cases hlt:k<n
   ·have hl1:k<l.length:=by rw[← HNL.out];exact hlt
    have hl2:k<m.length:=by rw[← HLM.out];exact hl1
    obtain⟨b1,off,rfl,hc,hbl,hcell⟩:=read_at diC_len (HR.out.below hbw) hl1
    obtain⟨b2,off2,rfl,hc2,hbl2,hcell2⟩:=read_at diC_len (HR'.out.below hbw) hl2
    have q0:=hcell 0 _ rfl
    have r0:=hcell2 0 _ rfl
    have q1:=hcell 1 _ rfl
    have r1:=hcell2 1 _ rfl
    clear hcell hcell2
    simp only[Nat.add_zero]at q0 r0
    have HN:=Hq (show l[k]≠m[k]→b=false from fun h=>HB.out.trans (Rc.eq_no hl1 hl2 h))
    have HY:=Hq (show l[k]=m[k]→∀ j (hj:j<l.length) (hj':j<m.length),j<k+1→l[j]=m[j]from fun h j hj hj' hjk=>by
     rcases Nat.lt_or_eq_of_le (Nat.le_of_lt_succ hjk)with h1|h1
     ·exact HA.out j hj hj' h1
     ·subst h1;exact h)
    have HE:=Hq (fun W=>dirty_equal l[k] m[k] W)
    clear hc hc2 HA
    generalize l[k]=x at q0 q1 HN HY HE
    generalize m[k]=y at r0 r1 HN HY HE
    have hi1:(0:Int)≤(k:Int):=by omega
    have hi2:(k:Int)<(n:Int):=by omega
    have hi3:decide (k<n)=true:=decide_eq_true hlt
    cases hd:decide (x=y)with
    |true=>
     have HY2:=Hq (HY.out (of_decide_eq_true hd))
     have heq:=HE.out
     rw[hd]at heq
     clear HN HY hd HE
     obtain⟨xfa,xfb⟩:=x
     obtain⟨yfa,yfb⟩:=y
     go_upto_region 6 with(fail)
     go_quiet (fail)
     go_wp2_with fail
     go_roundw
     case rel=>exact⟨k+1,by omega,by go_num,HY2.out,joinB hbw (drewB _ _)⟩
     case measure=>simp[intOf];omega
    |false=>
     have HN2:=Hq (HN.out (of_decide_eq_false hd))
     have heq:=HE.out
     rw[hd]at heq
     clear HN HY hd HE
     obtain⟨xfa,xfb⟩:=x
     obtain⟨yfa,yfb⟩:=y
     go_upto_region 6 with(fail)
     go_quiet (fail)
     go_wp2_with fail
     go_ret
     exact⟨by rw[HN2.out];rfl,joinB hbw (drewB _ _)⟩
   ·obtain rfl:k=n:=by omega
    have HE:=Hq (show b=true from HB.out.trans (Rc.eq_yes HLM.out fun j hj hj'=>HA.out j hj hj' (by rw[HNL.out];exact hj)))
    have hi3:decide (k<k)=false:=decide_eq_false (by omega)
    go_wp2_with fail
    go_ret
    exact⟨by rw[HE.out];rfl,hbw⟩
theorem rsame_txn (l m:List Rc.TxnAt)(hn:l.length≤140737488355328)(_hm:m.length≤140737488355328)(A A':Option Addr)(c c':Nat)(w:World)(hr:TxR w A c l)(hr':TxR w A' c' m):
 Calls Tryz.prog 16 #[.slice A l.length c,.slice A' m.length c'] w fun e w'=>e= .returned (.bool (decide (l=m)))∧Below w.heap.size w w':=by
 have HR:=Hq hr
 have HR':=Hq hr'
 obtain⟨b,hb⟩:=ex (decide (l=m))
 rw[← hb]
 have HB:=Hq hb
 clear hr hr' hb
 go_enter Tryz.func16,Tryz.ntmps16
 go_wp2_with fail
 go_loopw [5] (fun i wr=>∃ k:Nat,k≤l.length∧k≤m.length∧i= .int .i64 k∧(∀ j (hj:j<l.length) (hj':j<m.length),j<k→l[j]=m[j])∧Below w.heap.size w wr) (fun i _=>l.length-(intOf i).toNat)
 case atStart=>exact⟨0,Nat.zero_le _,Nat.zero_le _,rfl,fun _ _ _ h=>absurd h (by omega),Below.refl _ _⟩
 case round=>
  obtain⟨k,hk,hkm,rfl,hall,hbw⟩:=hrel
  have HA:=Hq hall
  clear hall
  by_cases hl1:k<l.length
  ·have hi3:decide (k<l.length)=true:=decide_eq_true hl1
   by_cases hl2:k<m.length
   ·have hi4:decide (k<m.length)=true:=decide_eq_true hl2
    obtain⟨b1,off,rfl,hc,hbl,hcell⟩:=read_at txC_len (HR.out.below hbw) hl1
    obtain⟨b2,off2,rfl,hc2,hbl2,hcell2⟩:=read_at txC_len (HR'.out.below hbw) hl2
    have q0:=hcell 0 _ rfl
    have r0:=hcell2 0 _ rfl
    have q1:=hcell 1 _ rfl
    have r1:=hcell2 1 _ rfl
    have q2:=hcell 2 _ rfl
    have r2:=hcell2 2 _ rfl
    have q3:=hcell 3 _ rfl
    have r3:=hcell2 3 _ rfl
    clear hcell hcell2
    simp only[Nat.add_zero]at q0 r0
    have HN:=Hq (show l[k]≠m[k]→b=false from fun h=>HB.out.trans (Rc.eq_no hl1 hl2 h))
    have HY:=Hq (show l[k]=m[k]→∀ j (hj:j<l.length) (hj':j<m.length),j<k+1→l[j]=m[j]from fun h j hj hj' hjk=>by
     rcases Nat.lt_or_eq_of_le (Nat.le_of_lt_succ hjk)with h1|h1
     ·exact HA.out j hj hj' h1
     ·subst h1;exact h)
    have HE:=Hq (fun W=>txn_equal l[k] m[k] W)
    clear hc hc2 HA
    generalize l[k]=x at q0 q1 q2 q3 HN HY HE
    generalize m[k]=y at r0 r1 r2 r3 HN HY HE
    have hj1:(0:Int)≤(k:Int):=by omega
    have hj2:(k:Int)<(l.length:Int):=by omega
    have hj3:(k:Int)<(m.length:Int):=by omega
    cases hd:decide (x=y)with
    |true=>
     have HY2:=Hq (HY.out (of_decide_eq_true hd))
     have heq:=HE.out
     rw[hd]at heq
     clear HN HY hd HE
     obtain⟨xfa,xfb,xfc,xfd⟩:=x
     obtain⟨yfa,yfb,yfc,yfd⟩:=y
     go_upto_region 4 with(fail)
     go_quiet (fail)
     go_wp2_with fail
     go_roundw
     case rel=>exact⟨k+1,by omega,by omega,by go_num,HY2.out,joinB hbw (drewB _ _)⟩
     case measure=>simp[intOf];omega
    |false=>
     have HN2:=Hq (HN.out (of_decide_eq_false hd))
     have heq:=HE.out
     rw[hd]at heq
     clear HN HY hd HE
     obtain⟨xfa,xfb,xfc,xfd⟩:=x
     obtain⟨yfa,yfb,yfc,yfd⟩:=y
     go_upto_region 4 with(fail)
     go_quiet (fail)
     go_wp2_with fail
     go_ret
     exact⟨by rw[HN2.out];rfl,joinB hbw (drewB _ _)⟩
   ·have hi4:decide (k<m.length)=false:=decide_eq_false hl2
    have hne3:(l.length==m.length)=false:=by simp;omega
    have hne4:((l.length:Int)==(m.length:Int))=false:=by simp;omega
    have HN2:=Hq (HB.out.trans (decide_eq_false (fun e=>by rw[e]at hl1;exact hl2 hl1)))
    go_wp2_with fail
    go_ret
    exact⟨by rw[HN2.out];simp;try omega,hbw⟩
  ·have hi3:decide (k<l.length)=false:=decide_eq_false hl1
   obtain rfl:k=l.length:=by omega
   by_cases hlm:l.length=m.length
   ·have HE:=Hq (show b=true from HB.out.trans (Rc.eq_yes hlm fun j hj hj'=>HA.out j hj hj' hj))
    have hne3:(l.length==m.length)=true:=by simp[hlm]
    have hne4:((l.length:Int)==(m.length:Int))=true:=by simp[hlm]
    have HLM:=Hq hlm
    clear hlm
    go_wp2_with fail
    go_ret
    exact⟨by rw[HE.out];have hlm:=HLM.out;simp[hlm],hbw⟩
   ·have hne3:(l.length==m.length)=false:=by simp;omega
    have hne4:((l.length:Int)==(m.length:Int))=false:=by simp;omega
    have HN2:=Hq (HB.out.trans (decide_eq_false (fun e=>hlm (by rw[e]))))
    go_wp2_with fail
    go_ret
    exact⟨by rw[HN2.out];simp;try omega,hbw⟩
theorem rsame_dirty (l m:List Rc.DirtyAt)(hn:l.length≤140737488355328)(_hm:m.length≤140737488355328)(A A':Option Addr)(c c':Nat)(w:World)(hr:DiR w A c l)(hr':DiR w A' c' m):
 Calls Tryz.prog 17 #[.slice A l.length c,.slice A' m.length c'] w fun e w'=>e= .returned (.bool (decide (l=m)))∧Below w.heap.size w w':=by
 have HR:=Hq hr
 have HR':=Hq hr'
 obtain⟨b,hb⟩:=ex (decide (l=m))
 rw[← hb]
 have HB:=Hq hb
 clear hr hr' hb
 go_enter Tryz.func17,Tryz.ntmps17
 go_wp2_with fail
 go_loopw [5] (fun i wr=>∃ k:Nat,k≤l.length∧k≤m.length∧i= .int .i64 k∧(∀ j (hj:j<l.length) (hj':j<m.length),j<k→l[j]=m[j])∧Below w.heap.size w wr) (fun i _=>l.length-(intOf i).toNat)
 case atStart=>exact⟨0,Nat.zero_le _,Nat.zero_le _,rfl,fun _ _ _ h=>absurd h (by omega),Below.refl _ _⟩
 case round=>
  obtain⟨k,hk,hkm,rfl,hall,hbw⟩:=hrel
  have HA:=Hq hall
  clear hall
  by_cases hl1:k<l.length
  ·have hi3:decide (k<l.length)=true:=decide_eq_true hl1
   by_cases hl2:k<m.length
   ·have hi4:decide (k<m.length)=true:=decide_eq_true hl2
    obtain⟨b1,off,rfl,hc,hbl,hcell⟩:=read_at diC_len (HR.out.below hbw) hl1
    obtain⟨b2,off2,rfl,hc2,hbl2,hcell2⟩:=read_at diC_len (HR'.out.below hbw) hl2
    have q0:=hcell 0 _ rfl
    have r0:=hcell2 0 _ rfl
    have q1:=hcell 1 _ rfl
    have r1:=hcell2 1 _ rfl
    clear hcell hcell2
    simp only[Nat.add_zero]at q0 r0
    have HN:=Hq (show l[k]≠m[k]→b=false from fun h=>HB.out.trans (Rc.eq_no hl1 hl2 h))
    have HY:=Hq (show l[k]=m[k]→∀ j (hj:j<l.length) (hj':j<m.length),j<k+1→l[j]=m[j]from fun h j hj hj' hjk=>by
     rcases Nat.lt_or_eq_of_le (Nat.le_of_lt_succ hjk)with h1|h1
     ·exact HA.out j hj hj' h1
     ·subst h1;exact h)
    have HE:=Hq (fun W=>dirty_equal l[k] m[k] W)
    clear hc hc2 HA
    generalize l[k]=x at q0 q1 HN HY HE
    generalize m[k]=y at r0 r1 HN HY HE
    have hj1:(0:Int)≤(k:Int):=by omega
    have hj2:(k:Int)<(l.length:Int):=by omega
    have hj3:(k:Int)<(m.length:Int):=by omega
    cases hd:decide (x=y)with
    |true=>
     have HY2:=Hq (HY.out (of_decide_eq_true hd))
     have heq:=HE.out
     rw[hd]at heq
     clear HN HY hd HE
     obtain⟨xfa,xfb⟩:=x
     obtain⟨yfa,yfb⟩:=y
     go_upto_region 4 with(fail)
     go_quiet (fail)
     go_wp2_with fail
     go_roundw
     case rel=>exact⟨k+1,by omega,by omega,by go_num,HY2.out,joinB hbw (drewB _ _)⟩
     case measure=>simp[intOf];omega
    |false=>
     have HN2:=Hq (HN.out (of_decide_eq_false hd))
     have heq:=HE.out
     rw[hd]at heq
     clear HN HY hd HE
     obtain⟨xfa,xfb⟩:=x
     obtain⟨yfa,yfb⟩:=y
     go_upto_region 4 with(fail)
     go_quiet (fail)
     go_wp2_with fail
     go_ret
     exact⟨by rw[HN2.out];rfl,joinB hbw (drewB _ _)⟩
   ·have hi4:decide (k<m.length)=false:=decide_eq_false hl2
    have hne3:(l.length==m.length)=false:=by simp;omega
    have hne4:((l.length:Int)==(m.length:Int))=false:=by simp;omega
    have HN2:=Hq (HB.out.trans (decide_eq_false (fun e=>by rw[e]at hl1;exact hl2 hl1)))
    go_wp2_with fail
    go_ret
    exact⟨by rw[HN2.out];simp;try omega,hbw⟩
  ·have hi3:decide (k<l.length)=false:=decide_eq_false hl1
   obtain rfl:k=l.length:=by omega
   by_cases hlm:l.length=m.length
   ·have HE:=Hq (show b=true from HB.out.trans (Rc.eq_yes hlm fun j hj hj'=>HA.out j hj hj' hj))
    have hne3:(l.length==m.length)=true:=by simp[hlm]
    have hne4:((l.length:Int)==(m.length:Int))=true:=by simp[hlm]
    have HLM:=Hq hlm
    clear hlm
    go_wp2_with fail
    go_ret
    exact⟨by rw[HE.out];have hlm:=HLM.out;simp[hlm],hbw⟩
   ·have hne3:(l.length==m.length)=false:=by simp;omega
    have hne4:((l.length:Int)==(m.length:Int))=false:=by simp;omega
    have HN2:=Hq (HB.out.trans (decide_eq_false (fun e=>hlm (by rw[e]))))
    go_wp2_with fail
    go_ret
    exact⟨by rw[HN2.out];simp;try omega,hbw⟩
end Go.Proofs.YtilakddepaplhaaGreat
namespace Rc
instance:DecidableEq Rec:=fun a b=>
 if h:a.lsn=b.lsn∧a.prev=b.prev∧a.txn=b.txn∧a.kind=b.kind∧a.page=b.page∧a.next=b.next∧a.num=b.num∧a.op=b.op∧a.how=b.how∧a.root=b.root∧a.e=b.e∧a.txns=b.txns∧a.dirty=b.dirty then
  .isTrue (by
   obtain⟨a1,a2,a3,a4,a5,a6,a7,a8,a9,a10,a11,a12,a13⟩:=a
   obtain⟨b1,b2,b3,b4,b5,b6,b7,b8,b9,b10,b11,b12,b13⟩:=b
   simp only at h
   obtain⟨rfl,rfl,rfl,rfl,rfl,rfl,rfl,rfl,rfl,rfl,rfl,rfl,rfl⟩:=h
   rfl)
 else .isFalse (fun e=>h (by subst e;exact⟨rfl,rfl,rfl,rfl,rfl,rfl,rfl,rfl,rfl,rfl,rfl,rfl,rfl⟩))
end Rc
namespace Go.Proofs.YtilakddepaplhaaGreat
open Go.RowKit
theorem new21 (w:World)(o1 o2:Obj):((w.alloc o1).alloc o2).heap[w.heap.size]? =some o1:=by
 rw[Below.heap_alloc _ _ _ (by simp)];exact heap_alloc_new w o1
structure RecR (w:World) (r:Rc.Rec) (A:Option Addr) (c:Nat) (B:Option Addr) (d:Nat):Prop where
 txns:TxR w A c r.txns
 dirty:DiR w B d r.dirty
 small:r.txns.length≤140737488355328∧r.dirty.length≤140737488355328
theorem RecR.below {w w':World}{r:Rc.Rec}{A:Option Addr}{c:Nat}{B:Option Addr}{d:Nat}(h:RecR w r A c B d)(hb:Below w.heap.size w w'):RecR w' r A c B d:=⟨h.txns.below hb,h.dirty.below hb,h.small⟩
theorem same_any (r s:Rc.Rec)(A A' B B':Option Addr)(c c' d d':Nat)(w:World)(hr:RecR w r A c B d)(hs:RecR w s A' c' B' d'):
 Calls Tryz.prog 127 #[recV r (.slice A r.txns.length c) (.slice B r.dirty.length d),recV s (.slice A' s.txns.length c') (.slice B' s.dirty.length d')] w fun e w'=>e= .returned (.bool (decide (r=s)))∧Below w.heap.size w w':=by
 have HT:=Hq (fun W hb=>equal_txn r.txns s.txns hr.small.1 hs.small.1 A A' c c' W (hr.txns.below hb) (hs.txns.below hb))
 have HD:=Hq (fun W hb=>equal_dirty r.dirty s.dirty hr.small.2 hs.small.2 B B' d d' W (hr.dirty.below hb) (hs.dirty.below hb))
 have ht1:=hr.small.1
 have ht2:=hs.small.1
 have hd1:=hr.small.2
 have hd2:=hs.small.2
 have HO:=Hq (fun W=>op_equal r.op s.op W)
 have HK:=Hq (fun W=>key_equal r.e s.e W)
 clear hr hs
 obtain⟨rls,rpr,rtx,rki,rpa,rne,rnu,rop,rho,rro,rek,rts,rds⟩:=r
 obtain⟨sls,spr,stx,ski,spa,sne,snu,sop,sho,sro,sek,sts,sds⟩:=s
 simp only at HT HD HO HK ht1 ht2 hd1 hd2 ⊢
 by_cases hls:rls=sls
 rotate_left
 ·rw[decide_eq_false (fun e=>hls (congrArg Rc.Rec.lsn e))]
  have nls:(rls==sls)=false:=by simp[hls]
  have mls:(rls != sls)=true:=by simp[hls]
  clear hls
  obtain⟨rk,rs,rx,ry⟩:=rop
  obtain⟨sk,ss,sx,sy⟩:=sop
  obtain⟨rek1,rek2,rek3⟩:=rek
  obtain⟨sek1,sek2,sek3⟩:=sek
  go_enter Tryz.func127,Tryz.ntmps127
  go_wp2_with fail
  go_ret
  exact⟨by simp,pastAlloc (allocB _ _)⟩
 subst hls
 by_cases hpr:rpr=spr
 rotate_left
 ·rw[decide_eq_false (fun e=>hpr (congrArg Rc.Rec.prev e))]
  have npr:(rpr==spr)=false:=by simp[hpr]
  have mpr:(rpr != spr)=true:=by simp[hpr]
  clear hpr
  obtain⟨rk,rs,rx,ry⟩:=rop
  obtain⟨sk,ss,sx,sy⟩:=sop
  obtain⟨rek1,rek2,rek3⟩:=rek
  obtain⟨sek1,sek2,sek3⟩:=sek
  go_enter Tryz.func127,Tryz.ntmps127
  go_wp2_with fail
  go_ret
  exact⟨by simp,pastAlloc (allocB _ _)⟩
 subst hpr
 by_cases htx:rtx=stx
 rotate_left
 ·rw[decide_eq_false (fun e=>htx (congrArg Rc.Rec.txn e))]
  have ntx:(rtx==stx)=false:=by simp[htx]
  have mtx:(rtx != stx)=true:=by simp[htx]
  clear htx
  obtain⟨rk,rs,rx,ry⟩:=rop
  obtain⟨sk,ss,sx,sy⟩:=sop
  obtain⟨rek1,rek2,rek3⟩:=rek
  obtain⟨sek1,sek2,sek3⟩:=sek
  go_enter Tryz.func127,Tryz.ntmps127
  go_wp2_with fail
  go_ret
  exact⟨by simp,pastAlloc (allocB _ _)⟩
 subst htx
 by_cases hki:rki=ski
 rotate_left
 ·rw[decide_eq_false (fun e=>hki (congrArg Rc.Rec.kind e))]
  have nki:(rki==ski)=false:=by simp[hki]
  have mki:(rki != ski)=true:=by simp[hki]
  clear hki
  obtain⟨rk,rs,rx,ry⟩:=rop
  obtain⟨sk,ss,sx,sy⟩:=sop
  obtain⟨rek1,rek2,rek3⟩:=rek
  obtain⟨sek1,sek2,sek3⟩:=sek
  go_enter Tryz.func127,Tryz.ntmps127
  go_wp2_with fail
  go_ret
  exact⟨by simp,pastAlloc (allocB _ _)⟩
 subst hki
 by_cases hpa:rpa=spa
 rotate_left
 ·rw[decide_eq_false (fun e=>hpa (congrArg Rc.Rec.page e))]
  have npa:(rpa==spa)=false:=by simp[hpa]
  have mpa:(rpa != spa)=true:=by simp[hpa]
  clear hpa
  obtain⟨rk,rs,rx,ry⟩:=rop
  obtain⟨sk,ss,sx,sy⟩:=sop
  obtain⟨rek1,rek2,rek3⟩:=rek
  obtain⟨sek1,sek2,sek3⟩:=sek
  go_enter Tryz.func127,Tryz.ntmps127
  go_wp2_with fail
  go_ret
  exact⟨by simp,pastAlloc (allocB _ _)⟩
 subst hpa
 by_cases hne:rne=sne
 rotate_left
 ·rw[decide_eq_false (fun e=>hne (congrArg Rc.Rec.next e))]
  have nne:(rne==sne)=false:=by simp[hne]
  have mne:(rne != sne)=true:=by simp[hne]
  clear hne
  obtain⟨rk,rs,rx,ry⟩:=rop
  obtain⟨sk,ss,sx,sy⟩:=sop
  obtain⟨rek1,rek2,rek3⟩:=rek
  obtain⟨sek1,sek2,sek3⟩:=sek
  go_enter Tryz.func127,Tryz.ntmps127
  go_wp2_with fail
  go_ret
  exact⟨by simp,pastAlloc (allocB _ _)⟩
 subst hne
 by_cases hnu:rnu=snu
 rotate_left
 ·rw[decide_eq_false (fun e=>hnu (congrArg Rc.Rec.num e))]
  have nnu:(rnu==snu)=false:=by simp[hnu]
  have mnu:(rnu != snu)=true:=by simp[hnu]
  clear hnu
  obtain⟨rk,rs,rx,ry⟩:=rop
  obtain⟨sk,ss,sx,sy⟩:=sop
  obtain⟨rek1,rek2,rek3⟩:=rek
  obtain⟨sek1,sek2,sek3⟩:=sek
  go_enter Tryz.func127,Tryz.ntmps127
  go_wp2_with fail
  go_ret
  exact⟨by simp,pastAlloc (allocB _ _)⟩
 subst hnu
 cases hop:decide (rop=sop)with
 |false=>
  rw[decide_eq_false (fun e=>of_decide_eq_false hop (congrArg Rc.Rec.op e))]
  have eop:=HO.out
  rw[hop]at eop
  clear hop
  obtain⟨rk,rs,rx,ry⟩:=rop
  obtain⟨sk,ss,sx,sy⟩:=sop
  obtain⟨rek1,rek2,rek3⟩:=rek
  obtain⟨sek1,sek2,sek3⟩:=sek
  go_enter Tryz.func127,Tryz.ntmps127
  go_wp2_with fail
  go_ret
  exact⟨by simp,pastAlloc (allocB _ _)⟩
 |true=>
 have eop:=HO.out
 rw[hop]at eop
 have Dop:=Hq (of_decide_eq_true hop)
 clear hop HO
 by_cases hho:rho=sho
 rotate_left
 ·rw[decide_eq_false (fun e=>hho (congrArg Rc.Rec.how e))]
  have nho:(rho==sho)=false:=by simp[hho]
  have mho:(rho != sho)=true:=by simp[hho]
  clear hho
  obtain⟨rk,rs,rx,ry⟩:=rop
  obtain⟨sk,ss,sx,sy⟩:=sop
  obtain⟨rek1,rek2,rek3⟩:=rek
  obtain⟨sek1,sek2,sek3⟩:=sek
  go_enter Tryz.func127,Tryz.ntmps127
  go_wp2_with fail
  go_ret
  exact⟨by simp,pastAlloc (allocB _ _)⟩
 subst hho
 by_cases hro:rro=sro
 rotate_left
 ·rw[decide_eq_false (fun e=>hro (congrArg Rc.Rec.root e))]
  have nro:(rro==sro)=false:=by simp[hro]
  have mro:(rro != sro)=true:=by simp[hro]
  clear hro
  obtain⟨rk,rs,rx,ry⟩:=rop
  obtain⟨sk,ss,sx,sy⟩:=sop
  obtain⟨rek1,rek2,rek3⟩:=rek
  obtain⟨sek1,sek2,sek3⟩:=sek
  go_enter Tryz.func127,Tryz.ntmps127
  go_wp2_with fail
  go_ret
  exact⟨by simp,pastAlloc (allocB _ _)⟩
 subst hro
 cases hek:decide (rek=sek)with
 |false=>
  rw[decide_eq_false (fun e=>of_decide_eq_false hek (congrArg Rc.Rec.e e))]
  have eek:=HK.out
  rw[hek]at eek
  clear hek
  obtain⟨rk,rs,rx,ry⟩:=rop
  obtain⟨sk,ss,sx,sy⟩:=sop
  obtain⟨rek1,rek2,rek3⟩:=rek
  obtain⟨sek1,sek2,sek3⟩:=sek
  go_enter Tryz.func127,Tryz.ntmps127
  go_wp2_with fail
  go_ret
  exact⟨by simp,pastAlloc (allocB _ _)⟩
 |true=>
 have eek:=HK.out
 rw[hek]at eek
 have Dek:=Hq (of_decide_eq_true hek)
 clear hek HK
 cases hts':decide (rts=sts)with
 |false=>
  have Dts:=Hq hts'
  rw[decide_eq_false (fun e=>of_decide_eq_false hts' (congrArg Rc.Rec.txns e))]
  clear hts'
  obtain⟨rk,rs,rx,ry⟩:=rop
  obtain⟨sk,ss,sx,sy⟩:=sop
  obtain⟨rek1,rek2,rek3⟩:=rek
  obtain⟨sek1,sek2,sek3⟩:=sek
  go_enter Tryz.func127,Tryz.ntmps127
  go_wp2_with (first|(go_at_call 183;(with_reducible refine(HT.out _ ?_).mono ?_);(exact pastAlloc (allocB _ _));rintro e w2 ⟨rfl,hb2⟩;have hx1:=blkOld (new21 _ _ _) hb2;have hx2:=blkOld (new2 _ _ _) hb2;have q1:=blkCell hx1 17;have q2:=blkCell hx2 17;clear hx1 hx2;simp at q1 q2;rw[Dts.out]))
  go_ret
  exact⟨by simp,joinB (pastAlloc (allocB _ _)) hb2⟩
 |true=>
 have Bts:=Hq hts'
 have Dts:=Hq (of_decide_eq_true hts')
 clear hts'
 cases hds':decide (rds=sds)with
 |false=>
  have Dds:=Hq hds'
  rw[decide_eq_false (fun e=>of_decide_eq_false hds' (congrArg Rc.Rec.dirty e))]
  clear hds'
  obtain⟨rk,rs,rx,ry⟩:=rop
  obtain⟨sk,ss,sx,sy⟩:=sop
  obtain⟨rek1,rek2,rek3⟩:=rek
  obtain⟨sek1,sek2,sek3⟩:=sek
  go_enter Tryz.func127,Tryz.ntmps127
  go_wp2_with (first|(go_at_call 183;(with_reducible refine(HT.out _ ?_).mono ?_);(exact pastAlloc (allocB _ _));rintro e w2 ⟨rfl,hb2⟩;have hx1:=blkOld (new21 _ _ _) hb2;have hx2:=blkOld (new2 _ _ _) hb2;have q1:=blkCell hx1 17;have q2:=blkCell hx2 17;clear hx1 hx2;simp at q1 q2;rw[Bts.out])|(go_at_call 184;(with_reducible refine(HD.out _ ?_).mono ?_);(exact joinB (pastAlloc (allocB _ _)) hb2);rintro e w3 ⟨rfl,hb3⟩;rw[Dds.out]))
  go_ret
  exact⟨by simp,joinB (joinB (pastAlloc (allocB _ _)) hb2) hb3⟩
 |true=>
 have Bds:=Hq hds'
 have Dds:=Hq (of_decide_eq_true hds')
 clear hds'
 rw[decide_eq_true (by rw[Dop.out,Dek.out,Dts.out,Dds.out])]
 clear Dop Dek Dts Dds
 obtain⟨rk,rs,rx,ry⟩:=rop
 obtain⟨sk,ss,sx,sy⟩:=sop
 obtain⟨rek1,rek2,rek3⟩:=rek
 obtain⟨sek1,sek2,sek3⟩:=sek
 go_enter Tryz.func127,Tryz.ntmps127
 go_wp2_with (first|(go_at_call 183;(with_reducible refine(HT.out _ ?_).mono ?_);(exact pastAlloc (allocB _ _));rintro e w2 ⟨rfl,hb2⟩;have hx1:=blkOld (new21 _ _ _) hb2;have hx2:=blkOld (new2 _ _ _) hb2;have q1:=blkCell hx1 17;have q2:=blkCell hx2 17;clear hx1 hx2;simp at q1 q2;rw[Bts.out])|(go_at_call 184;(with_reducible refine(HD.out _ ?_).mono ?_);(exact joinB (pastAlloc (allocB _ _)) hb2);rintro e w3 ⟨rfl,hb3⟩;rw[Bds.out]))
 go_ret
 exact⟨by simp,joinB (joinB (pastAlloc (allocB _ _)) hb2) hb3⟩
end Go.Proofs.YtilakddepaplhaaGreat
