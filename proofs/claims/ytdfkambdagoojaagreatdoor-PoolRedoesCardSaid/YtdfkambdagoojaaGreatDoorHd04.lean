import Derived.Test.YtdfkambdagoojaaGreatDoorHd00
import Derived.Test.YtdfkambdagoojaaGreatDoorHd01
set_option maxRecDepth 100000
set_option maxHeartbeats 16000000
set_option linter.unusedSimpArgs false
namespace Rc
structure Op where
 kind:Int
 slot:Int
 A5:ByteArray
 new:ByteArray
structure Cw where
 txn:Int
 last:Int
 next:Int
 done:Bool
structure Cx where
 Ab:Int
 from_:Int
structure Key where
 key:ByteArray
 Ab:Int
 slot:Int
structure Rec where
 lsn:Int
 prev:Int
 txn:Int
 kind:Int
 Ab:Int
 next:Int
 num:Int
 op:Op
 how:Int
 root:Int
 e:Key
 txns:List Cw
 dirty:List Cx
def K9:Op:=⟨0,0,⟨#[]⟩,⟨#[]⟩⟩
def D6:Key:=⟨⟨#[]⟩,0,0⟩
def bare (kind lsn prev txn:Int):Rec:=⟨lsn,prev,txn,kind,0,0,0,K9,0,0,D6,[],[]⟩
def num (n:Int):Prop:=0≤n∧n<1099511627776
def pg (n:Int):Prop:=0≤n∧n<8388608
def sl (n:Int):Prop:=0≤n∧n<32768
def Jr (o:Op):Prop:=1≤o.kind∧o.kind≤7∧sl o.slot∧o.A5.size≤512∧o.new.size≤512
def F7 (r:Rec):Prop:=(r.how=1∧r.root=0∧r.e=D6)∨((r.how=2∨r.how=3)∧pg r.root∧pg r.e.Ab∧sl r.e.slot∧r.e.key.size≤100)
def Uj (t:Cw):Prop:=num t.txn∧num t.last∧num t.next
def Mp (d:Cx):Prop:=pg d.Ab∧num d.from_
def Kl (r:Rec):Prop:=r.txns.length≤1000∧r.dirty.length≤2000∧(∀ t∈r.txns,Uj t)∧∀ d∈r.dirty,Mp d
inductive Bz:Rec→Prop
 |small (kind lsn prev txn:Int) (hk:kind=1∨kind=5∨kind=6∨kind=7) (h1:num lsn) (h2:num prev) (h3:num txn):Bz (bare kind lsn prev txn)
 |change (lsn prev txn Ab:Int) (op:Op) (how root:Int) (e:Key) (h1:num lsn) (h2:num prev) (h3:num txn) (h4:pg Ab) (h5:Jr op)
   (h6:F7 ⟨lsn,prev,txn,2,Ab,0,0,op,how,root,e,[],[]⟩):Bz ⟨lsn,prev,txn,2,Ab,0,0,op,how,root,e,[],[]⟩
 |clr (lsn prev txn Ab:Int) (op:Op) (next:Int) (h1:num lsn) (h2:num prev) (h3:num txn) (h4:pg Ab) (h5:Jr op) (h6:num next):Bz ⟨lsn,prev,txn,3,Ab,next,0,op,0,0,D6,[],[]⟩
 |nest (lsn prev txn next:Int) (h1:num lsn) (h2:num prev) (h3:num txn) (h6:num next):Bz ⟨lsn,prev,txn,4,0,next,0,K9,0,0,D6,[],[]⟩
 |image (lsn prev txn Ab:Int) (op:Op) (h1:num lsn) (h2:num prev) (h3:num txn) (h4:pg Ab) (h5:Jr op):Bz ⟨lsn,prev,txn,8,Ab,0,0,op,0,0,D6,[],[]⟩
 |check (lsn prev txn n:Int) (ts:List Cw) (ds:List Cx) (h1:num lsn) (h2:num prev) (h3:num txn) (h4:num n)
   (h5:Kl ⟨lsn,prev,txn,9,0,0,n,K9,0,0,D6,ts,ds⟩):Bz ⟨lsn,prev,txn,9,0,0,n,K9,0,0,D6,ts,ds⟩
def p (n:Int)(k:Nat):List UInt8:=Oct.Bp (Oct.word n) k
def t (s:ByteArray):List UInt8:=p s.size 2++s.data.toList
def Np (o:Op):List UInt8:=p o.kind 1++(p o.slot 2++(t o.A5++t o.new))
def Mq (x:Cw):List UInt8:=p x.txn 6++(p x.last 6++(p x.next 6++p (if x.done then 1 else 0) 1))
def Iw (d:Cx):List UInt8:=p d.Ab 3++p d.from_ 6
def Hm (r:Rec):List UInt8:=p r.kind 1++(p r.lsn 6++(p r.prev 6++p r.txn 6))
def M5 (r:Rec):List UInt8:=if r.how=1 then[]else p r.root 3++(p r.e.Ab 3++(p r.e.slot 2++t r.e.key))
def Ia (r:Rec):List UInt8:=p r.num 6++(p r.txns.length 2++(r.txns.flatMap Mq++(p r.dirty.length 2++r.dirty.flatMap Iw)))
def Fm (r:Rec):List UInt8:=
 if r.kind=2 then p r.Ab 3++(Np r.op++(p r.how 1++M5 r))
 else if r.kind=3 then p r.Ab 3++(Np r.op++p r.next 6)
 else if r.kind=4 then p r.next 6
 else if r.kind=8 then p r.Ab 3++Np r.op
 else if r.kind=9 then Ia r
 else[]
theorem Ob {r:Rec}(h:r.kind=2):Fm r=p r.Ab 3++(Np r.op++(p r.how 1++M5 r)):=if_pos h
theorem P6 {r:Rec}(h:r.kind=3):Fm r=p r.Ab 3++(Np r.op++p r.next 6):=by unfold Fm;rw[if_neg (by omega),if_pos h]
theorem Tm {r:Rec}(h:r.kind=4):Fm r=p r.next 6:=by unfold Fm;rw[if_neg (by omega),if_neg (by omega),if_pos h]
theorem P7 {r:Rec}(h:r.kind=8):Fm r=p r.Ab 3++Np r.op:=by unfold Fm;rw[if_neg (by omega),if_neg (by omega),if_neg (by omega),if_pos h]
theorem Yn {r:Rec}(h:r.kind=9):Fm r=Ia r:=by unfold Fm;rw[if_neg (by omega),if_neg (by omega),if_neg (by omega),if_neg (by omega),if_pos h]
def Bl (r:Rec):List UInt8:=Hm r++Fm r
structure St where
 at_:Nat
 bad:Bool
def Bm (adv:Bool)(s:List UInt8)(a:St)(k:Nat):Int×St:=
 if a.at_+k≤s.length then((Oct.Bq s a.at_ k:Nat),⟨a.at_+k,a.bad⟩)else(0,⟨if adv then a.at_+k else a.at_,true⟩)
def Ib (s:List UInt8)(a:St):ByteArray×St:=
 if a.at_+2+Oct.Bq s a.at_ 2≤s.length then(⟨((s.drop (a.at_+2)).take (Oct.Bq s a.at_ 2)).toArray⟩,⟨a.at_+2+Oct.Bq s a.at_ 2,a.bad⟩)else(⟨#[]⟩,⟨a.at_,true⟩)
def Tb (adv:Bool)(s:List UInt8)(a:St):Op×St:=
 let x:=Bm adv s a 1
 let y:=Bm adv s x.2 2
 let u:=Ib s y.2
 let v:=Ib s u.2
 (⟨x.1,y.1,u.1,v.1⟩,v.2)
def Rf (adv:Bool)(s:List UInt8)(a:St):Cw×St:=
 let x:=Bm adv s a 6
 let y:=Bm adv s x.2 6
 let z:=Bm adv s y.2 6
 let d:=Bm adv s z.2 1
 (⟨x.1,y.1,z.1,d.1==1⟩,d.2)
def Ix (adv:Bool)(s:List UInt8)(a:St):Cx×St:=
 let x:=Bm adv s a 3
 let y:=Bm adv s x.2 6
 (⟨x.1,y.1⟩,y.2)
def Ha {α:Type}(one:St→α×St):Nat→St→List α×St
 |0,a=>([],a)
 |n+1,a=>if a.bad then([],a)else
  let x:=one a
  let l:=Ha one n x.2
  (x.1::l.1,l.2)
def Hb (adv:Bool)(s:List UInt8):Rec×St:=
 let k:=Bm adv s ⟨0,false⟩ 1
 let l:=Bm adv s k.2 6
 let pr:=Bm adv s l.2 6
 let tx:=Bm adv s pr.2 6
 (bare k.1 l.1 pr.1 tx.1,tx.2)
def Uk (adv:Bool)(s:List UInt8)(r:Rec)(a:St):Rec:=
 let h:=Bm adv s a 1
 if h.1=1 then{r with how:=h.1}else
  let ro:=Bm adv s h.2 3
  let pa:=Bm adv s ro.2 3
  let so:=Bm adv s pa.2 2
  let ke:=Ib s so.2
  {r with how:=h.1,root:=ro.1,e:=⟨ke.1,pa.1,so.1⟩}
def Mr (adv:Bool)(s:List UInt8)(r:Rec)(a:St):Rec:=
 let n:=Bm adv s a 6
 let c:=Bm adv s n.2 2
 let ts:=Ha (Rf adv s) c.1.toNat c.2
 let d:=Bm adv s ts.2 2
 let ds:=Ha (Ix adv s) d.1.toNat d.2
 {r with num:=n.1,txns:=ts.1,dirty:=ds.1}
def Gb (adv:Bool)(s:List UInt8)(r:Rec)(a:St):Rec:=
 if r.kind=2 then
  let pa:=Bm adv s a 3
  let o:=Tb adv s pa.2
  Uk adv s {r with Ab:=pa.1,op:=o.1} o.2
 else if r.kind=3 then
  let pa:=Bm adv s a 3
  let o:=Tb adv s pa.2
  let n:=Bm adv s o.2 6
  {r with Ab:=pa.1,op:=o.1,next:=n.1}
 else if r.kind=4 then
  let n:=Bm adv s a 6
  {r with next:=n.1}
 else if r.kind=8 then
  let pa:=Bm adv s a 3
  let o:=Tb adv s pa.2
  {r with Ab:=pa.1,op:=o.1}
 else if r.kind=9 then Mr adv s r a
 else r
theorem Yo {adv:Bool}{s:List UInt8}{r:Rec}{a:St}(h:r.kind=2):Gb adv s r a=Uk adv s {r with Ab:=(Bm adv s a 3).1,op:=(Tb adv s (Bm adv s a 3).2).1} (Tb adv s (Bm adv s a 3).2).2:=if_pos h
theorem jL {adv:Bool}{s:List UInt8}{r:Rec}{a:St}(h:r.kind=3):Gb adv s r a={r with Ab:=(Bm adv s a 3).1,op:=(Tb adv s (Bm adv s a 3).2).1,next:=(Bm adv s (Tb adv s (Bm adv s a 3).2).2 6).1}:=by unfold Gb;rw[if_neg (by omega),if_pos h]
theorem jM {adv:Bool}{s:List UInt8}{r:Rec}{a:St}(h:r.kind=4):Gb adv s r a={r with next:=(Bm adv s a 6).1}:=by unfold Gb;rw[if_neg (by omega),if_neg (by omega),if_pos h]
theorem jN {adv:Bool}{s:List UInt8}{r:Rec}{a:St}(h:r.kind=8):Gb adv s r a={r with Ab:=(Bm adv s a 3).1,op:=(Tb adv s (Bm adv s a 3).2).1}:=by unfold Gb;rw[if_neg (by omega),if_neg (by omega),if_neg (by omega),if_pos h]
theorem jO {adv:Bool}{s:List UInt8}{r:Rec}{a:St}(h:r.kind=9):Gb adv s r a=Mr adv s r a:=by unfold Gb;rw[if_neg (by omega),if_neg (by omega),if_neg (by omega),if_neg (by omega),if_pos h]
def Cd (adv:Bool)(s:List UInt8):Rec:=Gb adv s (Hb adv s).1 (Hb adv s).2
def Left (s:List UInt8)(a:St)(l:List UInt8):Prop:=a.bad=false∧s.drop a.at_=l∧a.at_≤s.length
theorem Ax (n:Int)(k:Nat):(p n k).length=k:=Oct.A0 _ _
theorem Ul {s:List UInt8}{a:St}{l:List UInt8}(h:Left s a l):s.length=a.at_+l.length:=by
 obtain⟨_,b,c⟩:=h;have:=congrArg List.length b;rw[List.length_drop]at this;omega
theorem Left.skip {s:List UInt8}{a:St}{x l:List UInt8}(h:Left s a (x++l)):Left s ⟨a.at_+x.length,false⟩ l:=by
 have b:=Ul h;obtain⟨_,c,d⟩:=h;rw[List.length_append]at b;refine⟨rfl,?_,by show a.at_+x.length≤s.length;omega⟩
 show s.drop (a.at_+x.length)=l
 rw[← List.drop_drop,c,List.drop_left]
theorem Wv {s:List UInt8}{a:St}{l:List UInt8}{u k:Nat}(h:Left s a (Oct.Bp u k++l))(b:u<256^k):Oct.Bq s a.at_ k=u:=by
 unfold Oct.Bq;rw[h.2.1,List.take_append_of_le_length (by rw[Oct.A0];omega),List.take_of_length_le (by rw[Oct.A0];omega),Oct.Q3,Nat.mod_eq_of_lt b]
theorem uO {n:Int}(a:0≤n)(h:n<18446744073709551616):((Oct.word n:Nat):Int)=n:=by unfold Oct.word;omega
theorem Oc {adv:Bool}{s:List UInt8}{a:St}{n:Int}{k:Nat}{l:List UInt8}(h:Left s a (p n k++l))(d:0≤n)(e:n<((256^k:Nat):Int))(f:k≤8):
 Bm adv s a k=(n,⟨a.at_+k,false⟩)∧Left s ⟨a.at_+k,false⟩ l:=by
 have g:(256:Nat)^k≤18446744073709551616:=Nat.pow_le_pow_right (n:=256) (by omega) f;generalize o:(256:Nat)^k=q at e g;have b:n<18446744073709551616:=by omega
 have i:=uO d b;have j:Oct.word n<256^k:=by omega
 have m:=Ul h;have c:=h.skip;rw[Ax]at c;rw[List.length_append,Ax]at m;refine⟨?_,c⟩;unfold Bm;rw[if_pos (by omega),Wv h j,i,h.1]
theorem Pb {s:List UInt8}{a:St}{x:ByteArray}{l:List UInt8}(h:Left s a (t x++l))(m:x.size<65536):
 Ib s a=(x,⟨a.at_+(2+x.size),false⟩)∧Left s ⟨a.at_+(2+x.size),false⟩ l:=by
 have c:x.data.toList.length=x.size:=by simp
 have i:Oct.word (x.size:Int)=x.size:=Oct.El _ (by omega);have e:=h.skip;have b:(t x).length=2+x.size:=by unfold t;rw[List.length_append,Ax,c]
 rw[b]at e;have j:=Ul h;rw[List.length_append,b]at j;have f:Left s a (Oct.Bp x.size 2++(x.data.toList++l)):=by
  unfold t p at h;rw[i,List.append_assoc]at h;exact h
 have k:=Wv f (by omega);have g:=f.skip;rw[Oct.A0]at g;refine⟨?_,e⟩;unfold Ib;rw[k,if_pos (by omega),h.1];have d:s.drop (a.at_+2)=x.data.toList++l:=g.2.1;rw[d,List.take_append_of_le_length (by omega),List.take_of_length_le (by omega),Nat.add_assoc]
theorem Lu {adv:Bool}{s:List UInt8}{a:St}{n:Int}{l:List UInt8}(h:Left s a (p n 6++l))(b:num n):Bm adv s a 6=(n,⟨a.at_+6,false⟩)∧Left s ⟨a.at_+6,false⟩ l:=
 Oc h b.1 (by have:=b.2;show n<281474976710656;omega) (by omega)
theorem Rg {adv:Bool}{s:List UInt8}{a:St}{n:Int}{l:List UInt8}(h:Left s a (p n 3++l))(b:pg n):Bm adv s a 3=(n,⟨a.at_+3,false⟩)∧Left s ⟨a.at_+3,false⟩ l:=
 Oc h b.1 (by have:=b.2;show n<16777216;omega) (by omega)
theorem Yp {adv:Bool}{s:List UInt8}{a:St}{n:Int}{l:List UInt8}(h:Left s a (p n 2++l))(b:0≤n)(c:n<65536):Bm adv s a 2=(n,⟨a.at_+2,false⟩)∧Left s ⟨a.at_+2,false⟩ l:=
 Oc h b (by show n<65536;omega) (by omega)
theorem Um {adv:Bool}{s:List UInt8}{a:St}{n:Int}{l:List UInt8}(h:Left s a (p n 1++l))(b:0≤n)(c:n<256):Bm adv s a 1=(n,⟨a.at_+1,false⟩)∧Left s ⟨a.at_+1,false⟩ l:=
 Oc h b (by show n<256;omega) (by omega)
theorem Un {adv:Bool}{s:List UInt8}{a:St}{o:Op}{l:List UInt8}(h:Left s a (Np o++l))(d:Jr o):∃ b,Tb adv s a=(o,b)∧Left s b l:=by
 obtain⟨p,q,c,r,t⟩:=d;unfold Np at h;simp only[List.append_assoc]at h;obtain⟨e,f⟩:=Um (adv:=adv) h (by omega) (by omega);obtain⟨g,i⟩:=Yp (adv:=adv) f c.1 (by have:=c.2;omega);obtain⟨j,k⟩:=Pb i (by omega);obtain⟨m,n⟩:=Pb k (by omega);refine⟨_,?_,n⟩;unfold Tb;simp only[e,g,j,m]
theorem lO {adv:Bool}{s:List UInt8}{a:St}{x:Cw}{l:List UInt8}(h:Left s a (Mq x++l))(c:Uj x):∃ b,Rf adv s a=(x,b)∧Left s b l:=by
 obtain⟨d,e,f⟩:=c;obtain⟨r,t,u,g⟩:=x;unfold Mq at h;simp only[List.append_assoc]at h;obtain⟨i,j⟩:=Lu (adv:=adv) h d;obtain⟨k,m⟩:=Lu (adv:=adv) j e;obtain⟨n,o⟩:=Lu (adv:=adv) m f;obtain⟨p,q⟩:=Um (adv:=adv) o (by split<;>omega) (by split<;>omega);refine⟨_,?_,q⟩;unfold Rf;simp only[i,k,n,p]
 cases g<;>rfl
theorem aY {adv:Bool}{s:List UInt8}{a:St}{x:Cx}{l:List UInt8}(h:Left s a (Iw x++l))(c:Mp x):∃ b,Ix adv s a=(x,b)∧Left s b l:=by
 obtain⟨d,e⟩:=c;unfold Iw at h;simp only[List.append_assoc]at h;obtain⟨f,g⟩:=Rg (adv:=adv) h d;obtain⟨i,j⟩:=Lu (adv:=adv) g e;refine⟨_,?_,j⟩;unfold Ix;simp only[f,i]
theorem Uo {α:Type}{one:St→α×St}{enc:α→List UInt8}{R:α→Prop}{s:List UInt8}(f:∀ a x l,Left s a (enc x++l)→R x→∃ b,one a=(x,b)∧Left s b l):
 ∀ (xs:List α) (a:St) (l:List UInt8),Left s a (xs.flatMap enc++l)→(∀ x∈xs,R x)→∃ b,Ha one xs.length a=(xs,b)∧Left s b l:=by
 intro xs
 induction xs with
 |nil=>intro a l h _;exact⟨a,rfl,h⟩
 |cons x xs ih=>
  intro a l h d;rw[List.flatMap_cons,List.append_assoc]at h;obtain⟨b,e,g⟩:=f a x _ h (d x (List.mem_cons_self ..));obtain⟨c,i,j⟩:=ih b l g (fun y k=>d y (List.mem_cons_of_mem _ k));refine⟨c,?_,j⟩
  show Ha one (xs.length+1) a=_
  unfold Ha;rw[h.1];simp only[e,i]
  rfl
theorem Iy {adv:Bool}{r:Rec}{s l:List UInt8}(h:s=Hm r++l)(a:0≤r.kind)(d:r.kind<256)(e:num r.lsn)(f:num r.prev)(g:num r.txn):
 ∃ b,Hb adv s=(bare r.kind r.lsn r.prev r.txn,b)∧Left s b l:=by
 have c:Left s ⟨0,false⟩ (Hm r++l):=⟨rfl,h,Nat.zero_le _⟩;unfold Hm at c;simp only[List.append_assoc]at c;obtain⟨i,j⟩:=Um (adv:=adv) c a d;obtain⟨k,m⟩:=Lu (adv:=adv) j e;obtain⟨n,o⟩:=Lu (adv:=adv) m f;obtain⟨p,q⟩:=Lu (adv:=adv) o g;refine⟨_,?_,q⟩;unfold Hb;simp only[i,k,n,p]
theorem eY {adv:Bool}{r r0:Rec}{s k:List UInt8}{a:St}(h:Left s a (p r.how 1++(M5 r++k)))(l:F7 r):
 Uk adv s r0 a={r0 with how:=r.how,root:=if r.how=1 then r0.root else r.root,e:=if r.how=1 then r0.e else r.e}:=by
 rcases l with⟨f,g,i⟩|⟨f,g,i,j,w⟩
 ·obtain⟨d,b⟩:=Um (adv:=adv) h (by omega) (by omega)
  unfold Uk;simp only[d,f,if_true]
 ·have c:r.how≠1:=by omega
  obtain⟨d,b⟩:=Um (adv:=adv) h (by omega) (by omega);unfold M5 at b;rw[if_neg c]at b;simp only[List.append_assoc]at b;obtain⟨m,n⟩:=Rg (adv:=adv) b g;obtain⟨o,q⟩:=Rg (adv:=adv) n i;obtain⟨t,u⟩:=Yp (adv:=adv) q j.1 (by have:=j.2;omega);obtain⟨v,x⟩:=Pb u (by omega);unfold Uk;simp only[d,c,if_false,m,o,t,v]
theorem aZ {adv:Bool}{r r0:Rec}{s e:List UInt8}{a:St}(h:Left s a (Ia r++e))(f:num r.num)(g:Kl r):
 Mr adv s r0 a={r0 with num:=r.num,txns:=r.txns,dirty:=r.dirty}:=by
 obtain⟨w,y,i,j⟩:=g;unfold Ia at h;simp only[List.append_assoc]at h;obtain⟨k,m⟩:=Lu (adv:=adv) h f;obtain⟨n,o⟩:=Yp (adv:=adv) m (by omega) (by omega);obtain⟨b,p,q⟩:=Uo (one:=Rf adv s) (enc:=Mq) (R:=Uj) (fun a x l h d=>lO h d) r.txns _ _ o i;obtain⟨t,u⟩:=Yp (adv:=adv) q (by omega) (by omega);obtain⟨c,v,z⟩:=Uo (one:=Ix adv s) (enc:=Iw) (R:=Mp) (fun a x l h d=>aY h d) r.dirty _ _ u j;unfold Mr;simp only[k,n,Int.toNat_natCast,p,t,v]
theorem Ww (adv:Bool)(f:List UInt8){r:Rec}(h:Bz r):Cd adv (Bl r++f)=r:=by
 cases h with
 |small kind a prev d D i j k=>
  have B:Fm (bare kind a prev d)=[]:=by
   unfold Fm bare;simp only;rw[if_neg (by omega),if_neg (by omega),if_neg (by omega),if_neg (by omega),if_neg (by omega)]
  obtain⟨b,e,l⟩:=Iy (adv:=adv) (r:=bare kind a prev d) (s:=Bl (bare kind a prev d)++f) (l:=Fm (bare kind a prev d)++f) (List.append_assoc _ _ _) (show 0≤kind by omega) (show kind<256 by omega) i j k;unfold Cd;rw[e];unfold Gb bare;simp only;rw[if_neg (by omega),if_neg (by omega),if_neg (by omega),if_neg (by omega),if_neg (by omega)]
 |change a prev d Ab op how root e i j k h4 h5 q=>
  obtain⟨b,m,g⟩:=Iy (adv:=adv) (r:=⟨a,prev,d,2,Ab,0,0,op,how,root,e,[],[]⟩) (s:=Bl _++f) (l:=Fm _++f) (List.append_assoc _ _ _) (show(0:Int)≤2 by omega) (show(2:Int)<256 by omega) i j k;unfold Cd;rw[m];rw[Ob rfl]at g;simp only[List.append_assoc]at g;obtain⟨t,u⟩:=Rg (adv:=adv) (n:=Ab) g h4;obtain⟨c,v,w⟩:=Un (adv:=adv) (o:=op) u h5;have p:=eY (adv:=adv) (r0:=⟨a,prev,d,2,Ab,0,0,op,0,0,D6,[],[]⟩) w q
  show Gb adv (Bl _++f) (bare 2 a prev d) b=_
  rw[Yo rfl];simp only[t,v];refine p.trans ?_;rcases q with⟨x,z,A⟩|⟨x,_⟩
  ·simp only at x z A
   subst x z A
   rfl
  ·have y:how≠1:=by simp only at x;omega
   simp only[y,if_false]
 |clr a prev d Ab op next i j k h4 h5 q=>
  obtain⟨b,m,g⟩:=Iy (adv:=adv) (r:=⟨a,prev,d,3,Ab,next,0,op,0,0,D6,[],[]⟩) (s:=Bl _++f) (l:=Fm _++f) (List.append_assoc _ _ _) (show(0:Int)≤3 by omega) (show(3:Int)<256 by omega) i j k;unfold Cd;rw[m];rw[P6 rfl]at g;simp only[List.append_assoc]at g;obtain⟨t,u⟩:=Rg (adv:=adv) (n:=Ab) g h4;obtain⟨c,v,w⟩:=Un (adv:=adv) (o:=op) u h5;obtain⟨p,C⟩:=Lu (adv:=adv) (n:=next) w q
  show Gb adv (Bl _++f) (bare 3 a prev d) b=_
  rw[jL rfl];simp only[t,v,p]
  rfl
 |nest a prev d next i j k q=>
  obtain⟨b,m,g⟩:=Iy (adv:=adv) (r:=⟨a,prev,d,4,0,next,0,K9,0,0,D6,[],[]⟩) (s:=Bl _++f) (l:=Fm _++f) (List.append_assoc _ _ _) (show(0:Int)≤4 by omega) (show(4:Int)<256 by omega) i j k;unfold Cd;rw[m];rw[Tm rfl]at g;obtain⟨p,C⟩:=Lu (adv:=adv) (n:=next) g q
  show Gb adv (Bl _++f) (bare 4 a prev d) b=_
  rw[jM rfl];simp only[p]
  rfl
 |image a prev d Ab op i j k h4 h5=>
  obtain⟨b,m,g⟩:=Iy (adv:=adv) (r:=⟨a,prev,d,8,Ab,0,0,op,0,0,D6,[],[]⟩) (s:=Bl _++f) (l:=Fm _++f) (List.append_assoc _ _ _) (show(0:Int)≤8 by omega) (show(8:Int)<256 by omega) i j k;unfold Cd;rw[m];rw[P7 rfl]at g;simp only[List.append_assoc]at g;obtain⟨t,u⟩:=Rg (adv:=adv) (n:=Ab) g h4;obtain⟨c,v,w⟩:=Un (adv:=adv) (o:=op) u h5
  show Gb adv (Bl _++f) (bare 8 a prev d) b=_
  rw[jN rfl];simp only[t,v]
  rfl
 |check a prev d n ts ds i j k h4 h5=>
  obtain⟨b,m,g⟩:=Iy (adv:=adv) (r:=⟨a,prev,d,9,0,0,n,K9,0,0,D6,ts,ds⟩) (s:=Bl _++f) (l:=Fm _++f) (List.append_assoc _ _ _) (show(0:Int)≤9 by omega) (show(9:Int)<256 by omega) i j k;unfold Cd;rw[m];rw[Yn rfl]at g;have p:=aZ (adv:=adv) (r0:=bare 9 a prev d) g h4 h5
  show Gb adv (Bl _++f) (bare 9 a prev d) b=_
  rw[jO rfl];exact p
theorem Iz (adv:Bool){r:Rec}(h:Bz r):Cd adv (Bl r)=r:=by
 have:=Ww adv [] h
 rwa[List.append_nil]at this
theorem bA {r x:Rec}{l:List UInt8}(b:Bz r)(c:Bz x)(h:Bl r=Bl x++l):x=r:=by
 have a:=Iz true b;rw[h,Ww true l c]at a;exact a
theorem lQ {s:List UInt8}(h:Bz (Cd true s)∧Bl (Cd true s)=s):Cd false s=Cd true s:=by
 have:=Iz false h.1
 rwa[h.2]at this
theorem Rh (s:List UInt8):(Bz (Cd true s)∧Bl (Cd true s)=s)↔(Bz (Cd false s)∧Bl (Cd false s)=s):=by
 constructor
 ·intro h;rw[lQ h];exact h
 ·intro h
  have:=Iz true h.1;rw[h.2]at this;rw[this];exact h
instance:DecidableEq Op:=fun a b=>by
 obtain⟨a1,a2,a3,a4⟩:=a;obtain⟨b1,b2,b3,b4⟩:=b
 by_cases h:a1=b1∧a2=b2∧a3=b3∧a4=b4
 ·exact .isTrue (by obtain⟨rfl,rfl,rfl,rfl⟩:=h;rfl)
 ·exact .isFalse (fun e=>by injection e with e1 e2 e3 e4;exact h ⟨e1,e2,e3,e4⟩)
instance:DecidableEq Key:=fun a b=>by
 obtain⟨a1,a2,a3⟩:=a;obtain⟨b1,b2,b3⟩:=b
 by_cases h:a1=b1∧a2=b2∧a3=b3
 ·exact .isTrue (by obtain⟨rfl,rfl,rfl⟩:=h;rfl)
 ·exact .isFalse (fun e=>by injection e with e1 e2 e3;exact h ⟨e1,e2,e3⟩)
instance (n:Int):Decidable (num n):=by unfold num;exact inferInstance
instance (n:Int):Decidable (pg n):=by unfold pg;exact inferInstance
instance (n:Int):Decidable (sl n):=by unfold sl;exact inferInstance
instance (o:Op):Decidable (Jr o):=by unfold Jr;exact inferInstance
instance (r:Rec):Decidable (F7 r):=by unfold F7;exact inferInstance
instance (x:Cw):Decidable (Uj x):=by unfold Uj;exact inferInstance
instance (x:Cx):Decidable (Mp x):=by unfold Mp;exact inferInstance
instance (r:Rec):Decidable (Kl r):=by unfold Kl;exact inferInstance
def E8 (k:Int):Prop:=k=2∨k=3∨k=8
def hasNext (k:Int):Prop:=k=3∨k=4
structure Form (r:Rec):Prop where
 kind:1≤r.kind∧r.kind≤9
 nums:num r.lsn∧num r.prev∧num r.txn
 change:E8 r.kind→pg r.Ab∧Jr r.op
 bare:¬ E8 r.kind→r.Ab=0∧r.op=K9
 tree:r.kind=2→F7 r
 noTree:r.kind≠2→r.how=0∧r.root=0∧r.e=D6
 next:hasNext r.kind→num r.next
 noNext:¬ hasNext r.kind→r.next=0
 lists:r.kind=9→num r.num∧Kl r
 noLists:r.kind≠9→r.num=0∧r.txns=[]∧r.dirty=[]
theorem Hh {r:Rec}(h:Bz r):Form r:=by
 cases h with
 |small kind a prev b i c d f=>
  have g:(bare kind a prev b).kind=kind:=rfl;exact⟨by rw[g];omega,⟨c,d,f⟩,fun h=>(by unfold E8 at h;rw[g]at h;omega),fun _=>⟨rfl,rfl⟩,fun h=>(by rw[g]at h;omega),fun _=>⟨rfl,rfl,rfl⟩,fun h=>(by unfold hasNext at h;rw[g]at h;omega),fun _=>rfl,fun h=>(by rw[g]at h;omega),fun _=>⟨rfl,rfl,rfl⟩⟩
 |change a prev b Ab op how root e c d f h4 h5 h6=>
  exact⟨⟨by show(1:Int)≤2;omega,by show(2:Int)≤9;omega⟩,⟨c,d,f⟩,fun _=>⟨h4,h5⟩,fun h=>absurd (Or.inl rfl) h,fun _=>h6,fun h=>absurd rfl h,fun h=>(by rcases h with h|h<;>cases h),fun _=>rfl,fun h=>(by cases h),fun _=>⟨rfl,rfl,rfl⟩⟩
 |clr a prev b Ab op next c d f h4 h5 h6=>
  exact⟨⟨by show(1:Int)≤3;omega,by show(3:Int)≤9;omega⟩,⟨c,d,f⟩,fun _=>⟨h4,h5⟩,fun h=>absurd (Or.inr (Or.inl rfl)) h,fun h=>(by cases h),fun _=>⟨rfl,rfl,rfl⟩,fun _=>h6,fun h=>absurd (Or.inl rfl) h,fun h=>(by cases h),fun _=>⟨rfl,rfl,rfl⟩⟩
 |nest a prev b next c d f h6=>
  exact⟨⟨by show(1:Int)≤4;omega,by show(4:Int)≤9;omega⟩,⟨c,d,f⟩,fun h=>(by rcases h with h|h|h<;>cases h),fun _=>⟨rfl,rfl⟩,fun h=>(by cases h),fun _=>⟨rfl,rfl,rfl⟩,fun _=>h6,fun h=>absurd (Or.inr rfl) h,fun h=>(by cases h),fun _=>⟨rfl,rfl,rfl⟩⟩
 |image a prev b Ab op c d f h4 h5=>
  exact⟨⟨by show(1:Int)≤8;omega,by show(8:Int)≤9;omega⟩,⟨c,d,f⟩,fun _=>⟨h4,h5⟩,fun h=>absurd (Or.inr (Or.inr rfl)) h,fun h=>(by cases h),fun _=>⟨rfl,rfl,rfl⟩,fun h=>(by rcases h with h|h<;>cases h),fun _=>rfl,fun h=>(by cases h),fun _=>⟨rfl,rfl,rfl⟩⟩
 |check a prev b n ts ds c d f h4 h5=>
  exact⟨⟨by show(1:Int)≤9;omega,by show(9:Int)≤9;omega⟩,⟨c,d,f⟩,fun h=>(by rcases h with h|h|h<;>cases h),fun _=>⟨rfl,rfl⟩,fun h=>(by cases h),fun _=>⟨rfl,rfl,rfl⟩,fun h=>(by rcases h with h|h<;>cases h),fun _=>rfl,fun _=>⟨h4,h5⟩,fun h=>absurd rfl h⟩
def La (most:Int)(xs:List Int):Bool:=xs.all fun n=>decide (0≤n∧n≤most)
theorem qH {a:Int}{xs:List Int}{k:Nat}(b:k<xs.length)(h:¬ (0≤xs[k]∧xs[k]≤a)):La a xs=false:=by
 unfold La;rw[List.all_eq_false];exact⟨_,List.getElem_mem b,by simpa using h⟩
theorem qI {a:Int}{xs:List Int}(h:∀ k (hk:k<xs.length),0≤xs[k]∧xs[k]≤a):La a xs=true:=by
 unfold La;rw[List.all_eq_true];intro x b;obtain⟨k,hk,rfl⟩:=List.getElem_of_mem b
 simpa using h k hk
end Rc
namespace Go.Proofs.YtdfkambdagoojaaGreatDoor
open Go.RowKit
theorem bB (n most:Int)(g:Nat)(w:World)(h:w.cell? ⟨g,0,none⟩=some (.int .i64 most)):
 Cq 271 #[n,.pointer (some ⟨g,0,none⟩)] w fun e w'=>e= .returned (.bool (!decide (0≤n∧n≤most)))∧w=w':=by
 by_cases a:n<0
 ·rw[show decide (0≤n∧n≤most)=false from decide_eq_false (by omega)]
  go_enter Tryz.func271,Tryz.ntmps271;go_wp2_with fail;go_ret;exact⟨by simp[*],rfl⟩
 ·have c:0≤n:=by omega
  by_cases b:most<n
  ·rw[show decide (0≤n∧n≤most)=false from decide_eq_false (by omega)]
   go_enter Tryz.func271,Tryz.ntmps271;go_wp2_with fail;go_ret;exact⟨by simp[*],rfl⟩
  ·have d:n≤most:=by omega
   rw[show decide (0≤n∧n≤most)=true from decide_eq_true (by omega)];clear a b;go_enter Tryz.func271,Tryz.ntmps271;go_wp2_with fail;go_ret;exact⟨by simp[*],rfl⟩
def qJ (b:Bool)(w:World)(e:Ending)(w':World):Prop:=∃ k:Int,e= .returned (.int .i64 k)∧(if b then k= -1 else 0≤k)∧w=w'
theorem eZ (a:Int)(xs:List Int)(I:xs.length≤1048576)(A:Option Addr)(c g:Nat)(w:World)(B:Reads w A c xs.length (xs.map (Value.int .i64)))(h:w.cell? ⟨g,0,none⟩=some (.int .i64 a)):
 Cq 278 #[.slice A xs.length c,.func (.func 271) #[] #[.pointer (some ⟨g,0,none⟩)]] w (qJ (Rc.La a xs) w):=by
 have E:=Hq B;have F:=Hq (fun n=>bB n a g w h);obtain⟨b,s⟩:=ex (Rc.La a xs);rw[← s];have C:=Hq s;clear B h s;go_enter Tryz.func278,Tryz.ntmps278;go_wp2_with fail
 go_loop [8] (fun i=>∃ k:Nat,k≤xs.length∧i= .int .i64 k∧∀ j (m:j<xs.length),j<k→0≤xs[j]∧xs[j]≤a) (fun i=>xs.length-(intOf i).toNat)
 case atStart=>exact⟨0,Nat.zero_le _,rfl,fun _ _ h=>absurd h (by omega)⟩
 case round=>
  obtain⟨k,J,rfl,l⟩:=hrel;have D:=Hq l;clear l
  by_cases p:k<xs.length
  ·obtain⟨K,off,rfl,L,G,d⟩:=E.out.at_ (by omega)
   have t:=d k (.int .i64 xs[k]) (by rw[List.getElem?_map,List.getElem?_eq_getElem p];rfl);clear d;have q:=Hq (show ¬ (0≤xs[k]∧xs[k]≤a)→b=false from fun h=>C.out.trans (Rc.qH p h));have r:=Hq (show(0≤xs[k]∧xs[k]≤a)→∀ j (m:j<xs.length),j<k+1→0≤xs[j]∧xs[j]≤a from fun h j m u=>by
    rcases Nat.lt_or_eq_of_le (Nat.le_of_lt_succ u)with v|v
    ·exact D.out j m v
    ·subst v;exact h)
   have f:=Hq (F.out xs[k]);generalize xs[k]=x at t q r f
   cases o:decide (0≤x∧x≤a)with
   |true=>
    have y:=Hq (r.out (of_decide_eq_true o));rw[o]at f;clear q r o
    go_wp2_with((go_at_call 271;refine(f.out).mono ?_;rintro e w' ⟨rfl,rfl⟩))
    go_round
    case rel=>exact⟨k+1,by omega,by go_num,y.out⟩
    case measure=>simp[intOf];omega
   |false=>
    have z:=Hq (q.out (of_decide_eq_false o));rw[o]at f;clear q r o
    go_wp2_with((go_at_call 271;refine(f.out).mono ?_;rintro e w' ⟨rfl,rfl⟩))
    go_ret;exact⟨k,rfl,by rw[z.out];simp,rfl⟩
  ·obtain rfl:k=xs.length:=by omega
   have H:=Hq (show b=true from C.out.trans (Rc.qI fun j m=>D.out j m m));go_wp2_with fail;go_ret;exact⟨-1,rfl,by rw[H.out];rfl,rfl⟩
theorem V4 (a:Int)(xs:List Int)(j:xs.length≤1048576)(A:Option Addr)(c g:Nat)(w:World)(i:Reads w A c xs.length (xs.map (Value.int .i64)))(h:w.cell? ⟨g,0,none⟩=some (.int .i64 a)):
 Cq 270 #[.slice A xs.length c,.func (.func 271) #[] #[.pointer (some ⟨g,0,none⟩)]] w fun e w'=>e= .returned (.bool (!Rc.La a xs))∧w=w':=by
 have b:=Hq (eZ a xs j A c g w i h);clear i h
 cases d:Rc.La a xs with
 |true=>
  rw[d]at b;clear d;go_enter Tryz.func270,Tryz.ntmps270
  go_wp2_with((go_at_call 278;refine(b.out).mono ?_;rintro e w' ⟨k,rfl,f,rfl⟩;obtain rfl:k= -1:=f))
  go_ret;exact⟨rfl,rfl⟩
 |false=>
  rw[d]at b;clear d;go_enter Tryz.func270,Tryz.ntmps270
  go_wp2_with((go_at_call 278;refine(b.out).mono ?_;rintro e w' ⟨k,rfl,f,rfl⟩;have l:0≤k:=by simpa using f))
  go_ret;exact⟨by simp[*],rfl⟩
theorem Pc (a:Int)(xs:List Int)(g:xs.length≤1048576)(A:Option Addr)(c:Nat)(w:World)(d:Reads w A c xs.length (xs.map (Value.int .i64))):
 Cr 257 #[a,.slice A xs.length c] w (.bool (Rc.La a xs)):=by
 have f:=Hq (V4 a xs g A c w.heap.size (w.alloc (.cells #[a] 3)) (d.alloc _) (by rw[Aa (heap_alloc_new w _)];rfl));clear d;generalize Rc.La a xs=b at f ⊢;go_enter Tryz.func257,Tryz.ntmps257
 go_wp2_with((go_at_call 270;refine(f.out).mono ?_;rintro e w' ⟨rfl,rfl⟩))
 go_ret;exact⟨by simp,Ag _ _⟩
theorem Up (xs:List Int)(f:xs.length≤1048576)(A:Option Addr)(c:Nat)(w:World)(a:Reads w A c xs.length (xs.map (Value.int .i64))):
 Cr 237 #[.slice A xs.length c] w (.bool (Rc.La 1099511627775 xs)):=by
 have d:=Hq (Pc 1099511627775 xs f A c w a);clear a;generalize Rc.La 1099511627775 xs=b at d ⊢;go_enter Tryz.func237,Tryz.ntmps237
 go_wp2_with((go_at_call 257;refine(d.out).mono ?_;rintro e w' ⟨rfl,g⟩))
 go_ret;exact⟨rfl,g⟩
theorem Wx (xs:List Int)(f:xs.length≤1048576)(A:Option Addr)(c:Nat)(w:World)(a:Reads w A c xs.length (xs.map (Value.int .i64))):
 Cr 238 #[.slice A xs.length c] w (.bool (Rc.La 8388607 xs)):=by
 have d:=Hq (Pc 8388607 xs f A c w a);clear a;generalize Rc.La 8388607 xs=b at d ⊢;go_enter Tryz.func238,Tryz.ntmps238
 go_wp2_with((go_at_call 257;refine(d.out).mono ?_;rintro e w' ⟨rfl,g⟩))
 go_ret;exact⟨rfl,g⟩
theorem qK (xs:List Int)(f:xs.length≤1048576)(A:Option Addr)(c:Nat)(w:World)(a:Reads w A c xs.length (xs.map (Value.int .i64))):
 Cr 258 #[.slice A xs.length c] w (.bool (Rc.La 32767 xs)):=by
 have d:=Hq (Pc 32767 xs f A c w a);clear a;generalize Rc.La 32767 xs=b at d ⊢;go_enter Tryz.func258,Tryz.ntmps258
 go_wp2_with((go_at_call 257;refine(d.out).mono ?_;rintro e w' ⟨rfl,g⟩))
 go_ret;exact⟨rfl,g⟩
end Go.Proofs.YtdfkambdagoojaaGreatDoor
namespace Rc
theorem Uq (m n:Int):La m [n]=decide (0≤n∧n≤m):=by simp[La]
theorem qL (m a b:Int):La m [a,b]=decide ((0≤a∧a≤m)∧(0≤b∧b≤m)):=by simp[La,Bool.decide_and]
theorem fA (m a b c:Int):La m [a,b,c]=decide ((0≤a∧a≤m)∧(0≤b∧b≤m)∧(0≤c∧c≤m)):=by simp[La,Bool.decide_and]
theorem Tn (n:Int):(0≤n∧n≤1099511627775)↔num n:=by unfold num;omega
theorem fB (n:Int):(0≤n∧n≤8388607)↔pg n:=by unfold pg;omega
theorem yP (n:Int):(0≤n∧n≤32767)↔sl n:=by unfold sl;omega
end Rc
namespace Go.Proofs.YtdfkambdagoojaaGreatDoor
open Go.RowKit
theorem Gt (w:World)(o1 a:Obj):((w.alloc o1).alloc a).heap[w.heap.size+1]? =some a:=by simpa using heap_alloc_new (w.alloc o1) a
theorem uP (a:Int)(w:World)(g:Nat)(b:w.heap[g]? =some (.cells #[a] 3 (0,0))):
 Cr 237 #[.slice (some ⟨g,0,none⟩) 1 1] w (.bool (decide (Rc.num a))):=by
 have h:=Up [a] (by simp) (some ⟨g,0,none⟩) 1 w (Gr (cs:=[.int .i64 a]) b (Nat.le_refl _));rw[Rc.Uq,decide_eq_decide.2 (Rc.Tn a)]at h;exact h
theorem Rj (a:Int)(w:World)(g:Nat)(b:w.heap[g]? =some (.cells #[a] 3 (0,0))):
 Cr 238 #[.slice (some ⟨g,0,none⟩) 1 1] w (.bool (decide (Rc.pg a))):=by
 have h:=Wx [a] (by simp) (some ⟨g,0,none⟩) 1 w (Gr (cs:=[.int .i64 a]) b (Nat.le_refl _));rw[Rc.Uq,decide_eq_decide.2 (Rc.fB a)]at h;exact h
theorem Ot (a:Int)(w:World)(g:Nat)(b:w.heap[g]? =some (.cells #[a] 3 (0,0))):
 Cr 258 #[.slice (some ⟨g,0,none⟩) 1 1] w (.bool (decide (Rc.sl a))):=by
 have h:=qK [a] (by simp) (some ⟨g,0,none⟩) 1 w (Gr (cs:=[.int .i64 a]) b (Nat.le_refl _));rw[Rc.Uq,decide_eq_decide.2 (Rc.yP a)]at h;exact h
theorem Nq (a b:Int)(w:World)(g:Nat)(c:w.heap[g]? =some (.cells #[a,b] 3 (0,0))):
 Cr 238 #[.slice (some ⟨g,0,none⟩) 2 2] w (.bool (decide (Rc.pg a∧Rc.pg b))):=by
 have h:=Wx [a,b] (by simp) (some ⟨g,0,none⟩) 2 w (Gr (cs:=[.int .i64 a,.int .i64 b]) c (Nat.le_refl _));rw[Rc.qL,decide_eq_decide.2 (and_congr (Rc.fB a) (Rc.fB b))]at h;exact h
theorem Yq (a b c:Int)(w:World)(g:Nat)(d:w.heap[g]? =some (.cells #[a,b,c] 3 (0,0))):
 Cr 237 #[.slice (some ⟨g,0,none⟩) 3 3] w (.bool (decide (Rc.num a∧Rc.num b∧Rc.num c))):=by
 have h:=Up [a,b,c] (by simp) (some ⟨g,0,none⟩) 3 w (Gr (cs:=[.int .i64 a,.int .i64 b,.int .i64 c]) d (Nat.le_refl _));rw[Rc.fA,decide_eq_decide.2 (and_congr (Rc.Tn a) (and_congr (Rc.Tn b) (Rc.Tn c)))]at h;exact h
abbrev Ou (o:Rc.Op):Value:=.agg #[o.kind,o.slot,o.A5,o.new]
abbrev yQ (e:Rc.Key):Value:=.agg #[e.key,e.Ab,e.slot]
abbrev Ec (r:Rc.Rec)(T D:Value):Array Value:=#[r.lsn,r.prev,r.txn,r.kind,r.Ab,r.next,r.num,r.op.kind,r.op.slot,r.op.A5,r.op.new,r.how,r.root,r.e.key,r.e.Ab,r.e.slot,T,D]
abbrev Dp (r:Rc.Rec)(T D:Value):Value:=.agg (Ec r T D)
theorem Pd (a b:ByteArray):a.toList=b.toList↔a=b:=by
 rw[ByteArray.toList_eq,ByteArray.toList_eq];exact⟨fun h=>ByteArray.ext (Array.toList_inj.1 h),fun h=>by rw[h]⟩
theorem Od (a b:Rc.Key)(w:World):(Op.equalIn 10000 44 (yQ a) (yQ b)).run Tryz.prog w= .ok (decide (a=b)) w:=by
 obtain⟨k,c,s1⟩:=a;obtain⟨l,d,s2⟩:=b;have n:Tryz.prog.underlying 44=some (.struct (Tryz.prog.fieldsOf 44)):=by kernel_rfl
 have o:Tryz.prog.stoodInHeld 44=false:=by kernel_rfl
 have f:Tryz.prog.underlying 42=some (.struct (Tryz.prog.fieldsOf 42)):=by kernel_rfl
 have g:Tryz.prog.stoodInHeld 42=false:=by kernel_rfl
 have p:∀ W:World,(Op.equalIn 9999 42 (.agg #[c,s1]) (.agg #[d,s2])).run Tryz.prog W= .ok ((c==d)&&(s1==s2)) W:=fun W=>by
  rw[show(9999:Nat)=9998+1 from rfl,run_equalIn_agg W 9998 42 _ _ f g];simp only[Program.fieldsOf,Abv]
  go_simp
  by_cases i:c=d<;>by_cases j:s1=s2<;>simp[i,j]
 rw[show(10000:Nat)=9999+1 from rfl,run_equalIn_agg w 9999 44 _ _ n o];simp only[Program.fieldsOf,Abw]
 go_simp
 have m:=Pd k l
 by_cases e:k=l
 ·rw[if_pos (m.2 e)]
  by_cases i:c=d<;>by_cases j:s1=s2<;>simp[e,i,j]
 ·rw[if_neg (fun h=>e (m.1 h))]
  simp[e]
theorem bE (a b:Rc.Op)(w:World):(Op.equalIn 10000 40 (Ou a) (Ou b)).run Tryz.prog w= .ok (decide (a=b)) w:=by
 obtain⟨c,d,s1,t1⟩:=a;obtain⟨e,f,s2,t2⟩:=b;have g:Tryz.prog.underlying 40=some (.struct (Tryz.prog.fieldsOf 40)):=by kernel_rfl
 have h:Tryz.prog.stoodInHeld 40=false:=by kernel_rfl
 rw[show(10000:Nat)=9999+1 from rfl,run_equalIn_agg w 9999 40 _ _ g h];simp only[Program.fieldsOf,fC]
 go_simp
 have i:=Pd s1 s2;have j:=Pd t1 t2
 by_cases k:c=e<;>by_cases l:d=f<;>by_cases m:s1=s2<;>by_cases n:t1=t2<;>simp[k,l,m,n,i,j]
end Go.Proofs.YtdfkambdagoojaaGreatDoor
namespace Rc
instance:DecidableEq Cw:=fun a b=>by
 obtain⟨a1,a2,a3,a4⟩:=a;obtain⟨b1,b2,b3,b4⟩:=b
 by_cases h:a1=b1∧a2=b2∧a3=b3∧a4=b4
 ·exact .isTrue (by obtain⟨rfl,rfl,rfl,rfl⟩:=h;rfl)
 ·exact .isFalse (fun e=>by injection e with e1 e2 e3 e4;exact h ⟨e1,e2,e3,e4⟩)
instance:DecidableEq Cx:=fun a b=>by
 obtain⟨a1,a2⟩:=a;obtain⟨b1,b2⟩:=b
 by_cases h:a1=b1∧a2=b2
 ·exact .isTrue (by obtain⟨rfl,rfl⟩:=h;rfl)
 ·exact .isFalse (fun e=>by injection e with e1 e2;exact h ⟨e1,e2⟩)
theorem jP {α:Type}[DecidableEq α]{l m:List α}{k:Nat}(b:k<l.length)(a:k<m.length)(h:l[k]≠m[k]):decide (l=m)=false:=decide_eq_false (fun e=>h (by subst e;rfl))
theorem Yr {α:Type}[DecidableEq α]{l m:List α}(a:l.length=m.length)(h:∀ k (hk:k<l.length) (hk':k<m.length),l[k]=m[k]):decide (l=m)=true:=decide_eq_true (List.ext_getElem a h)
end Rc
namespace Go.Proofs.YtdfkambdagoojaaGreatDoor
open Go.RowKit
def P8 (t:Rc.Cw):List Value:=[.int .i64 t.txn,.int .i64 t.last,.int .i64 t.next,.bool t.done]
def jQ (t:Rc.Cx):List Value:=[.int .i64 t.Ab,.int .i64 t.from_]
theorem Ic (t:Rc.Cw):(P8 t).length=4:=rfl
theorem Ms (t:Rc.Cx):(jQ t).length=2:=rfl
abbrev txV (t:Rc.Cw):Value:=.agg #[t.txn,t.last,t.next,t.done]
abbrev diV (t:Rc.Cx):Value:=.agg #[t.Ab,t.from_]
abbrev tY (w:World)(A:Option Addr)(c:Nat)(l:List Rc.Cw):Prop:=Reads w A c l.length (l.flatMap P8)
abbrev tZ (w:World)(A:Option Addr)(c:Nat)(l:List Rc.Cx):Prop:=Reads w A c l.length (l.flatMap jQ)
theorem Wy (a b:Rc.Cw)(w:World):(Op.equalIn 10000 83 (txV a) (txV b)).run Tryz.prog w= .ok (decide (a=b)) w:=by
 obtain⟨c,d,s1,t1⟩:=a;obtain⟨e,f,s2,t2⟩:=b;have g:Tryz.prog.underlying 83=some (.struct (Tryz.prog.fieldsOf 83)):=by kernel_rfl
 have h:Tryz.prog.stoodInHeld 83=false:=by kernel_rfl
 rw[show(10000:Nat)=9999+1 from rfl,run_equalIn_agg w 9999 83 _ _ g h];simp only[Program.fieldsOf,lR]
 go_simp
 by_cases i:c=e<;>by_cases j:d=f<;>by_cases k:s1=s2<;>cases t1<;>cases t2<;>simp[i,j,k]
theorem Sg (a b:Rc.Cx)(w:World):(Op.equalIn 10000 65 (diV a) (diV b)).run Tryz.prog w= .ok (decide (a=b)) w:=by
 obtain⟨c,d⟩:=a;obtain⟨e,f⟩:=b;have g:Tryz.prog.underlying 65=some (.struct (Tryz.prog.fieldsOf 65)):=by kernel_rfl
 have h:Tryz.prog.stoodInHeld 65=false:=by kernel_rfl
 rw[show(10000:Nat)=9999+1 from rfl,run_equalIn_agg w 9999 65 _ _ g h];simp only[Program.fieldsOf,Aal]
 go_simp
 by_cases i:c=e<;>by_cases j:d=f<;>simp[i,j]
theorem lT (l m:List Rc.Cw)(hn:l.length≤140737488355328)(_hm:m.length≤140737488355328)(A A':Option Addr)(c c':Nat)(w:World)(hr:tY w A c l)(z:tY w A' c' m):
 Cr 260 #[.slice A l.length c,.slice A' m.length c'] w (.bool (decide (l=m))):=by
 have HR:=Hq hr;have H:=Hq z;obtain⟨b,I⟩:=ex (decide (l=m));rw[← I];have J:=Hq I;clear hr z I
 by_cases f:l.length=m.length
 rotate_left
 ·have ad:((l.length:Int)==(m.length:Int))=false:=by simp;omega
  have a1:((l.length:Int) != (m.length:Int))=true:=by simp;omega
  have a6:(l.length==m.length)=false:=by simpa using f
  have a7:(l.length != m.length)=true:=by simpa using f
  have HF:=Hq (J.out.trans (decide_eq_false (fun e=>f (by rw[e]))));go_enter Tryz.func260,Tryz.ntmps260;go_wp2_with fail
  all_goals
   go_ret;exact⟨by rw[HF.out];rfl,Below.refl _ _⟩
 ·have B:=Hq f
  obtain⟨n,p⟩:=ex l.length;rw[← f,← p];rw[← p]at hn;have C:=Hq p;clear f p;go_enter Tryz.func260,Tryz.ntmps260;go_wp2_with fail
  go_loopw [13] (fun i wr=>∃ k:Nat,k≤n∧i= .int .i64 k∧(∀ j (u:j<l.length) (g:j<m.length),j<k→l[j]=m[j])∧Bw w wr) (fun i _=>n-(intOf i).toNat)
  case atStart=>exact⟨0,Nat.zero_le _,rfl,fun _ _ _ h=>absurd h (by omega),Below.refl _ _⟩
  case round=>
   obtain⟨k,hk,rfl,q,o⟩:=hrel;have K:=Hq q;clear q
   by_cases D:k<n
   ·have s:k<l.length:=by rw[← C.out];exact D
    have E:k<m.length:=(by rw[← B.out];exact s);obtain⟨b1,off,rfl,hc,ae,d⟩:=Cv Ic (HR.out.below o) s;obtain⟨b2,a8,rfl,L,aa,a⟩:=Cv Ic (H.out.below o) E;have q0:=d 0 _ rfl;have r0:=a 0 _ rfl;have q1:=d 1 _ rfl;have r1:=a 1 _ rfl;have q2:=d 2 _ rfl;have r2:=a 2 _ rfl;have q3:=d 3 _ rfl;have r3:=a 3 _ rfl;clear d a;simp only[Nat.add_zero]at q0 r0;have F:=Hq (show l[k]≠m[k]→b=false from fun h=>J.out.trans (Rc.jP s E h));have G:=Hq (show l[k]=m[k]→∀ j (u:j<l.length) (g:j<m.length),j<k+1→l[j]=m[j]from fun h j u g M=>by
     rcases Nat.lt_or_eq_of_le (Nat.le_of_lt_succ M)with N|N
     ·exact K.out j u g N
     ·subst N;exact h)
    have r:=Hq (fun W=>Wy l[k] m[k] W);clear hc L K;generalize l[k]=x at q0 q1 q2 q3 F G r;generalize m[k]=y at r0 r1 r2 r3 F G r;have af:(0:Int)≤(k:Int):=(by omega);have ag:(k:Int)<(n:Int):=(by omega);have O:decide (k<n)=true:=decide_eq_true D
    cases v:decide (x=y)with
    |true=>
     have P:=Hq (G.out (of_decide_eq_true v));have t:=r.out;rw[v]at t;clear F G v r;obtain⟨Q,R,S,T⟩:=x;obtain⟨U,V,X,Y⟩:=y
     go_upto_region 6 with(fail)
     go_quiet (fail)
     go_wp2_with fail;go_roundw
     case rel=>exact⟨k+1,by omega,by go_num,P.out,Af o (Dt _ _)⟩
     case measure=>simp[intOf];omega
    |false=>
     have Z:=Hq (F.out (of_decide_eq_false v));have t:=r.out;rw[v]at t;clear F G v r;obtain⟨Q,R,S,T⟩:=x;obtain⟨U,V,X,Y⟩:=y
     go_upto_region 6 with(fail)
     go_quiet (fail)
     go_wp2_with fail;go_ret;exact⟨by rw[Z.out];rfl,Af o (Dt _ _)⟩
   ·obtain rfl:k=n:=by omega
    have r:=Hq (show b=true from J.out.trans (Rc.Yr B.out fun j u g=>K.out j u g (by rw[C.out];exact u)));have O:decide (k<k)=false:=decide_eq_false (by omega);go_wp2_with fail;go_ret;exact⟨by rw[r.out];rfl,o⟩
theorem bF (l m:List Rc.Cx)(hn:l.length≤140737488355328)(_hm:m.length≤140737488355328)(A V:Option Addr)(c X:Nat)(w:World)(Y:tZ w A c l)(z:tZ w V X m):
 Cr 261 #[.slice A l.length c,.slice V m.length X] w (.bool (decide (l=m))):=by
 have HR:=Hq Y;have H:=Hq z;obtain⟨b,I⟩:=ex (decide (l=m));rw[← I];have J:=Hq I;clear Y z I
 by_cases f:l.length=m.length
 rotate_left
 ·have aa:((l.length:Int)==(m.length:Int))=false:=by simp;omega
  have Z:((l.length:Int) != (m.length:Int))=true:=by simp;omega
  have a1:(l.length==m.length)=false:=by simpa using f
  have a6:(l.length != m.length)=true:=by simpa using f
  have HF:=Hq (J.out.trans (decide_eq_false (fun e=>f (by rw[e]))));go_enter Tryz.func261,Tryz.ntmps261;go_wp2_with fail
  all_goals
   go_ret;exact⟨by rw[HF.out];rfl,Below.refl _ _⟩
 ·have B:=Hq f
  obtain⟨n,p⟩:=ex l.length;rw[← f,← p];rw[← p]at hn;have C:=Hq p;clear f p;go_enter Tryz.func261,Tryz.ntmps261;go_wp2_with fail
  go_loopw [13] (fun i wr=>∃ k:Nat,k≤n∧i= .int .i64 k∧(∀ j (u:j<l.length) (g:j<m.length),j<k→l[j]=m[j])∧Bw w wr) (fun i _=>n-(intOf i).toNat)
  case atStart=>exact⟨0,Nat.zero_le _,rfl,fun _ _ _ h=>absurd h (by omega),Below.refl _ _⟩
  case round=>
   obtain⟨k,hk,rfl,q,o⟩:=hrel;have K:=Hq q;clear q
   by_cases D:k<n
   ·have s:k<l.length:=by rw[← C.out];exact D
    have E:k<m.length:=(by rw[← B.out];exact s);obtain⟨b1,off,rfl,hc,ad,d⟩:=Cv Ms (HR.out.below o) s;obtain⟨b2,a7,rfl,L,a8,a⟩:=Cv Ms (H.out.below o) E;have q0:=d 0 _ rfl;have r0:=a 0 _ rfl;have q1:=d 1 _ rfl;have r1:=a 1 _ rfl;clear d a;simp only[Nat.add_zero]at q0 r0;have F:=Hq (show l[k]≠m[k]→b=false from fun h=>J.out.trans (Rc.jP s E h));have G:=Hq (show l[k]=m[k]→∀ j (u:j<l.length) (g:j<m.length),j<k+1→l[j]=m[j]from fun h j u g M=>by
     rcases Nat.lt_or_eq_of_le (Nat.le_of_lt_succ M)with N|N
     ·exact K.out j u g N
     ·subst N;exact h)
    have r:=Hq (fun W=>Sg l[k] m[k] W);clear hc L K;generalize l[k]=x at q0 q1 F G r;generalize m[k]=y at r0 r1 F G r;have ae:(0:Int)≤(k:Int):=(by omega);have af:(k:Int)<(n:Int):=(by omega);have O:decide (k<n)=true:=decide_eq_true D
    cases v:decide (x=y)with
    |true=>
     have P:=Hq (G.out (of_decide_eq_true v));have t:=r.out;rw[v]at t;clear F G v r;obtain⟨Q,R⟩:=x;obtain⟨S,T⟩:=y
     go_upto_region 6 with(fail)
     go_quiet (fail)
     go_wp2_with fail;go_roundw
     case rel=>exact⟨k+1,by omega,by go_num,P.out,Af o (Dt _ _)⟩
     case measure=>simp[intOf];omega
    |false=>
     have U:=Hq (F.out (of_decide_eq_false v));have t:=r.out;rw[v]at t;clear F G v r;obtain⟨Q,R⟩:=x;obtain⟨S,T⟩:=y
     go_upto_region 6 with(fail)
     go_quiet (fail)
     go_wp2_with fail;go_ret;exact⟨by rw[U.out];rfl,Af o (Dt _ _)⟩
   ·obtain rfl:k=n:=by omega
    have r:=Hq (show b=true from J.out.trans (Rc.Yr B.out fun j u g=>K.out j u g (by rw[C.out];exact u)));have O:decide (k<k)=false:=decide_eq_false (by omega);go_wp2_with fail;go_ret;exact⟨by rw[r.out];rfl,o⟩
theorem lV (l m:List Rc.Cw)(hn:l.length≤140737488355328)(_hm:m.length≤140737488355328)(A Z:Option Addr)(c c':Nat)(w:World)(hr:tY w A c l)(C:tY w Z c' m):
 Cr 199 #[.slice A l.length c,.slice Z m.length c'] w (.bool (decide (l=m))):=by
 have HR:=Hq hr;have G:=Hq C;obtain⟨b,H⟩:=ex (decide (l=m));rw[← H];have F:=Hq H;clear hr C H;go_enter Tryz.func199,Tryz.ntmps199;go_wp2_with fail
 go_loopw [5] (fun i wr=>∃ k:Nat,k≤l.length∧k≤m.length∧i= .int .i64 k∧(∀ j (z:j<l.length) (o:j<m.length),j<k→l[j]=m[j])∧Bw w wr) (fun i _=>l.length-(intOf i).toNat)
 case atStart=>exact⟨0,Nat.zero_le _,Nat.zero_le _,rfl,fun _ _ _ h=>absurd h (by omega),Below.refl _ _⟩
 case round=>
  obtain⟨k,hk,a7,rfl,r,g⟩:=hrel;have I:=Hq r;clear r
  by_cases n:k<l.length
  ·have J:decide (k<l.length)=true:=decide_eq_true n
   by_cases p:k<m.length
   ·have K:decide (k<m.length)=true:=decide_eq_true p
    obtain⟨b1,off,rfl,hc,a8,d⟩:=Cv Ic (HR.out.below g) n;obtain⟨b2,a1,rfl,L,a6,a⟩:=Cv Ic (G.out.below g) p;have q0:=d 0 _ rfl;have r0:=a 0 _ rfl;have q1:=d 1 _ rfl;have r1:=a 1 _ rfl;have q2:=d 2 _ rfl;have r2:=a 2 _ rfl;have q3:=d 3 _ rfl;have r3:=a 3 _ rfl;clear d a;simp only[Nat.add_zero]at q0 r0;have D:=Hq (show l[k]≠m[k]→b=false from fun h=>F.out.trans (Rc.jP n p h));have E:=Hq (show l[k]=m[k]→∀ j (z:j<l.length) (o:j<m.length),j<k+1→l[j]=m[j]from fun h j z o M=>by
     rcases Nat.lt_or_eq_of_le (Nat.le_of_lt_succ M)with N|N
     ·exact I.out j z o N
     ·subst N;exact h)
    have s:=Hq (fun W=>Wy l[k] m[k] W);clear hc L I;generalize l[k]=x at q0 q1 q2 q3 D E s;generalize m[k]=y at r0 r1 r2 r3 D E s;have aa:(0:Int)≤(k:Int):=(by omega);have ad:(k:Int)<(l.length:Int):=(by omega);have ae:(k:Int)<(m.length:Int):=by omega
    cases B:decide (x=y)with
    |true=>
     have O:=Hq (E.out (of_decide_eq_true B));have v:=s.out;rw[B]at v;clear D E B s;obtain⟨P,Q,R,S⟩:=x;obtain⟨T,U,V,X⟩:=y
     go_upto_region 4 with(fail)
     go_quiet (fail)
     go_wp2_with fail;go_roundw
     case rel=>exact⟨k+1,by omega,by omega,by go_num,O.out,Af g (Dt _ _)⟩
     case measure=>simp[intOf];omega
    |false=>
     have q:=Hq (D.out (of_decide_eq_false B));have v:=s.out;rw[B]at v;clear D E B s;obtain⟨P,Q,R,S⟩:=x;obtain⟨T,U,V,X⟩:=y
     go_upto_region 4 with(fail)
     go_quiet (fail)
     go_wp2_with fail;go_ret;exact⟨by rw[q.out];rfl,Af g (Dt _ _)⟩
   ·have K:decide (k<m.length)=false:=decide_eq_false p
    have t:(l.length==m.length)=false:=(by simp;omega);have u:((l.length:Int)==(m.length:Int))=false:=(by simp;omega);have q:=Hq (F.out.trans (decide_eq_false (fun e=>by rw[e]at n;exact p n)));go_wp2_with fail;go_ret;exact⟨by rw[q.out];simp;try omega,g⟩
  ·have J:decide (k<l.length)=false:=decide_eq_false n
   obtain rfl:k=l.length:=by omega
   by_cases f:l.length=m.length
   ·have s:=Hq (show b=true from F.out.trans (Rc.Yr f fun j z o=>I.out j z o z))
    have t:(l.length==m.length)=true:=(by simp[f]);have u:((l.length:Int)==(m.length:Int))=true:=(by simp[f]);have Y:=Hq f;clear f;go_wp2_with fail;go_ret;exact⟨by rw[s.out];have f:=Y.out;simp[f],g⟩
   ·have t:(l.length==m.length)=false:=by simp;omega
    have u:((l.length:Int)==(m.length:Int))=false:=(by simp;omega);have q:=Hq (F.out.trans (decide_eq_false (fun e=>f (by rw[e]))));go_wp2_with fail;go_ret;exact⟨by rw[q.out];simp;try omega,g⟩
theorem bG (l m:List Rc.Cx)(hn:l.length≤140737488355328)(_hm:m.length≤140737488355328)(A U:Option Addr)(c V:Nat)(w:World)(X:tZ w A c l)(C:tZ w U V m):
 Cr 200 #[.slice A l.length c,.slice U m.length V] w (.bool (decide (l=m))):=by
 have HR:=Hq X;have G:=Hq C;obtain⟨b,H⟩:=ex (decide (l=m));rw[← H];have F:=Hq H;clear X C H;go_enter Tryz.func200,Tryz.ntmps200;go_wp2_with fail
 go_loopw [5] (fun i wr=>∃ k:Nat,k≤l.length∧k≤m.length∧i= .int .i64 k∧(∀ j (z:j<l.length) (o:j<m.length),j<k→l[j]=m[j])∧Bw w wr) (fun i _=>l.length-(intOf i).toNat)
 case atStart=>exact⟨0,Nat.zero_le _,Nat.zero_le _,rfl,fun _ _ _ h=>absurd h (by omega),Below.refl _ _⟩
 case round=>
  obtain⟨k,hk,a1,rfl,r,f⟩:=hrel;have I:=Hq r;clear r
  by_cases n:k<l.length
  ·have J:decide (k<l.length)=true:=decide_eq_true n
   by_cases p:k<m.length
   ·have K:decide (k<m.length)=true:=decide_eq_true p
    obtain⟨b1,off,rfl,hc,a6,g⟩:=Cv Ms (HR.out.below f) n;obtain⟨b2,Y,rfl,L,Z,a⟩:=Cv Ms (G.out.below f) p;have q0:=g 0 _ rfl;have r0:=a 0 _ rfl;have q1:=g 1 _ rfl;have r1:=a 1 _ rfl;clear g a;simp only[Nat.add_zero]at q0 r0;have D:=Hq (show l[k]≠m[k]→b=false from fun h=>F.out.trans (Rc.jP n p h));have E:=Hq (show l[k]=m[k]→∀ j (z:j<l.length) (o:j<m.length),j<k+1→l[j]=m[j]from fun h j z o M=>by
     rcases Nat.lt_or_eq_of_le (Nat.le_of_lt_succ M)with N|N
     ·exact I.out j z o N
     ·subst N;exact h)
    have s:=Hq (fun W=>Sg l[k] m[k] W);clear hc L I;generalize l[k]=x at q0 q1 D E s;generalize m[k]=y at r0 r1 D E s;have a7:(0:Int)≤(k:Int):=(by omega);have a8:(k:Int)<(l.length:Int):=(by omega);have aa:(k:Int)<(m.length:Int):=by omega
    cases B:decide (x=y)with
    |true=>
     have O:=Hq (E.out (of_decide_eq_true B));have v:=s.out;rw[B]at v;clear D E B s;obtain⟨P,Q⟩:=x;obtain⟨R,S⟩:=y
     go_upto_region 4 with(fail)
     go_quiet (fail)
     go_wp2_with fail;go_roundw
     case rel=>exact⟨k+1,by omega,by omega,by go_num,O.out,Af f (Dt _ _)⟩
     case measure=>simp[intOf];omega
    |false=>
     have q:=Hq (D.out (of_decide_eq_false B));have v:=s.out;rw[B]at v;clear D E B s;obtain⟨P,Q⟩:=x;obtain⟨R,S⟩:=y
     go_upto_region 4 with(fail)
     go_quiet (fail)
     go_wp2_with fail;go_ret;exact⟨by rw[q.out];rfl,Af f (Dt _ _)⟩
   ·have K:decide (k<m.length)=false:=decide_eq_false p
    have t:(l.length==m.length)=false:=(by simp;omega);have u:((l.length:Int)==(m.length:Int))=false:=(by simp;omega);have q:=Hq (F.out.trans (decide_eq_false (fun e=>by rw[e]at n;exact p n)));go_wp2_with fail;go_ret;exact⟨by rw[q.out];simp;try omega,f⟩
  ·have J:decide (k<l.length)=false:=decide_eq_false n
   obtain rfl:k=l.length:=by omega
   by_cases d:l.length=m.length
   ·have s:=Hq (show b=true from F.out.trans (Rc.Yr d fun j z o=>I.out j z o z))
    have t:(l.length==m.length)=true:=(by simp[d]);have u:((l.length:Int)==(m.length:Int))=true:=(by simp[d]);have T:=Hq d;clear d;go_wp2_with fail;go_ret;exact⟨by rw[s.out];have d:=T.out;simp[d],f⟩
   ·have t:(l.length==m.length)=false:=by simp;omega
    have u:((l.length:Int)==(m.length:Int))=false:=(by simp;omega);have q:=Hq (F.out.trans (decide_eq_false (fun e=>d (by rw[e]))));go_wp2_with fail;go_ret;exact⟨by rw[q.out];simp;try omega,f⟩
end Go.Proofs.YtdfkambdagoojaaGreatDoor
namespace Rc
instance:DecidableEq Rec:=fun a b=>
 if h:a.lsn=b.lsn∧a.prev=b.prev∧a.txn=b.txn∧a.kind=b.kind∧a.Ab=b.Ab∧a.next=b.next∧a.num=b.num∧a.op=b.op∧a.how=b.how∧a.root=b.root∧a.e=b.e∧a.txns=b.txns∧a.dirty=b.dirty then
  .isTrue (by
   obtain⟨a1,a2,a3,a4,a5,a6,a7,a8,a9,a10,a11,a12,a13⟩:=a;obtain⟨b1,b2,b3,b4,b5,b6,b7,b8,b9,b10,b11,b12,b13⟩:=b;simp only at h;obtain⟨rfl,rfl,rfl,rfl,rfl,rfl,rfl,rfl,rfl,rfl,rfl,rfl,rfl⟩:=h
   rfl)
 else .isFalse (fun e=>h (by subst e;exact⟨rfl,rfl,rfl,rfl,rfl,rfl,rfl,rfl,rfl,rfl,rfl,rfl,rfl⟩))
end Rc
namespace Go.Proofs.YtdfkambdagoojaaGreatDoor
open Go.RowKit
theorem Km (w:World)(o1 a:Obj):((w.alloc o1).alloc a).heap[w.heap.size]? =some o1:=by
 rw[Below.heap_alloc _ _ _ (by simp)];exact heap_alloc_new w o1
structure Hc (w:World) (r:Rc.Rec) (A:Option Addr) (c:Nat) (B:Option Addr) (d:Nat):Prop where
 txns:tY w A c r.txns
 dirty:tZ w B d r.dirty
 small:r.txns.length≤140737488355328∧r.dirty.length≤140737488355328
theorem Hc.below {w w':World}{r:Rc.Rec}{A:Option Addr}{c:Nat}{B:Option Addr}{d:Nat}(h:Hc w r A c B d)(a:Bw w w'):Hc w' r A c B d:=⟨h.txns.below a,h.dirty.below a,h.small⟩
theorem Ur (r s:Rc.Rec)(A A' B B':Option Addr)(c c' d d':Nat)(w:World)(Q:Hc w r A c B d)(R:Hc w s A' c' B' d'):
 Cr 245 #[Dp r (.slice A r.txns.length c) (.slice B r.dirty.length d),Dp s (.slice A' s.txns.length c') (.slice B' s.dirty.length d')] w (.bool (decide (r=s))):=by
 have HT:=Hq (fun W hb=>lT r.txns s.txns Q.small.1 R.small.1 A A' c c' W (Q.txns.below hb) (R.txns.below hb));have HD:=Hq (fun W hb=>bF r.dirty s.dirty Q.small.2 R.small.2 B B' d d' W (Q.dirty.below hb) (R.dirty.below hb));have ar:=Q.small.1;have au:=R.small.1;have av:=Q.small.2;have aw:=R.small.2;have HO:=Hq (fun W=>bE r.op s.op W);have HK:=Hq (fun W=>Od r.e s.e W);clear Q R;obtain⟨S,T,U,V,X,Y,Z,j,a1,a6,k,ax,ay⟩:=r;obtain⟨a7,a8,stx,aa,ad,ae,af,l,ag,ah,m,az,b0⟩:=s;simp only at HT HD HO HK ar au av aw ⊢
 by_cases F:S=a7
 rotate_left
 ·rw[decide_eq_false (fun e=>F (congrArg Rc.Rec.lsn e))]
  have b2:(S==a7)=false:=by simp[F]
  have b3:(S != a7)=true:=by simp[F]
  clear F;obtain⟨u,rs,rx,v⟩:=j;obtain⟨x,y,z,C⟩:=l;obtain⟨a,b,f⟩:=k;obtain⟨g,h,i⟩:=m;go_enter Tryz.func245,Tryz.ntmps245;go_wp2_with fail;go_ret;exact⟨by simp,Ak (Ag _ _)⟩
 subst F
 by_cases G:T=a8
 rotate_left
 ·rw[decide_eq_false (fun e=>G (congrArg Rc.Rec.prev e))]
  have b4:(T==a8)=false:=by simp[G]
  have mpr:(T != a8)=true:=by simp[G]
  clear G;obtain⟨u,rs,rx,v⟩:=j;obtain⟨x,y,z,C⟩:=l;obtain⟨a,b,f⟩:=k;obtain⟨g,h,i⟩:=m;go_enter Tryz.func245,Tryz.ntmps245;go_wp2_with fail;go_ret;exact⟨by simp,Ak (Ag _ _)⟩
 subst G
 by_cases H:U=stx
 rotate_left
 ·rw[decide_eq_false (fun e=>H (congrArg Rc.Rec.txn e))]
  have b5:(U==stx)=false:=by simp[H]
  have b6:(U != stx)=true:=by simp[H]
  clear H;obtain⟨u,rs,rx,v⟩:=j;obtain⟨x,y,z,C⟩:=l;obtain⟨a,b,f⟩:=k;obtain⟨g,h,i⟩:=m;go_enter Tryz.func245,Tryz.ntmps245;go_wp2_with fail;go_ret;exact⟨by simp,Ak (Ag _ _)⟩
 subst H
 by_cases I:V=aa
 rotate_left
 ·rw[decide_eq_false (fun e=>I (congrArg Rc.Rec.kind e))]
  have b7:(V==aa)=false:=by simp[I]
  have b8:(V != aa)=true:=by simp[I]
  clear I;obtain⟨u,rs,rx,v⟩:=j;obtain⟨x,y,z,C⟩:=l;obtain⟨a,b,f⟩:=k;obtain⟨g,h,i⟩:=m;go_enter Tryz.func245,Tryz.ntmps245;go_wp2_with fail;go_ret;exact⟨by simp,Ak (Ag _ _)⟩
 subst I
 by_cases J:X=ad
 rotate_left
 ·rw[decide_eq_false (fun e=>J (congrArg Rc.Rec.Ab e))]
  have b9:(X==ad)=false:=by simp[J]
  have ba:(X != ad)=true:=by simp[J]
  clear J;obtain⟨u,rs,rx,v⟩:=j;obtain⟨x,y,z,C⟩:=l;obtain⟨a,b,f⟩:=k;obtain⟨g,h,i⟩:=m;go_enter Tryz.func245,Tryz.ntmps245;go_wp2_with fail;go_ret;exact⟨by simp,Ak (Ag _ _)⟩
 subst J
 by_cases K:Y=ae
 rotate_left
 ·rw[decide_eq_false (fun e=>K (congrArg Rc.Rec.next e))]
  have bb:(Y==ae)=false:=by simp[K]
  have bc:(Y != ae)=true:=by simp[K]
  clear K;obtain⟨u,rs,rx,v⟩:=j;obtain⟨x,y,z,C⟩:=l;obtain⟨a,b,f⟩:=k;obtain⟨g,h,i⟩:=m;go_enter Tryz.func245,Tryz.ntmps245;go_wp2_with fail;go_ret;exact⟨by simp,Ak (Ag _ _)⟩
 subst K
 by_cases L:Z=af
 rotate_left
 ·rw[decide_eq_false (fun e=>L (congrArg Rc.Rec.num e))]
  have bd:(Z==af)=false:=by simp[L]
  have bf:(Z != af)=true:=by simp[L]
  clear L;obtain⟨u,rs,rx,v⟩:=j;obtain⟨x,y,z,C⟩:=l;obtain⟨a,b,f⟩:=k;obtain⟨g,h,i⟩:=m;go_enter Tryz.func245,Tryz.ntmps245;go_wp2_with fail;go_ret;exact⟨by simp,Ak (Ag _ _)⟩
 subst L
 cases D:decide (j=l)with
 |false=>
  rw[decide_eq_false (fun e=>of_decide_eq_false D (congrArg Rc.Rec.op e))];have ai:=HO.out;rw[D]at ai;clear D;obtain⟨u,rs,rx,v⟩:=j;obtain⟨x,y,z,C⟩:=l;obtain⟨a,b,f⟩:=k;obtain⟨g,h,i⟩:=m;go_enter Tryz.func245,Tryz.ntmps245;go_wp2_with fail;go_ret;exact⟨by simp,Ak (Ag _ _)⟩
 |true=>
 have ai:=HO.out;rw[D]at ai;have an:=Hq (of_decide_eq_true D);clear D HO
 by_cases M:a1=ag
 rotate_left
 ·rw[decide_eq_false (fun e=>M (congrArg Rc.Rec.how e))]
  have bg:(a1==ag)=false:=by simp[M]
  have bh:(a1 != ag)=true:=by simp[M]
  clear M;obtain⟨u,rs,rx,v⟩:=j;obtain⟨x,y,z,C⟩:=l;obtain⟨a,b,f⟩:=k;obtain⟨g,h,i⟩:=m;go_enter Tryz.func245,Tryz.ntmps245;go_wp2_with fail;go_ret;exact⟨by simp,Ak (Ag _ _)⟩
 subst M
 by_cases N:a6=ah
 rotate_left
 ·rw[decide_eq_false (fun e=>N (congrArg Rc.Rec.root e))]
  have bj:(a6==ah)=false:=by simp[N]
  have bk:(a6 != ah)=true:=by simp[N]
  clear N;obtain⟨u,rs,rx,v⟩:=j;obtain⟨x,y,z,C⟩:=l;obtain⟨a,b,f⟩:=k;obtain⟨g,h,i⟩:=m;go_enter Tryz.func245,Tryz.ntmps245;go_wp2_with fail;go_ret;exact⟨by simp,Ak (Ag _ _)⟩
 subst N
 cases E:decide (k=m)with
 |false=>
  rw[decide_eq_false (fun e=>of_decide_eq_false E (congrArg Rc.Rec.e e))];have aj:=HK.out;rw[E]at aj;clear E;obtain⟨u,rs,rx,v⟩:=j;obtain⟨x,y,z,C⟩:=l;obtain⟨a,b,f⟩:=k;obtain⟨g,h,i⟩:=m;go_enter Tryz.func245,Tryz.ntmps245;go_wp2_with fail;go_ret;exact⟨by simp,Ak (Ag _ _)⟩
 |true=>
 have aj:=HK.out;rw[E]at aj;have ao:=Hq (of_decide_eq_true E);clear E HK
 cases o:decide (ax=az)with
 |false=>
  have O:=Hq o;rw[decide_eq_false (fun e=>of_decide_eq_false o (congrArg Rc.Rec.txns e))];clear o;obtain⟨u,rs,rx,v⟩:=j;obtain⟨x,y,z,C⟩:=l;obtain⟨a,b,f⟩:=k;obtain⟨g,h,i⟩:=m;go_enter Tryz.func245,Tryz.ntmps245
  go_wp2_with(first|(go_at_call 260;(with_reducible refine(HT.out _ ?_).mono ?_);(exact Ak (Ag _ _));rintro e w2 ⟨rfl,n⟩;have q:=Ae (Km _ _ _) n;have t:=Ae (Gt _ _ _) n;have q1:=Aa q 17;have q2:=Aa t 17;clear q t;simp at q1 q2;rw[O.out]))
  go_ret;exact⟨by simp,Af (Ak (Ag _ _)) n⟩
 |true=>
 have aq:=Hq o;have O:=Hq (of_decide_eq_true o);clear o
 cases p:decide (ay=b0)with
 |false=>
  have P:=Hq p;rw[decide_eq_false (fun e=>of_decide_eq_false p (congrArg Rc.Rec.dirty e))];clear p;obtain⟨u,rs,rx,v⟩:=j;obtain⟨x,y,z,C⟩:=l;obtain⟨a,b,f⟩:=k;obtain⟨g,h,i⟩:=m;go_enter Tryz.func245,Tryz.ntmps245
  go_wp2_with(first|(go_at_call 260;(with_reducible refine(HT.out _ ?_).mono ?_);(exact Ak (Ag _ _));rintro e w2 ⟨rfl,n⟩;have q:=Ae (Km _ _ _) n;have t:=Ae (Gt _ _ _) n;have q1:=Aa q 17;have q2:=Aa t 17;clear q t;simp at q1 q2;rw[aq.out])|(go_at_call 261;(with_reducible refine(HD.out _ ?_).mono ?_);(exact Af (Ak (Ag _ _)) n);rintro e w3 ⟨rfl,ak⟩;rw[P.out]))
  go_ret;exact⟨by simp,Af (Af (Ak (Ag _ _)) n) ak⟩
 |true=>
 have b1:=Hq p;have P:=Hq (of_decide_eq_true p);clear p;rw[decide_eq_true (by rw[an.out,ao.out,O.out,P.out])];clear an ao O P;obtain⟨u,rs,rx,v⟩:=j;obtain⟨x,y,z,C⟩:=l;obtain⟨a,b,f⟩:=k;obtain⟨g,h,i⟩:=m;go_enter Tryz.func245,Tryz.ntmps245
 go_wp2_with(first|(go_at_call 260;(with_reducible refine(HT.out _ ?_).mono ?_);(exact Ak (Ag _ _));rintro e w2 ⟨rfl,n⟩;have q:=Ae (Km _ _ _) n;have t:=Ae (Gt _ _ _) n;have q1:=Aa q 17;have q2:=Aa t 17;clear q t;simp at q1 q2;rw[aq.out])|(go_at_call 261;(with_reducible refine(HD.out _ ?_).mono ?_);(exact Af (Ak (Ag _ _)) n);rintro e w3 ⟨rfl,ak⟩;rw[b1.out]))
 go_ret;exact⟨by simp,Af (Af (Ak (Ag _ _)) n) ak⟩
end Go.Proofs.YtdfkambdagoojaaGreatDoor
