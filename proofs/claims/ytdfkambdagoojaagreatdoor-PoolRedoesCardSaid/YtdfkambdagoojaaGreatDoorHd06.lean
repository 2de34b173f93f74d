import Derived.Test.YtdfkambdagoojaaGreatDoorHd00
import Derived.Test.YtdfkambdagoojaaGreatDoorHd04
import Derived.Test.YtdfkambdagoojaaGreatDoorHd01
import Derived.BigRegion
import Derived.Test.YtdfkambdagoojaaGreatDoorHd05
import Derived.Deep.RegionWith
set_option maxRecDepth 100000
set_option maxHeartbeats 16000000
set_option linter.unusedSimpArgs false
namespace Rc
theorem Uv (s:ByteArray):(t s).length=2+s.size:=by
 unfold t;rw[List.length_append,Ax];simp
theorem Oe {o:Op}(h:Jr o):(Np o).length≤1031:=by
 obtain⟨_,_,_,a,b⟩:=h;unfold Np;simp only[List.length_append,Ax,Uv];omega
theorem Dc {α:Type}(f:α→List UInt8)(k:Nat)(a:∀ x,(f x).length=k):∀ l:List α,(l.flatMap f).length=l.length*k:=by
 intro l
 induction l with
 |nil=>simp
 |cons x l ih=>rw[List.flatMap_cons,List.length_append,a,ih,List.length_cons,Nat.add_mul];omega
theorem P9 (x:Cw):(Mq x).length=19:=by
 unfold Mq;simp only[List.length_append,Ax]
theorem Ph (x:Cx):(Iw x).length=9:=by
 unfold Iw;simp only[List.length_append,Ax]
theorem Wz (r:Rec):(Hm r).length=19:=by
 unfold Hm;simp only[List.length_append,Ax]
theorem fJ {r:Rec}(h:Kl r):(Ia r).length≤37010:=by
 obtain⟨a,b,_⟩:=h;unfold Ia;simp only[List.length_append,Ax,Dc Mq 19 P9,Dc Iw 9 Ph];omega
theorem I1 {r:Rec}(h:Bz r):19≤(Bl r).length∧(Bl r).length≤40000:=by
 unfold Bl
 rw[List.length_append,Wz]
 refine⟨by omega,?_⟩
 cases h with
 |small kind lsn prev txn hk h1 h2 h3=>
  have hk2:Fm (bare kind lsn prev txn)=[]:=by
   unfold Fm bare
   simp only
   rw[if_neg (by omega),if_neg (by omega),if_neg (by omega),if_neg (by omega),if_neg (by omega)]
  rw[hk2];simp
 |change lsn prev txn Ab op how root e h1 h2 h3 h4 h5 h6=>
  rw[Ob rfl]
  have ho:=Oe h5
  have ht:(M5 ⟨lsn,prev,txn,2,Ab,0,0,op,how,root,e,[],[]⟩).length≤200:=by
   unfold M5
   rcases h6 with⟨h7,_⟩|⟨h7,h8,h9,h10,h11⟩
   ·simp only at h7;subst h7;simp
   ·simp only at h7 h11
    rw[if_neg (show ¬ how=1 by omega)]
    simp only[List.length_append,Ax,Uv]
    omega
  simp only[List.length_append,Ax]
  omega
 |clr lsn prev txn Ab op next h1 h2 h3 h4 h5 h6=>
  rw[P6 rfl]
  have ho:=Oe h5
  simp only[List.length_append,Ax]
  omega
 |nest lsn prev txn next h1 h2 h3 h6=>
  rw[Tm rfl]
  simp only[Ax]
  omega
 |image lsn prev txn Ab op h1 h2 h3 h4 h5=>
  rw[P7 rfl]
  have ho:=Oe h5
  simp only[List.length_append,Ax]
  omega
 |check lsn prev txn n ts ds h1 h2 h3 h4 h5=>
  rw[Yn rfl]
  have:=fJ h5
  omega
theorem Uw {r:Rec}(h:r.kind=0):¬ Bz r:=by
 intro g
 cases g with
 |small kind a prev b i c d f=>have:kind=0:=h;omega
 |change a prev b Ab op how root e c d f h4 h5 h6=>exact absurd (show(2:Int)=0 from h) (by omega)
 |clr a prev b Ab op next c d f h4 h5 h6=>exact absurd (show(3:Int)=0 from h) (by omega)
 |nest a prev b next c d f h6=>exact absurd (show(4:Int)=0 from h) (by omega)
 |image a prev b Ab op c d f h4 h5=>exact absurd (show(8:Int)=0 from h) (by omega)
 |check a prev b n ts ds c d f h4 h5=>exact absurd (show(9:Int)=0 from h) (by omega)
end Rc
namespace Lg
open Rc
def Co (r:Rec):List UInt8:=Oct.Bp (Bl r).length 4++(Oct.Bp (Oct.Fg (Bl r)) 4++Bl r)
theorem Fp (r:Rec):(Co r).length=8+(Bl r).length:=by
 unfold Co;simp only[List.length_append,Oct.A0];omega
def Bk (s:List UInt8)(a:Nat):List UInt8:=(s.drop (a+8)).take (Oct.Bq s a 4)
def Is (s:List UInt8)(a:Nat):Prop:=
 a+8+Oct.Bq s a 4≤s.length∧Oct.Bq s (a+4) 4=Oct.Fg (Bk s a)∧Bz (Cd true (Bk s a))∧Bl (Cd true (Bk s a))=Bk s a
open Classical in
noncomputable def Jz (s:List UInt8) (a:Nat):Option (Rec×Nat):=if Is s a then some (Cd true (Bk s a),a+8+Oct.Bq s a 4)else none
theorem Qa {s:List UInt8}{a:Nat}(h:Is s a):Jz s a=some (Cd true (Bk s a),a+8+Oct.Bq s a 4):=if_pos h
theorem Mu {s:List UInt8}{a:Nat}(h:¬ Is s a):Jz s a=none:=if_neg h
theorem bW (x y:List UInt8)(k:Nat):(x++y).drop (x.length+k)=y.drop k:=by
 rw[← List.drop_drop,List.drop_left]
theorem Rn (x y:List UInt8)(k n:Nat):Oct.Bq (x++y) (x.length+k) n=Oct.Bq y k n:=by
 unfold Oct.Bq;rw[bW]
theorem bX (u k:Nat)(y:List UInt8)(h:u<256^k):Oct.Bq (Oct.Bp u k++y) 0 k=u:=by
 unfold Oct.Bq;rw[List.drop_zero,List.take_left' (Oct.A0 u k),Oct.Q3,Nat.mod_eq_of_lt h]
theorem yS (x y:List UInt8){r:Rec}(h:Bz r):Is (x++(Co r++y)) x.length∧Bk (x++(Co r++y)) x.length=Bl r∧Oct.Bq (x++(Co r++y)) x.length 4=(Bl r).length:=by
 have hlen:=I1 h;have b:Oct.Bq (x++(Co r++y)) x.length 4=(Bl r).length:=by
  have c:=Rn x (Co r++y) 0 4;rw[Nat.add_zero]at c;rw[c];unfold Co;rw[List.append_assoc];exact bX _ _ _ (by show _<4294967296;omega)
 have f:Oct.Bq (x++(Co r++y)) (x.length+4) 4=Oct.Fg (Bl r):=by
  rw[Rn];unfold Co;have d:=Rn (Oct.Bp (Bl r).length 4) (Oct.Bp (Oct.Fg (Bl r)) 4++(Bl r++y)) 0 4;rw[Oct.A0]at d;simp only[List.append_assoc];rw[d];exact bX _ _ _ (Oct.Xy _)
 have a:Bk (x++(Co r++y)) x.length=Bl r:=by
  unfold Bk;rw[b,bW];unfold Co;have e:(Oct.Bp (Bl r).length 4++(Oct.Bp (Oct.Fg (Bl r)) 4++Bl r)++y)=(Oct.Bp (Bl r).length 4++Oct.Bp (Oct.Fg (Bl r)) 4)++(Bl r++y):=by simp[List.append_assoc]
  rw[e,List.drop_left' (by rw[List.length_append,Oct.A0,Oct.A0]),List.take_left]
 refine⟨⟨?_,?_,?_,?_⟩,a,b⟩
 ·rw[b];simp only[List.length_append,Fp];omega
 ·rw[f,a]
 ·rw[a,Iz true h];exact h
 ·rw[a,Iz true h]
theorem qT (x y:List UInt8){r:Rec}(h:Bz r):Jz (x++(Co r++y)) x.length=some (r,x.length+(Co r).length):=by
 obtain⟨a,b,c⟩:=yS x y h;rw[Qa a,b,c,Iz true h,Fp,Nat.add_assoc]
theorem Ro (s:List UInt8)(a n:Nat):(s.drop a).take n++s.drop (a+n)=s.drop a:=by
 rw[← List.drop_drop,List.take_append_drop]
theorem qU {s:List UInt8}{a:Nat}(h:Is s a):s=s.take a++(Co (Cd true (Bk s a))++s.drop (a+8+Oct.Bq s a 4)):=by
 obtain⟨k,c,l,d⟩:=h;have b:(Bk s a).length=Oct.Bq s a 4:=by unfold Bk;rw[List.length_take,List.length_drop];omega
 have e:Oct.Bp (Bk s a).length 4=(s.drop a).take 4:=by
  rw[b];unfold Oct.Bq;exact Oct.We 4 _ (by rw[List.length_take,List.length_drop];omega)
 have f:Oct.Bp (Oct.Fg (Bk s a)) 4=(s.drop (a+4)).take 4:=by
  rw[← c];unfold Oct.Bq;exact Oct.We 4 _ (by rw[List.length_take,List.length_drop];omega)
 unfold Co;rw[d,e,f];have g:Bk s a++s.drop (a+8+Oct.Bq s a 4)=s.drop (a+8):=Ro s (a+8) _;have i:(s.drop (a+4)).take 4++s.drop (a+8)=s.drop (a+4):=Ro s (a+4) 4;have j:(s.drop a).take 4++s.drop (a+4)=s.drop a:=Ro s a 4;rw[List.append_assoc,List.append_assoc,g,i,j,List.take_append_drop]
theorem uW {s:List UInt8}{a:Nat}(h:Oct.Bq s a 4=0):¬ Is s a:=by
 rintro⟨_,_,b,_⟩;have c:Bk s a=[]:=by unfold Bk;rw[h,List.take_zero]
 rw[c]at b;exact Uw (by rfl) b
noncomputable def Dx (s:List UInt8):Nat→Nat→List Rec×Nat
 |0,a=>([],a)
 |f+1,a=>match Jz s a with
  |none=>([],a)
  |some (r,b)=>if r.lsn=(a:Int)+1 then(r::(Dx s f b).1,(Dx s f b).2)else([],a)
def Row (a:Nat):List Rec→Prop
 |[]=>True
 |r::l=>Bz r∧r.lsn=(a:Int)+1∧Row (a+(Co r).length) l
def bytes (l:List Rec):List UInt8:=l.flatMap Co
theorem F0 (r:Rec)(l:List Rec):bytes (r::l)=Co r++bytes l:=rfl
theorem Ff (l m:List Rec):bytes (l++m)=bytes l++bytes m:=List.flatMap_append
theorem Ko {a:Nat}{l m:List Rec}:Row a (l++m)↔Row a l∧Row (a+(bytes l).length) m:=by
 induction l generalizing a with
 |nil=>simp[Row,bytes]
 |cons r l ih=>
  show(Bz r∧r.lsn=(a:Int)+1∧Row (a+(Co r).length) (l++m))↔(Bz r∧r.lsn=(a:Int)+1∧Row (a+(Co r).length) l)∧_
  rw[ih,F0,List.length_append,Nat.add_assoc]
  constructor
  ·rintro⟨b,c,d,e⟩;exact⟨⟨b,c,d⟩,e⟩
  ·rintro⟨⟨b,c,d⟩,e⟩;exact⟨b,c,d,e⟩
theorem lZ (l:List Rec):∀ (x y:List UInt8) (f:Nat),Row x.length l→l.length<f→(∀ r b,Jz (x++(bytes l++y)) (x.length+(bytes l).length)=some (r,b)→r.lsn≠((x.length+(bytes l).length:Nat):Int)+1)→
 Dx (x++(bytes l++y)) f x.length=(l,x.length+(bytes l).length):=by
 induction l with
 |nil=>
  intro x y f c d a;obtain⟨f,rfl⟩:∃ g,f=g+1:=⟨f-1,by simp at d;omega⟩;have i:(bytes []).length=0:=rfl;rw[i,Nat.add_zero]at a ⊢;unfold Dx
  cases h:Jz (x++(bytes []++y)) x.length with
  |none=>rfl
  |some v=>
   obtain⟨r,b⟩:=v;simp only;rw[if_neg (a r b h)]
   rfl
 |cons r l ih=>
  intro x y f c d a;obtain⟨j,k,m⟩:=c;obtain⟨f,rfl⟩:∃ g,f=g+1:=⟨f-1,by simp at d;omega⟩;have e:x++(bytes (r::l)++y)=(x++Co r)++(bytes l++y):=by rw[F0];simp[List.append_assoc]
  have el:x.length+(bytes (r::l)).length=(x++Co r).length+(bytes l).length:=by rw[F0,List.length_append,List.length_append];omega
  have h:=qT x (bytes l++y) j;rw[e,el]at a;have:=ih (x++Co r) y f (by rw[List.length_append];exact m) (by simp at d;omega) a;rw[e,el];unfold Dx;rw[← List.append_assoc]at h;rw[h];simp only;rw[if_pos k,← List.length_append,this]
def bY (s:List UInt8)(a k:Nat):Prop:=∀ i,a≤i→i<a+k→i<s.length→s[i]? =some 0
theorem mA:∀ l:List UInt8,(∀ i,i<l.length→l[i]? =some 0)→Oct.K7 l=0:=by
 intro l
 induction l with
 |nil=>intro _;rfl
 |cons c l ih=>
  intro h;have a:=h 0 (by simp);simp only[List.getElem?_cons_zero,Option.some.injEq]at a;have b:=ih (fun i d=>by have:=h (i+1) (by simpa using d);simpa using this);subst a;unfold Oct.K7 at b ⊢
  simpa using b
theorem mB {s:List UInt8}{a:Nat}(h:bY s a 4):Oct.Bq s a 4=0:=by
 unfold Oct.Bq;refine mA _ (fun i b=>?_);rw[List.length_take,List.length_drop]at b;rw[List.getElem?_take,if_pos (by omega),List.getElem?_drop];exact h _ (by omega) (by omega) (by omega)
structure Yt (s:List UInt8) (l:List Rec):Prop where
 row:Row 0 l
 pre:s.take (bytes l).length=bytes l
 room:(bytes l).length≤s.length
 zero:bY s (bytes l).length 128
theorem open_row {s:List UInt8}{l:List Rec}(a:Row 0 l)(c:s.take (bytes l).length=bytes l)(e:¬ Is s (bytes l).length){f:Nat}(h:l.length<f):Dx s f 0=(l,(bytes l).length):=by
 have g:s=[]++(bytes l++s.drop (bytes l).length):=by
  rw[List.nil_append]
  conv=>lhs;rw[← List.take_append_drop (bytes l).length s,c]
 have:=lZ l [] (s.drop (bytes l).length) f a h (fun r b d=>by
  rw[← g]at d;simp only[List.length_nil,Nat.zero_add]at d;rw[Mu e]at d
  cases d)
 rw[← g]at this
 simpa using this
def mix (s n:List UInt8)(q:Nat):List UInt8:=s.take q++n.drop q
theorem I2 {s n:List UInt8}{q:Nat}(h:s.length=n.length):(mix s n q).length=n.length:=by
 unfold mix;rw[List.length_append,List.length_take,List.length_drop];omega
theorem J0 {s n:List UInt8}{q:Nat}(h:s.length=n.length)(i:Nat):(mix s n q)[i]? =if i<q then s[i]? else n[i]? :=by
 unfold mix
 by_cases c:q≤s.length
 ·have b:(s.take q).length=q:=by rw[List.length_take];omega
  by_cases a:i<q
  ·rw[if_pos a,List.getElem?_append_left (by omega),List.getElem?_take,if_pos a]
  ·rw[if_neg a,List.getElem?_append_right (by omega),b,List.getElem?_drop]
   congr 1;omega
 ·rw[List.take_of_length_le (by omega),List.drop_of_length_le (by omega),List.append_nil]
  split
  ·rfl
  ·rw[List.getElem?_eq_none (by omega),List.getElem?_eq_none (by omega)]
theorem Yu {s n:List UInt8}{q:Nat}(h:s.length=n.length)(a:∀ i,i<q→s[i]? =n[i]?):mix s n q=n:=by
 refine List.ext_getElem? fun i=>?_;rw[J0 h]
 split
 ·rename_i b;exact a i b
 ·rfl
def flat (L:List ByteArray):List UInt8:=L.flatMap (·.data.toList)
def Whole (L:List ByteArray):Prop:=∀ b∈L,b.size=128
theorem qV:flat []=[]:=rfl
theorem E9 (b:ByteArray)(L:List ByteArray):flat (b::L)=b.data.toList++flat L:=rfl
theorem Si (L M:List ByteArray):flat (L++M)=flat L++flat M:=List.flatMap_append
theorem Whole.tail {b:ByteArray}{L:List ByteArray}(h:Whole (b::L)):b.data.toList.length=128∧Whole L:=
 ⟨by have:=h b (List.mem_cons_self ..);simpa using this,fun x a=>h x (List.mem_cons_of_mem _ a)⟩
theorem Whole.set {L:List ByteArray}(h:Whole L)(k:Nat){b:ByteArray}(c:b.size=128):Whole (L.set k b):=fun x d=>by
 rcases List.mem_or_eq_of_mem_set d with a|a
 ·exact h x a
 ·rw[a];exact c
theorem Whole.take {L:List ByteArray}(h:Whole L)(k:Nat):Whole (L.take k):=fun x a=>h x (List.mem_of_mem_take a)
theorem Whole.drop {L:List ByteArray}(h:Whole L)(k:Nat):Whole (L.drop k):=fun x a=>h x (List.mem_of_mem_drop a)
theorem Dc {L:List ByteArray}(h:Whole L):(flat L).length=L.length*128:=by
 induction L with
 |nil=>rfl
 |cons b L ih=>
  obtain⟨a,c⟩:=h.tail;rw[E9,List.length_append,a,ih c,List.length_cons];omega
theorem Ux {L:List ByteArray}(h:Whole L){b:ByteArray}(g:b.size=128):∀ (k:Nat),k<L.length→∀ i,(flat (L.set k b))[i]? =if k*128≤i∧i<k*128+128 then b.data.toList[i-k*128]? else(flat L)[i]? :=by
 have a:b.data.toList.length=128:=by simpa using g
 induction L with
 |nil=>intro k d;simp at d
 |cons c L ih=>
  obtain⟨e,j⟩:=h.tail;intro k d i
  cases k with
  |zero=>
   rw[List.set_cons_zero,E9,E9]
   by_cases l:i<128
   ·rw[if_pos (by omega),List.getElem?_append_left (by omega),Nat.zero_mul,Nat.sub_zero]
   ·rw[if_neg (by omega),List.getElem?_append_right (by omega),List.getElem?_append_right (by omega),a,e]
  |succ k=>
   rw[List.set_cons_succ,E9,E9]
   by_cases l:i<128
   ·rw[if_neg (by omega),List.getElem?_append_left (by omega),List.getElem?_append_left (by omega)]
   ·rw[List.getElem?_append_right (by omega),e,ih j k (by simpa using d) (i-128)]
    by_cases f:(k+1)*128≤i∧i<(k+1)*128+128
    ·rw[if_pos f,if_pos (by omega),show i-128-k*128=i-(k+1)*128 by omega]
    ·rw[if_neg f,if_neg (by omega),List.getElem?_append_right (by omega),e]
theorem qW {L:List ByteArray}{s n:List UInt8}{k:Nat}{b:ByteArray}(c:Whole L)(d:b.size=128)(e:k<L.length)(hlen:s.length=n.length)(h:flat L=mix s n ((k+1)*128))
 (f:b.data.toList=(n.drop (k*128)).take 128):flat (L.set k b)=mix s n (k*128):=by
 refine List.ext_getElem? fun i=>?_;rw[Ux c d k e,h,J0 hlen,J0 hlen]
 by_cases a:i<k*128
 ·rw[if_neg (by omega),if_pos (by omega),if_pos a]
 ·rw[if_neg a]
  by_cases g:i<k*128+128
  ·rw[if_pos (by omega),f,List.getElem?_take,if_pos (by omega),List.getElem?_drop];congr 1;omega
  ·rw[if_neg (by omega),if_neg (by omega)]
theorem mC {L:List ByteArray}(h:Whole L)(k:Nat):flat (L.drop k)=(flat L).drop (k*128):=by
 induction k generalizing L with
 |zero=>simp
 |succ k ih=>
  cases L with
  |nil=>simp[flat]
  |cons b L=>
   obtain⟨a,c⟩:=h.tail;rw[List.drop_succ_cons,ih c,E9,show(k+1)*128=128+k*128 by omega,← List.drop_drop,List.drop_left' a]
theorem Rp {L:List ByteArray}(h:Whole L)(k:Nat):flat (L.take k)=(flat L).take (k*128):=by
 induction k generalizing L with
 |zero=>simp[flat]
 |succ k ih=>
  cases L with
  |nil=>simp[flat]
  |cons b L=>
   obtain⟨a,c⟩:=h.tail;rw[List.take_succ_cons,E9,ih c,E9,show(k+1)*128=128+k*128 by omega,List.take_append,a,Nat.add_sub_cancel_left,List.take_of_length_le (l:=b.data.toList) (by omega)]
structure Dk where
 Ad:List ByteArray
 left:Int
 down:Bool
structure Lo where
 from_:Int
 n:Int
 end_:Int
 safe:Int
 tail:ByteArray
instance:DecidableEq Lo:=fun a b=>
 if h:a.from_=b.from_∧a.n=b.n∧a.end_=b.end_∧a.safe=b.safe∧a.tail=b.tail then
  .isTrue (by obtain⟨a1,a2,a3,a4,a5⟩:=a;obtain⟨b1,b2,b3,b4,b5⟩:=b;simp only at h;obtain⟨rfl,rfl,rfl,rfl,rfl⟩:=h;rfl)
 else .isFalse (fun e=>h (by subst e;exact⟨rfl,rfl,rfl,rfl,rfl⟩))
def yD:Lo:=⟨0,0,0,0,⟨#[]⟩⟩
def Cy:ByteArray:=⟨(List.replicate 128 0).toArray⟩
theorem J1:Cy.size=128:=by unfold Cy;show(List.replicate 128 (0:UInt8)).toArray.size=_;simp
def Kp (n:Nat):Dk:=⟨List.replicate n Cy,-1,false⟩
def Nr (d:Dk)(n:Int):Dk:={d with left:=if n<0 then -1 else n}
def Bs (d:Dk):Dk:={d with left:= -1,down:=false}
def Hi (d:Dk)(at_:Int):Prop:=0≤at_∧at_<(d.Ad.length:Int)
instance (d:Dk) (a:Int):Decidable (Hi d a):=by unfold Hi;exact inferInstance
def Qb (d:Dk)(at_:Int):ByteArray:=d.Ad[at_.toNat]?.getD ⟨#[]⟩
def Fy (d:Dk)(at_:Int):ByteArray×Int:=if d.down then(⟨#[]⟩,20)else if Hi d at_ then(Qb d at_,0)else(⟨#[]⟩,1)
def Cf (d:Dk)(at_:Int)(b:ByteArray):Dk×Int:=
 if d.down then(d,20)else if ¬ (Hi d at_∧b.size=128)then(d,1)else if d.left=0 then({d with down:=true},20)
 else({d with Ad:=d.Ad.set at_.toNat b,left:=if 0<d.left then d.left-1 else d.left},0)
def Fh (d:Dk)(from_:Int):Nat→Except Int (List UInt8)
 |0=>.ok []
 |n+1=>if(Fy d from_).2=0 then match Fh d (from_+1) n with
  | .ok l=>.ok ((Fy d from_).1.data.toList++l)
  | .error e=>.error e
  else .error (Fy d from_).2
def Lv (l:List UInt8):ByteArray:=⟨(l++List.replicate (128-l.length) 0).toArray⟩
theorem Sj {l:List UInt8}(h:l.length≤128):(Lv l).size=128:=by
 unfold Lv
 show(l++List.replicate (128-l.length) (0:UInt8)).toArray.size=_
 simp;omega
def Rq (l:List UInt8):List ByteArray:=if _h:l=[]then[]else Lv (l.take 128)::Rq (l.drop 128)
termination_by l.length
decreasing_by
 cases l with
 |nil=>contradiction
 |cons a l=>simp;omega
theorem Jh:Rq []=[]:=by rw[Rq];simp
theorem Of {l:List UInt8}(h:l≠[]):Rq l=Lv (l.take 128)::Rq (l.drop 128):=by
 conv=>lhs;rw[Rq]
 rw[dif_neg h]
def Jp (s:ByteArray):List ByteArray:=Rq s.data.toList
theorem mD (n:Nat):∀ l:List UInt8,l.length≤n→∀ b∈Rq l,b.size=128:=by
 induction n with
 |zero=>
  intro l e b c;rw[List.eq_nil_of_length_eq_zero (l:=l) (by omega),Jh]at c
  cases c
 |succ n f=>
  intro l e b c
  by_cases h:l=[]
  ·rw[h,Jh]at c;cases c
  ·rw[Of h]at c
   rcases List.mem_cons.1 c with d|d
   ·rw[d];exact Sj (by rw[List.length_take];omega)
   ·have g:0<l.length:=by cases l with
     |nil=>contradiction
     |cons a l=>simp
    exact f _ (by rw[List.length_drop];omega) b d
theorem Sk (n:Nat):∀ l:List UInt8,l.length≤n→(Rq l).length=(l.length+127)/128:=by
 induction n with
 |zero=>
  intro l b;rw[List.eq_nil_of_length_eq_zero (l:=l) (by omega),Jh];rfl
 |succ n ih=>
  intro l b
  by_cases h:l=[]
  ·rw[h,Jh];rfl
  ·have c:0<l.length:=by cases l with
    |nil=>contradiction
    |cons a l=>simp
   rw[Of h,List.length_cons,ih _ (by rw[List.length_drop];omega),List.length_drop];omega
theorem Ho (s:ByteArray):(Jp s).length=(s.size+127)/128:=by
 unfold Jp;rw[Sk _ _ (Nat.le_refl _)];simp
theorem Og (s:ByteArray):∀ b∈Jp s,b.size=128:=mD _ _ (Nat.le_refl _)
def Ci (base:Int)(all:List ByteArray):Nat→Dk→Dk×Int
 |0,d=>(d,0)
 |i+1,d=>if(Cf d (base+(i:Int)) (all[i]?.getD ⟨#[]⟩)).2=0 then Ci base all i (Cf d (base+(i:Int)) (all[i]?.getD ⟨#[]⟩)).1 else Cf d (base+(i:Int)) (all[i]?.getD ⟨#[]⟩)
def F1 (l:Lo):Int:=(l.end_-(l.tail.size:Int))/128
def F3 (l:Lo):List ByteArray:=if F1 l+(Jp l.tail).length<l.n then Jp l.tail++[Cy]else Jp l.tail
def Lm (l:Lo):Lo:={l with safe:=l.end_,tail:=l.tail.extract (l.tail.size-(l.end_%128).toNat) l.tail.size}
def A4 (d:Dk)(l:Lo):Dk×Lo×Int:=
 if l.safe=l.end_ then(d,l,0)else
 let x:=Ci (l.from_+F1 l) (F3 l) (F3 l).length d
 if x.2=0 then(x.1,Lm l,0)else(x.1,l,x.2)
noncomputable def Iq (d:Dk) (from_ n:Int):Lo×List Rc.Rec×Int:=
 match Fh d from_ n.toNat with
 | .error e=>(yD,[],e)
 | .ok s=>
   let x:=Dx s (s.length+1) 0
   (⟨from_,n,(x.2:Int),(x.2:Int),⟨((s.take x.2).drop (x.2-x.2%128)).toArray⟩⟩,x.1,0)
open Classical in
noncomputable def Bf (l:Lo) (r:Rc.Rec):Lo×Int×Int:=
 let r':Rc.Rec:={r with lsn:=l.end_+1}
 if ¬ Rc.Bz r' then(l,0,1)else
 if l.n*128-((Co r').length:Int)<l.end_ then(l,0,18)else
 ({l with end_:=l.end_+((Co r').length:Int),tail:=l.tail++⟨(Co r').toArray⟩},l.end_+1,0)
end Lg
namespace Go.Proofs.YtdfkambdagoojaaGreatDoor
open Go.RowKit
def I3 (b:ByteArray):List Value:=[.string b]
theorem bZ (b:ByteArray):(I3 b).length=1:=rfl
theorem Uy (l:List ByteArray):l.flatMap I3=l.map Value.string:=by
 induction l with
 |nil=>rfl
 |cons b l ih=>rw[List.flatMap_cons,ih];rfl
abbrev Dj (d:Lg.Dk)(A:Option Addr)(c:Nat):Value:=.agg #[.slice A d.Ad.length c,d.left,d.down]
structure Dv (w:World) (d:Lg.Dk) (A:Option Addr) (c:Nat):Prop where
 secs:Reads w A c d.Ad.length (d.Ad.flatMap I3)
 small:d.Ad.length≤1000000
theorem Dv.below {w w':World}{d:Lg.Dk}{A:Option Addr}{c:Nat}(h:Dv w d A c)(a:Bw w w'):Dv w' d A c:=⟨h.secs.below a,h.small⟩
theorem To (d:Lg.Dk)(A:Option Addr)(c:Nat)(a:Int)(w:World):
 Cr 221 #[Dj d A c,a] w (.bool (decide (Lg.Hi d a))):=by
 obtain⟨L,left,down⟩:=d
 by_cases b:0≤a
 ·by_cases e:a<(L.length:Int)
  ·rw[decide_eq_true (show Lg.Hi ⟨L,left,down⟩ a from And.intro b e)]
   go_enter Tryz.func221,Tryz.ntmps221;go_wp2_with fail;go_ret;exact⟨by simp,Ag _ _⟩
  ·rw[decide_eq_false (show ¬ Lg.Hi ⟨L,left,down⟩ a from fun h=>e h.2)]
   go_enter Tryz.func221,Tryz.ntmps221;go_wp2_with fail;go_ret;exact⟨by simp,Ag _ _⟩
 ·rw[decide_eq_false (show ¬ Lg.Hi ⟨L,left,down⟩ a from fun h=>b h.1)]
  go_enter Tryz.func221,Tryz.ntmps221;go_wp2_with fail;go_ret;exact⟨by simp,Ag _ _⟩
theorem W8 (d:Lg.Dk)(A:Option Addr)(c:Nat)(a:Int)(w:World)(h:Dv w d A c):
 Cr 203 #[Dj d A c,a] w (.tuple #[.string (Lg.Fy d a).1,.int .i64 (Lg.Fy d a).2]):=by
 have j:=Hq (fun W=>To d A c a W);have q:=Hq h.secs;clear h;unfold Lg.Fy
 cases l:d.down with
 |true=>
  obtain⟨L,left,down⟩:=d;simp only at l;subst l;rw[if_pos rfl];dsimp only[Dj];go_enter Tryz.func203,Tryz.ntmps203;go_wp2_with fail;go_ret2;exact⟨rfl,Ag _ _⟩
 |false=>
  rw[if_neg (by simp)]
  by_cases i:Lg.Hi d a
  ·rw[if_pos i]
   rw[decide_eq_true i]at j;obtain⟨L,left,down⟩:=d;simp only at l;subst l;unfold Lg.Hi at i;unfold Lg.Qb;dsimp only[Dj]at i j q ⊢;obtain⟨r,y⟩:=i;obtain⟨k,rfl⟩:=Int.eq_ofNat_of_zero_le r;have s:k<L.length:=(by omega);obtain⟨b,off,rfl,z,n,g⟩:=Cv bZ q.out s;have m:=g 0 _ rfl;simp only[Nat.mul_one,Nat.add_zero]at m;rw[Int.toNat_natCast,List.getElem?_eq_getElem s,Option.getD_some];generalize L[k]=x at m ⊢;have u:=Hq m;clear m g r;go_enter Tryz.func203,Tryz.ntmps203
   go_upto_region 5 with(go_at_call 221;(with_reducible refine(j.out _).mono ?_);rintro e t ⟨rfl,f⟩;have v:=Aa (Cn f))
   have B:t.cell? ⟨b,off+k,none⟩=some (.string x):=(Af (Ag w _) f).cell (p:=⟨b,off+k,none⟩) n|>.trans u.out
   have o:=Hq (Af (Ag w _) f);clear f;go_wp2_with fail;go_ret2;exact⟨rfl,o.out⟩
  ·rw[if_neg i]
   rw[decide_eq_false i]at j;clear i;obtain⟨L,left,down⟩:=d;simp only at l;subst l;dsimp only[Dj]at j ⊢;go_enter Tryz.func203,Tryz.ntmps203
   go_wp2_with(go_at_call 221;(with_reducible refine(j.out _).mono ?_);rintro e t ⟨rfl,f⟩)
   go_ret2;exact⟨rfl,Af (Ag _ _) f⟩
def Ie (x:Lg.Dk×Int)(A:Option Addr)(w:World)(e:Ending)(w':World):Prop:=
 ∃ A' c',e= .returned (.tuple #[Dj x.1 A' c',x.2])∧Dv w' x.1 A' c'∧(A'=A∨Df w.heap.size w' 9 A')∧Bw w w'
theorem mE (l:List ByteArray)(A:Option Addr)(c:Nat)(g:0<l.length)(k:l.length≤1000000)(w:World)(h:Reads w A c l.length (l.flatMap I3)):
 Cq 222 #[.slice A l.length c] w fun e w'=>∃ v,e= .returned v∧w'.ownsRow w.heap.size 9 1 v l.length (l.map Value.string)∧Bw w w':=by
 obtain⟨b,off,rfl,_,_,a⟩:=h g;refine(Tryz.slices_Clone_string b off l.length c l w (Nat.le_refl _) (by omega) (fun j f=>?_)).mono ?_
 ·have d:=a j (.string l[j]) (by rw[Uy];simp[f])
  rw[d,List.getD_eq_getElem?_getD,List.getElem?_eq_getElem f]
  rfl
 ·rintro e w' ⟨v,rfl,d,_,i⟩
  rw[List.take_length]at d;exact⟨v,rfl,d,i⟩
theorem Pj {d:Lg.Dk}{A:Option Addr}{c:Nat}{w w':World}{dn:Bool}{k:Int}{x:Lg.Dk×Int}(b:x=(⟨d.Ad,d.left,dn⟩,k))(h:Dv w d A c)(a:Bw w w'):Ie x A w (.returned (.tuple #[.agg #[.slice A d.Ad.length c,d.left,dn],k])) w':=by
 subst b;exact⟨A,c,rfl,⟨h.secs.below a,h.small⟩,.inl rfl,a⟩
theorem W9 {L:List ByteArray}{A a:Option Addr}{n c:Nat}{w w':World}{left:Int}{x:Lg.Dk×Int}(f:x=(⟨L,left,false⟩,0))(g:L.length=n){d:List Value}(h:Reads w' a c n d){M:List ByteArray}{k:Nat}{b:ByteArray}(i:d=(M.map Value.string).set k (.string b))(e:L=M.set k b)(j:L.length≤1000000)(l:Df w.heap.size w' 9 a)(m:Bw w w'):
 Ie x A w (.returned (.tuple #[.agg #[.slice a n c,left,false],()])) w':=by
 subst f g;refine⟨a,c,rfl,⟨?_,j⟩,.inr l,m⟩;rw[Uy]
 show Reads w' a c L.length (L.map Value.string)
 rw[i]at h;rw[e,List.map_set];rw[e]at h;exact h
theorem cA (L:List ByteArray)(left:Int)(A:Option Addr)(c:Nat)(a:Int)(b:ByteArray)(x:Lg.Dk×Int)(i:x=(⟨L,left,true⟩,20))(w:World)(h:Dv w ⟨L,left,true⟩ A c):
 Cq 186 #[.agg #[.slice A L.length c,left,true],a,b] w (Ie x A w):=by
 have j:=Hq (fun w' k=>Pj (dn:=true) i h (w':=w') k);dsimp only at j;clear i h;go_enter Tryz.func186,Tryz.ntmps186;go_upto_region 1 with fail;have d:=O2 w #[.slice A L.length c,left,true] 28 #['s',(),false] 28;have f:=Aa d.out.Am;obtain⟨l,e⟩:=Gz d;rw[← e]at d f ⊢;clear e;have g:=Hq (show l.heap[w.heap.size]? =some (.cells #[.slice A L.length c,left,true] 28 (0,0))from(by have h:=d.out.Am;simpa using h))
 go_wp2_with(first|with_reducible refine lL g.out Ej ?_|with_reducible refine lS #[.slice A L.length c,left,true] d.out.As ?_)
 refine rT2 (.int .i64 20) d.out.As Ej ?_;exact j.out _ ((d.out.row 1 _ _ rfl).below)
theorem fK (L:List ByteArray)(left:Int)(A:Option Addr)(c:Nat)(a:Int)(b:ByteArray)(i:¬ (Lg.Hi ⟨L,left,false⟩ a∧b.size=128))(x:Lg.Dk×Int)(y:x=(⟨L,left,false⟩,1))(w:World)(h:Dv w ⟨L,left,false⟩ A c):
 Cq 186 #[.agg #[.slice A L.length c,left,false],a,b] w (Ie x A w):=by
 have o:=Hq (fun w' z=>Pj (dn:=false) y h (w':=w') z);dsimp only at o;have m:=Hq (fun W=>To ⟨L,left,false⟩ A c a W);clear y h
 by_cases n:Lg.Hi ⟨L,left,false⟩ a
 ·rw[decide_eq_true n]at m
  have B:¬ b.size=128:=fun e=>i ⟨n,e⟩;have p:((b.size:Int)==128)=false:=by simp;omega
  have q:((b.size:Int) != 128)=true:=by simp;omega
  have r:(b.size==128)=false:=by simp;omega
  have s:(b.size != 128)=true:=by simp;omega
  clear i n;dsimp only[Dj]at m;go_enter Tryz.func186,Tryz.ntmps186;go_upto_region 1 with fail;have d:=O2 w #[.slice A L.length c,left,false] 28 #['s',(),false] 28;have j:=Aa d.out.Am;obtain⟨t,f⟩:=Gz d;rw[← f]at d j ⊢;clear f;have k:=Hq (show t.heap[w.heap.size]? =some (.cells #[.slice A L.length c,left,false] 28 (0,0))from(by have h:=d.out.Am;simpa using h))
  go_upto_region 4 with(first|with_reducible refine lL k.out Ej ?_|(go_at_call 221;(with_reducible refine(m.out _).mono ?_);rintro e u ⟨rfl,g⟩;have H1:=Hq (d.out.step g);clear g;have v:=Aa H1.out.Am))
  have l:=Hq (show u.heap[w.heap.size]? =some (.cells #[.slice A L.length c,left,false] 28 (0,0))from(by have h:=H1.out.Am;simpa using h));clear B p q r s
  go_wp2_with(first|with_reducible refine lL l.out Ej ?_|with_reducible refine lS #[.slice A L.length c,left,false] H1.out.As ?_)
  refine rT2 (.int .i64 1) H1.out.As Ej ?_;exact o.out _ ((H1.out.row 1 _ _ rfl).below)
 ·rw[decide_eq_false n]at m
  clear i n;dsimp only[Dj]at m;go_enter Tryz.func186,Tryz.ntmps186;go_upto_region 1 with fail;have d:=O2 w #[.slice A L.length c,left,false] 28 #['s',(),false] 28;have j:=Aa d.out.Am;obtain⟨t,f⟩:=Gz d;rw[← f]at d j ⊢;clear f;have k:=Hq (show t.heap[w.heap.size]? =some (.cells #[.slice A L.length c,left,false] 28 (0,0))from(by have h:=d.out.Am;simpa using h))
  go_upto_region 4 with(first|with_reducible refine lL k.out Ej ?_|(go_at_call 221;(with_reducible refine(m.out _).mono ?_);rintro e u ⟨rfl,g⟩;have H1:=Hq (d.out.step g);clear g;have v:=Aa H1.out.Am))
  have l:=Hq (show u.heap[w.heap.size]? =some (.cells #[.slice A L.length c,left,false] 28 (0,0))from(by have h:=H1.out.Am;simpa using h))
  go_wp2_with(first|with_reducible refine lL l.out Ej ?_|with_reducible refine lS #[.slice A L.length c,left,false] H1.out.As ?_)
  refine rT2 (.int .i64 1) H1.out.As Ej ?_;exact o.out _ ((H1.out.row 1 _ _ rfl).below)
theorem fL (L:List ByteArray)(A:Option Addr)(c:Nat)(a:Int)(b:ByteArray)(r:Lg.Hi ⟨L,0,false⟩ a)(u:b.size=128)(x:Lg.Dk×Int)(s:x=(⟨L,0,true⟩,20))(w:World)(h:Dv w ⟨L,0,false⟩ A c):
 Cq 186 #[.agg #[.slice A L.length c,(),false],a,b] w (Ie x A w):=by
 have t:=Hq (fun w' v=>Pj (dn:=true) s h (w':=w') v);dsimp only at t;have i:=Hq (fun W=>To ⟨L,0,false⟩ A c a W);rw[decide_eq_true r]at i;have j:((b.size:Int)==128)=true:=by simp;omega
 have k:((b.size:Int) != 128)=false:=by simp;omega
 have l:(b.size==128)=true:=by simp;omega
 have m:(b.size != 128)=false:=by simp;omega
 clear s h u r;dsimp only[Dj]at i;go_enter Tryz.func186,Tryz.ntmps186;go_upto_region 1 with fail;have d:=O2 w #[.slice A L.length c,(),false] 28 #['s',(),false] 28;have n:=Aa d.out.Am;obtain⟨y,f⟩:=Gz d;rw[← f]at d n ⊢;clear f;have o:=Hq (show y.heap[w.heap.size]? =some (.cells #[.slice A L.length c,(),false] 28 (0,0))from(by have h:=d.out.Am;simpa using h))
 go_upto_region 5 with(first|with_reducible refine lL o.out Ej ?_|(go_at_call 221;(with_reducible refine(i.out _).mono ?_);rintro e z ⟨rfl,g⟩;have H1:=Hq (d.out.step g);clear g;have B:=Aa H1.out.Am))
 clear j k l m;have C:=Aj H1.out.Am;go_upto_region 7 with fail;have p:=Hq (show(z.setCell ⟨w.heap.size,2,none⟩ (.bool true)).heap[w.heap.size]? =some (.cells #[.slice A L.length c,(),true] 28 (0,0))from by have h:=(H1.out.set 0 2 (.bool true) _ rfl).get 0 _ rfl;simpa using h);have q:=Hq (H1.out.set 0 2 (.bool true) _ rfl)
 go_wp2_with(first|with_reducible refine lL p.out Ej ?_|with_reducible refine lS #[.slice A L.length c,(),true] q.out.As ?_)
 refine rT2 (.int .i64 20) q.out.As Ej ?_;exact t.out _ ((q.out.row 1 _ _ rfl).below)
theorem mF (L:List ByteArray)(left:Int)(H:left≠0)(a7: -9223372036854775808≤left∧left≤9223372036854775807)(A:Option Addr)(c:Nat)(k:Nat)(b:ByteArray)(hk:k<L.length)(hs:b.size=128)(x:Lg.Dk×Int)(hx:x=(⟨L.set k b,if 0<left then left-1 else left,false⟩,0))(w:World)(h:Dv w ⟨L,left,false⟩ A c):
 Cq 186 #[.agg #[.slice A L.length c,left,false],.int .i64 (k:Int),b] w (Ie x A w):=by
 have C:=Hq (fun W=>To ⟨L,left,false⟩ A c k W);rw[decide_eq_true (show Lg.Hi ⟨L,left,false⟩ (k:Int)from⟨by omega,by show(k:Int)<(L.length:Int);omega⟩)]at C;have I:((b.size:Int)==128)=true:=by simp;omega
 have J:((b.size:Int) != 128)=false:=by simp;omega
 have K:(b.size==128)=true:=by simp;omega
 have N:(b.size != 128)=false:=by simp;omega
 have O:(left==0)=false:=by simpa using H
 have hlen:L.length≤1000000:=h.small;have HC:=Hq (fun W (hb:Bw w W)=>mE L A c (by omega) hlen W (h.secs.below hb));have D:=Hq hx;have a8:(k:Int)<(L.length:Int):=by omega
 clear hx h hs;dsimp only[Dj]at C;go_enter Tryz.func186,Tryz.ntmps186;go_upto_region 1 with fail;have m:=O2 w #[.slice A L.length c,left,false] 28 #['s',(),false] 28;have n:=Aa m.out.Am;obtain⟨W0,o⟩:=Gz m;rw[← o]at m n ⊢;clear o;have q:=Hq (show W0.heap[w.heap.size]? =some (.cells #[.slice A L.length c,left,false] 28 (0,0))from(by have h:=m.out.Am;simpa using h))
 go_upto_region 8 with(first|with_reducible refine lL q.out Ej ?_|(go_at_call 221;(with_reducible refine(C.out _).mono ?_);rintro e w1 ⟨rfl,r⟩;have H1:=Hq (m.out.step r);clear r;have P:=Aa H1.out.Am))
 clear I J K N O C n q m
 go_upto_region 9 with(first|(go_at_call 222;(with_reducible refine(HC.out _ H1.out.below).mono ?_);rintro e w2 ⟨v,rfl,Q,s⟩;obtain⟨A2,c2,rfl⟩:=Gd Q;have E:=Hq (H1.out.step s);have R:=Aj E.out.Am;have S:=Aa E.out.Am;clear s P))
 clear S R;have aa:=H1.out.lt (i:=1) (by simp);have t:=Lq Q ⟨w.heap.size,0,none⟩ (.slice A2 L.length c2) (by show w.heap.size<_;omega);obtain⟨g,cap,hv,hg,T,a6,d,u,a⟩:=yC t hk
 injection hv with U ae V
 subst U V;have F:=Hq (E.out.set 0 0 (.slice (some ⟨g,0,none⟩) L.length c2) _ rfl);simp only[Nat.add_zero]at F;obtain⟨W3,y⟩:=ex (w2.setCell ⟨w.heap.size,0,none⟩ (.slice (some ⟨g,0,none⟩) L.length c2));rw[← y]at F d u a T ⊢;have X:=Aa F.out.Am;rw[List.getElem?_eq_getElem (by simpa using hk)]at d;simp only[List.getElem_map]at d;have j:=Hq a;clear y E Q t a;go_upto_region 10 with fail;have Y:w.heap.size+2≤g:=by omega
 have l:=Hq (F.out.under (M:=g) (by show w.heap.size+2≤g;exact Y) ((Below.refl g W3).setCell (p:=⟨g,k,none⟩) (Nat.le_refl g) (.string b)));have f:=Hq (j.out (.string b));obtain⟨W4,z⟩:=ex (W3.setCell ⟨g,k,none⟩ (.string b));rw[← z]at l f ⊢;have af:=Aa l.out.Am;have ag:=Aj l.out.Am;clear z X d u j
 by_cases hp:0<left
 ·rw[if_pos hp]at D
  have ah:IntKind.i64.wrap (left-1)=left-1:=IntWalk.i64_in _ (by omega);go_upto_region 12 with fail;have G:=Hq (l.out.set 0 1 (.int .i64 (left-1)) _ rfl);have Z:=Hq (show(W4.setCell ⟨w.heap.size,1,none⟩ (.int .i64 (left-1))).heap[w.heap.size]? =some (.cells #[.slice (some ⟨g,0,none⟩) L.length c2,.int .i64 (left-1),false] 28 (0,0))from by have h:=G.out.Am;simpa using h);have B:=Hq (Lq f.out ⟨w.heap.size,1,none⟩ (.int .i64 (left-1)) (by show w.heap.size<_;omega))
  go_wp2_with(first|with_reducible refine lL Z.out Ej ?_|with_reducible refine lS #[.slice (some ⟨g,0,none⟩) L.length c2,.int .i64 (left-1),false] G.out.As ?_)
  refine rT2 () G.out.As Ej ?_;exact W9 D.out (by rw[List.length_set]) ((Ex B.out).eK _ _ (fun _ ad e=>(by injection e with e;rw[← e];show g≠w.heap.size+1;omega))) rfl rfl (by rw[List.length_set];exact hlen) (((Df.own B.out).row _ _).mono (by omega)) ((G.out.row 1 _ _ rfl).below)
 ·rw[if_neg hp]at D
  have a1:=Hq (show W4.heap[w.heap.size]? =some (.cells #[.slice (some ⟨g,0,none⟩) L.length c2,left,false] 28 (0,0))from(by have h:=l.out.Am;simpa using h))
  go_wp2_with(first|with_reducible refine lL a1.out Ej ?_|with_reducible refine lS #[.slice (some ⟨g,0,none⟩) L.length c2,left,false] l.out.As ?_)
  refine rT2 () l.out.As Ej ?_;exact W9 D.out (by rw[List.length_set]) ((Ex f.out).eK _ _ (fun _ ad e=>(by injection e with e;rw[← e];show g≠w.heap.size+1;omega))) rfl rfl (by rw[List.length_set];exact hlen) (((Df.own f.out).row _ _).mono (by omega)) ((l.out.row 1 _ _ rfl).below)
theorem Uz (d:Lg.Dk)(f: -9223372036854775808≤d.left∧d.left≤9223372036854775807)(A:Option Addr)(c:Nat)(a:Int)(b:ByteArray)(w:World)(h:Dv w d A c):
 Cq 186 #[Dj d A c,a,b] w (Ie (Lg.Cf d a b) A w):=by
 obtain⟨L,left,down⟩:=d
 cases down with
 |true=>exact cA L left A c a b _ (by unfold Lg.Cf;rw[if_pos rfl]) w h
 |false=>
  by_cases e:Lg.Hi ⟨L,left,false⟩ a∧b.size=128
  ·by_cases g:left=0
   ·subst g
    exact fL L A c a b e.1 e.2 _ (by unfold Lg.Cf;rw[if_neg (by simp),if_neg (fun i=>i e),if_pos rfl]) w h
   ·obtain⟨k,rfl⟩:=Int.eq_ofNat_of_zero_le e.1.1
    have j:k<L.length:=(by have l:=e.1.2;simp only at l;omega);exact mF L left g f A c k b j e.2 _ (by unfold Lg.Cf;rw[if_neg (by simp),if_neg (fun i=>i e),if_neg g];simp) w h
  ·exact fK L left A c a b e _ (by unfold Lg.Cf;rw[if_neg (by simp),if_pos e]) w h
theorem fM (n:Nat)(e:n≤4096)(W:World):(Instr.makeSlice 141 (.int .i64 (n:Int)) (.int .i64 (n:Int))).run Tryz.prog W= .ok (.slice (some ⟨W.heap.size,0,none⟩) n n) (W.alloc (.cells (madeCells #[Value.int .u8 0] n) 5)):=by
 obtain⟨i0,d,a,b,c⟩:=info_parts Ir;have h:=run_make (P:=Tryz.prog) W 141 5 i0 (.int .u8 0) Io d a .i64 .i64 n n (by omega) (by omega) (by rw[c];omega) (by omega);rw[b,Int.toNat_natCast,Nat.mul_one]at h;exact h
theorem fN (n:Nat)(W:World):(convert 141 9 (.slice (some ⟨W.heap.size,0,none⟩) n n)).run Tryz.prog (W.alloc (.cells (madeCells #[Value.int .u8 0] n) 5))= .ok (.string ⟨(List.replicate n 0).toArray⟩) (W.alloc (.cells (madeCells #[Value.int .u8 0] n) 5)):=by
 have h:=run_convert_bytes_back (P:=Tryz.prog) (W.alloc (.cells (madeCells #[Value.int .u8 0] n) 5)) 141 9 5 ⟨W.heap.size,0,none⟩ n (List.replicate n 0) Io pG Ua (fun j b=>by
  have a:j<n:=by simpa using b
  have c:(⟨W.heap.size,0,none⟩:Addr).add j=⟨W.heap.size,j,none⟩:=by
   unfold Addr.add;split
   ·rename_i h;rw[h]
   ·simp
  rw[c,World.cell?_alloc_new]
  simp[madeCells,a,Nat.mod_one])
 rw[List.length_replicate]at h;exact h
theorem Ns:(Tryz.prog.info? 9).map (fun i=>(i.zero,i.size,i.bytes))=some (some (.string ⟨#[]⟩),1,16):=by kernel_rfl
theorem mG (w:World):
 Cr 72 #[] w (.string Lg.Cy):=by
 have a:=fM 128 (by omega);have b:=fN 128;unfold Lg.Cy;generalize d:(⟨(List.replicate 128 0).toArray⟩:ByteArray)=R at b ⊢;clear d;have c:∀ W:World,(Instr.makeSlice 141 (.int .i64 128) (.int .i64 128)).run Tryz.prog W= .ok (.slice (some ⟨W.heap.size,0,none⟩) 128 128) (W.alloc (.cells (madeCells #[Value.int .u8 0] 128) 5)):=a;clear a;go_enter Tryz.func72,Tryz.ntmps72;go_wp2_with fail;go_ret;exact⟨rfl,Ag _ _⟩
def Yv (d:Lg.Dk)(w:World)(e:Ending)(w':World):Prop:=
 ∃ A c,e= .returned (.tuple #[Dj d A c,()])∧Dv w' d A c∧Df w.heap.size w' 9 A∧Bw w w'
theorem qX (n:Nat)(U:1≤n)(h2:n≤65536)(w:World):
 Cq 29 #[.int .i64 (n:Int)] w (Yv (Lg.Kp n) w):=by
 have O:=Hq (fun W=>mG W);have G:=Hq (fun v c A w' (l:Ep I3 1 9 (w.heap.size+2) w' v (List.replicate n Lg.Cy)) (V:v= .slice A n c) (X:Reads w' A c n ((List.replicate n Lg.Cy).flatMap I3)) (E:Bw w w')=>show Yv (Lg.Kp n) w (.returned (.tuple #[.agg #[.slice A n c,.int .i64 (-1),false],()])) w' from by
  refine⟨A,c,?_,⟨?_,?_⟩,?_,E⟩
  ·unfold Dj Lg.Kp;simp
  ·unfold Lg.Kp;simpa using X
  ·unfold Lg.Kp;simp;omega
  ·unfold Ep at l
   rw[List.length_replicate,V]at l;exact(Df.own l).mono (by omega))
 generalize Lg.Cy=z at O G ⊢;generalize Yv (Lg.Kp n) w=Q at G ⊢;have Y:¬ (n:Int)<1:=by omega
 have Z:(n:Int)≤65536:=by omega
 go_enter Tryz.func29,Tryz.ntmps29;go_upto_region 4 with fail;have H:=O2 w #['s',(),false] 28 #['s',.int .i64 (-1),false] 28;obtain⟨W0,q⟩:=Gz H;rw[← q]at H ⊢;clear q;go_wp2_with fail
 go_loopw [5] (fun i wr=>∃ (k:Nat) (v:Value),k≤n∧i= .int .i64 (k:Int)∧Fc w.heap.size w [(#['s',(),false],28),(#[v,.int .i64 (-1),false],28)] wr∧Ep I3 1 9 (w.heap.size+2) wr v (List.replicate k z)) (fun i _=>n-(intOf i).toNat)
 case atStart=>exact⟨0,.slice none 0 0,Nat.zero_le _,rfl,H.out,Ml _ _ _ _⟩
 case round=>
  obtain⟨k,v,hk,rfl,m,j⟩:=hrel;have r:=Hq m;have hO:wr.ownsRow (w.heap.size+2) 9 1 v k ((List.replicate k z).flatMap I3):=by
   have h:=j;unfold Ep at h
   rwa[List.length_replicate]at h
  have a1:=m.lt (i:=1) (by simp);obtain⟨A,c,rfl⟩:=Gd hO;clear m j
  by_cases a6:k<n
  ·go_upto_region 7 with fail
   have b:=Hq (r.out.drew);have s:=Ce hO (Below.refl _ wr).drew;refine Gh (S:=(fun u=>u.heap[w.heap.size+1]? =some (.cells #[.slice A k c,.int .i64 (-1),false] 28 (0,0)))) 6 Kr ?_ (fun a=>?_)
   ·first|exact hSn|exact b.out.As
   refine Oo 0 [6] ?_;refine Oo 1 [6] ?_;refine Bg (rs:=[2]) Kr (by simp) ?_;refine Ap.cons (o:={dst:=some 21,op:=_,type:=_,pos:=_,after:=_,guard:=_}) rfl (fun K d=>?_) ?_
   rotate_left
   ·exact Ap.nil
   go_simp
   refine(O.out _).mono ?_;rintro e F ⟨rfl,t⟩;have p:=b.out.step t;have hSn:=p.get 1 _ rfl;have x:=Ce s t;try go_simp
   refine Db d (fun a=>?_) (by first|exact hSn|exact b.out.As);clear d K;refine Bg (rs:=[3]) Kr (by simp) ?_;refine Ap.cons (o:={dst:=some 22,op:=_,type:=_,pos:=_,after:=_,guard:=_}) rfl (fun K d=>?_) ?_
   rotate_left
   ·exact Ap.nil
   go_simp
   have g:=p.step (Ag F (.cells #[z] 9));have hSn:=g.get 1 _ rfl;have y:=Ce x (Ag F (.cells #[z] 9));have P:=heap_alloc_new F (.cells #[z] 9);refine Db d (fun a=>?_) (by first|exact hSn|exact b.out.As);clear d K;refine Bg (rs:=[4]) Kr (by simp) ?_;refine Ap.cons (o:={dst:=some 23,op:=_,type:=_,pos:=_,after:=_,guard:=_}) rfl (fun K d=>?_) ?_
   rotate_left
   ·exact Ap.nil
   refine Cp (by rfl) ?_;refine Th _ (.tmp 20) (.tmp 22) 26 9 aC Ns rfl (by omega) (by omega) rfl (w.heap.size+2) _ k ((List.replicate k z).flatMap I3) rfl y F.heap.size (I3 z) 9 rfl P rfl (by simp[I3,Value.oneCell']) (by omega) (by have U:=g.lt (i:=1) (by simp);omega) ?_;intro v7 w7 l hg E;obtain⟨R,T,rfl⟩:=Gd l;have f:=g.under (M:=w.heap.size+2) (Nat.le_refl _) E;have hSn:=f.get 1 _ rfl;have B:=Aa (f.get 1 _ rfl);have I:=Aj (f.get 1 _ rfl);refine Db d (fun a=>?_) (by first|exact hSn|exact b.out.As);clear d K;refine Oo 5 [6] ?_;refine Bg (rs:=[6]) Kr (by simp) ?_;refine Ap.last (o:={dst:=none,op:=_,type:=_,pos:=_,after:=_,guard:=_}) rfl Kr (fun K d=>?_) ?_
   rotate_left
   ·exact Ap.nil
   go_simp
   refine d.out _ _ ?_;clear d K
   try simp only[Act.put,pS]
   refine Gg Kr ?_ _;have J:=Hq (f.set 1 0 (.slice R (k+1) T) _ rfl);have L:=Hq (Lq l ⟨w.heap.size+1,0,none⟩ (.slice R (k+1) T) (by show w.heap.size+1<_;omega));clear hO s x y l hg E p g f hSn B I P a b r;go_wp2_with fail;go_roundw
   case rel=>exact⟨k+1,_,by omega,by go_num,(by have h:=J.out;first|exact h|simpa using h),(by
    have h:=L.out;unfold Ep;rw[List.length_replicate,List.replicate_succ',List.flatMap_append]
    simpa using h)⟩
   case measure=>simp[intOf];omega
  ·obtain rfl:k=n:=by omega
   have N:=Hq r.out.As;have C:=Hq (show wr.heap[w.heap.size]? =some (.cells #['s',(),false] 28 (0,0))from by have h:=r.out.Am;simpa using h)
   go_wp2_with(first|with_reducible refine lL N.out Ej ?_|with_reducible refine lS #[.slice A k c,.int .i64 (-1),false] C.out ?_)
   refine rT2 () C.out Ej ?_;have D:=N6 hO w.heap.size #[.slice A k c,.int .i64 (-1),false] (by omega);exact G.out _ c A _ (by unfold Ep;rw[List.length_replicate];exact D) rfl (Ex D) (by have h:=(r.out.row 0 #[.slice A k c,.int .i64 (-1),false] _ rfl).below;simpa using h)
theorem uX (d:Lg.Dk)(A:Option Addr)(c:Nat)(n:Int)(w:World):
 Cr 38 #[Dj d A c,n] w (Dj (Lg.Nr d n) A c):=by
 obtain⟨L,left,down⟩:=d;unfold Lg.Nr;dsimp only[Dj]
 by_cases j:n<0
 ·rw[if_pos j]
  go_enter Tryz.func38,Tryz.ntmps38;go_upto_region 1 with fail;have a:=O2 w #[.slice A L.length c,left,down] 28 #['s',(),false] 28;obtain⟨f,b⟩:=Gz a;rw[← b]at a ⊢;have g:=Aa a.out.Am;have i:=Aj a.out.Am;clear b;go_upto_region 4 with fail;have H1:=Hq (a.out.set 0 1 (.int .i64 (-1)) _ rfl);have e:=Hq (show(f.setCell ⟨w.heap.size,1,none⟩ (.int .i64 (-1))).heap[w.heap.size]? =some (.cells #[.slice A L.length c,.int .i64 (-1),down] 28 (0,0))from by have h:=H1.out.Am;simpa using h)
  go_wp2_with(first|with_reducible refine lL e.out Ej ?_|with_reducible refine lS #[.slice A L.length c,.int .i64 (-1),down] H1.out.As ?_)
  refine rT1 H1.out.As Ej ?_;exact⟨rfl,(H1.out.row 1 _ _ rfl).below⟩
 ·rw[if_neg j]
  go_enter Tryz.func38,Tryz.ntmps38;go_upto_region 1 with fail;have a:=O2 w #[.slice A L.length c,left,down] 28 #['s',(),false] 28;obtain⟨f,b⟩:=Gz a;rw[← b]at a ⊢;have g:=Aa a.out.Am;have i:=Aj a.out.Am;clear b;go_upto_region 4 with fail;have H1:=Hq (a.out.set 0 1 (.int .i64 n) _ rfl);have e:=Hq (show(f.setCell ⟨w.heap.size,1,none⟩ (.int .i64 n)).heap[w.heap.size]? =some (.cells #[.slice A L.length c,n,down] 28 (0,0))from by have h:=H1.out.Am;simpa using h)
  go_wp2_with(first|with_reducible refine lL e.out Ej ?_|with_reducible refine lS #[.slice A L.length c,n,down] H1.out.As ?_)
  refine rT1 H1.out.As Ej ?_;exact⟨rfl,(H1.out.row 1 _ _ rfl).below⟩
theorem Rr (d:Lg.Dk)(A:Option Addr)(c:Nat)(w:World):
 Cr 10 #[Dj d A c] w (Dj (Lg.Bs d) A c):=by
 obtain⟨L,left,down⟩:=d;unfold Lg.Bs;dsimp only[Dj];go_enter Tryz.func10,Tryz.ntmps10;go_upto_region 1 with fail;have a:=O2 w #[.slice A L.length c,left,down] 28 #['s',(),false] 28;obtain⟨f,b⟩:=Gz a;rw[← b]at a ⊢;have g:=Aa a.out.Am;have i:=Aj a.out.Am;clear b;go_upto_region 3 with fail;have H1:=Hq ((a.out.set 0 1 (.int .i64 (-1)) _ rfl).set 0 2 (.bool false) _ rfl);have e:=Hq (show((f.setCell ⟨w.heap.size,1,none⟩ (.int .i64 (-1))).setCell ⟨w.heap.size,2,none⟩ (.bool false)).heap[w.heap.size]? =some (.cells #[.slice A L.length c,.int .i64 (-1),false] 28 (0,0))from by have h:=H1.out.Am;simpa using h)
 go_wp2_with(first|with_reducible refine lL e.out Ej ?_|with_reducible refine lS #[.slice A L.length c,.int .i64 (-1),false] H1.out.As ?_)
 refine rT1 H1.out.As Ej ?_;exact⟨rfl,(H1.out.row 1 _ _ rfl).below⟩
end Go.Proofs.YtdfkambdagoojaaGreatDoor
namespace Lg
theorem Nt (n:Nat):(⟨(Go.Lib.repeatL [(0:UInt8)] n).toArray⟩:ByteArray)=⟨(List.replicate n 0).toArray⟩:=by
 congr 2
 induction n with
 |zero=>rfl
 |succ n ih=>
  rw[List.replicate_succ,← ih]
  rfl
theorem qY (t:ByteArray)(m:Nat)(b:m=min t.size 128):t.extract 0 m++(⟨(Go.Lib.repeatL [(0:UInt8)] (128-m)).toArray⟩:ByteArray)=Lv (t.data.toList.take 128):=by
 rw[Nt];unfold Lv
 apply ByteArray.ext
 rw[ByteArray.data_append]
 apply Array.toList_inj.1
 rw[Array.toList_append];have e:(t.extract 0 m).data.toList=t.data.toList.take 128:=by
  simp only[ByteArray.data_extract,Array.toList_extract,List.extract_eq_take_drop,Nat.sub_zero,List.drop_zero];have a:t.data.toList.length=t.size:=by simp
  by_cases h:t.size≤128
  ·rw[List.take_of_length_le (by omega),List.take_of_length_le (by omega)]
  ·rw[show m=128 by omega]
 have a:(t.data.toList.take 128).length=m:=by rw[List.length_take];simp;omega
 rw[e,a]
theorem qZ (t:ByteArray)(m:Nat)(c:m=min t.size 128)(d:0<t.size):Jp t=Lv (t.data.toList.take 128)::Jp (t.extract m t.size):=by
 unfold Jp;have b:t.data.toList≠[]:=fun e=>by
  have a:t.data.toList.length=t.size:=by simp
  rw[e,List.length_nil]at a;omega
 rw[Of b]
 congr 2
 simp only[ByteArray.data_extract,Array.toList_extract,List.extract_eq_take_drop];have a:t.data.toList.length=t.size:=by simp
 rw[List.take_of_length_le (by rw[List.length_drop];omega)]
 by_cases h:t.size≤128
 ·rw[List.drop_of_length_le (i:=128) (by omega),List.drop_of_length_le (i:=m) (by omega)]
 ·rw[show m=128 by omega]
theorem rC (t:ByteArray)(a:t.size=0):Jp t=[]:=by
 unfold Jp;have b:t.data.toList=[]:=List.eq_nil_of_length_eq_zero (by simpa using a);rw[b,Jh]
end Lg
namespace Go.Proofs.YtdfkambdagoojaaGreatDoor
open Go.RowKit
abbrev Qc (l:Lg.Lo):Value:=.agg #[l.from_,l.n,l.end_,l.safe,l.tail]
def fO (l:List ByteArray)(w:World)(e:Ending)(w':World):Prop:=∃ v,e= .returned v∧Ep I3 1 9 w.heap.size w' v l∧Bw w w'
theorem uY (s:ByteArray)(hs:s.size≤1000000)(w:World):
 Cq 185 #[s] w (fO (Lg.Jp s) w):=by
 have N:=Hq (fun v w' (L:Ep I3 1 9 w.heap.size w' v (Lg.Jp s)) (M:Bw w w')=>show fO (Lg.Jp s) w (.returned v) w' from⟨v,rfl,L,M⟩);generalize fO (Lg.Jp s) w=Q at N ⊢;obtain⟨C,hC⟩:=ex (Lg.Jp s);have a7:C.length≤8000:=by rw[hC,Lg.Ho];omega
 rw[← hC]at N;have HC:=Hq hC;have HR:=Hq (fun(c:Nat) (hc:c≤128) W=>Tryz.strings_Repeat ⟨#[0]⟩ c W (by omega) (show(⟨#[0]⟩:ByteArray).size*c≤140737488355328 from(by show 1*c≤_;have:c≤128:=hc;omega)));clear hC;go_enter Tryz.func185,Tryz.ntmps185;go_wp2_with fail
 go_loopw [0,3] (fun O v wr=>∃ (t:ByteArray) (ls:List ByteArray),O= .string t∧t.size≤1000000∧ls++Lg.Jp t=C∧Ep I3 1 9 w.heap.size wr v ls∧Bw w wr) (fun O _ _=>(match O with| .string t=>t.size|_=>0))
 case atStart=>exact⟨s,[],rfl,hs,HC.out.symm,Ml _ _ _ _,Below.refl _ _⟩
 case round=>
  obtain⟨t,ls,rfl,a8,g,hO,hB⟩:=hrel;have P:=Hq hB;have aa:ls.length≤8000:=by have:=congrArg List.length g;rw[List.length_append]at this;omega
  have n:=Hq g;clear hB g
  by_cases h0:0<t.size
  ·obtain⟨m,R⟩:=ex (min t.size 128)
   have ad:min (t.size:Int) 128=(m:Int):=(by omega);have ae:m≤t.size:=(by omega);have af:m≤128:=(by omega);have ag:(0:Int)≤(m:Int):=(by omega);have ah:(m:Int)≤(t.size:Int):=(by omega);have d:(128:Int)-(m:Int)=((128-m:Nat):Int):=(by omega);have T:IntKind.i64.wrap ((128:Int)-(m:Int))=((128-m:Nat):Int):=(by rw[d];exact IntWalk.i64_in _ (by omega));have o:IntKind.i64.wrap ((128-m:Nat):Int)=((128-m:Nat):Int):=IntWalk.i64_in _ (by omega);have HJ:=Hq (Lg.qY t m R);have HN:=Hq (Lg.qZ t m R h0);have p:=Lg.Sj (l:=t.data.toList.take 128) (by rw[List.length_take];omega);have q:(t.extract m t.size).size<t.size:=(by rw[ByteArray.size_extract];omega);have u:=Hq q;have U:=HR.out (128-m) (show 128-m≤128 by omega);have b:(t.extract 0 m).size+(⟨(Lib.repeatL [(0:UInt8)] (128-m)).toArray⟩:ByteArray).size≤9223372036854775807:=by
    rw[Lg.Nt,ByteArray.size_extract]
    show _+(List.replicate (128-m) (0:UInt8)).toArray.size≤_
    simp
    omega
   have V:=Hq U;obtain⟨z,X⟩:=ex (⟨(Lib.repeatL [(0:UInt8)] (128-m)).toArray⟩:ByteArray);obtain⟨y,hy⟩:=ex (Lg.Lv (t.data.toList.take 128):ByteArray);have B:Hid (∀ W,Cr 183 #[.string ⟨#[0]⟩,.int .i64 ((128-m:Nat):Int)] W (.string z)):=Hq (by rw[X];exact U);rw[← X]at HJ b;rw[← hy]at HJ HN p;have D:∀ W:World,(Op.stringOp .add (t.extract 0 m) z).run Tryz.prog W= .ok (.string y) W:=fun W=>by rw[← HJ.out];exact run_string_add_sum W _ _ b
   obtain⟨r,hr⟩:=ex (128-m:Nat);rw[← hr]at d T o B;clear U HR V R X hy q hr b;obtain⟨A,c,rfl⟩:=Gd hO;go_upto_region 4 with fail;have E:=Ce hO (Below.refl _ wr).drew;have i:=P.out.drew;refine Hw (S:=(fun _=>True)) (fun a=>?_) (by trivial);refine Be 0 ?_;refine Be 1 ?_;refine Be 2 ?_;refine Be 3 ?_;refine Be 4 ?_;refine Be 5 ?_;refine D3 6 fun K f=>?_
   go_simp
   refine(B.out _).mono ?_;rintro e Y ⟨rfl,F⟩;have G:=Ce E F;have j:=i.trans (F.mono i.size);try go_simp
   refine Db f (fun a=>?_) (by trivial);clear f K;refine Be 7 ?_;refine D3 8 fun K f=>?_
   go_simp
   have H:=Ce G (Ag Y (.cells #[y] 9));have k:=j.alloc j.size (.cells #[y] 9);have hG:=heap_alloc_new Y (.cells #[y] 9);refine Db f (fun a=>?_) (by trivial);clear f K;refine D3 9 fun K f=>?_;refine Cp (by rfl) ?_;refine Th _ (.tmp 11) (.tmp 19) 26 9 aC Ns rfl (by omega) (by omega) rfl w.heap.size _ ls.length (ls.flatMap I3) rfl H Y.heap.size (I3 y) 9 rfl hG rfl (by simp[I3,Value.oneCell']) (by omega) k.size ?_;intro v7 w7 L hg M;have I:=k.trans M;refine Db f (fun a=>?_) (by trivial);clear f K;refine Be 10 ?_;refine wpAnyH_done Kr ?_ _;have Z:=Hq (Ep.push (enc:=I3) (x:=y) L);have a1:=Hq I;clear hO E G H i j k I L hg M hG a P D p;go_wp2_with fail;go_roundw
   case rel=>exact⟨_,ls++[y],rfl,by have:=u.out;omega,by rw[List.append_assoc];have h:=n.out;rw[HN.out]at h;exact h,Z.out,a1.out⟩
   case measure=>exact u.out
  ·have a6:t.size=0:=by omega
   have J:ls=C:=(by have h:=n.out;rwa[Lg.rC t a6,List.append_nil]at h);subst J;go_wp2_with fail;exact N.out _ _ hO P.out
theorem Mv (s:List UInt8)(a k:Nat):Oct.Bq s a k<256^k:=by
 have b:=Oct.Hz ((s.drop a).take k);have c:256^((s.drop a).take k).length≤256^k:=Nat.pow_le_pow_right (by omega) (by rw[List.length_take];omega);unfold Oct.Bq;omega
theorem J2 (s:ByteArray)(a n:Nat):s.extract a (a+n)=⟨((s.data.toList.drop a).take n).toArray⟩:=by
 apply ByteArray.ext
 rw[ByteArray.data_extract]
 apply Array.toList_inj.1
 rw[Array.toList_extract,List.extract_eq_take_drop]
 simp
end Go.Proofs.YtdfkambdagoojaaGreatDoor
namespace Rc
theorem cB {l:List UInt8}{st b:St}{k:Nat}{n:Int}{adv:Bool}(h:Bm adv l st k=(n,b)):0≤n∧n<((256^k:Nat):Int):=by
 have d:Oct.Bq l st.at_ k<256^k:=by
  have a:=Oct.Hz ((l.drop st.at_).take k);have c:256^((l.drop st.at_).take k).length≤256^k:=Nat.pow_le_pow_right (by omega) (by rw[List.length_take];omega);unfold Oct.Bq;omega
 unfold Bm at h
 split at h
 ·injection h with a c;subst a;omega
 ·injection h with a c;subst a
  have:0<256^k:=Nat.pow_pos (by omega);omega
end Rc
namespace Go.Proofs.YtdfkambdagoojaaGreatDoor
open Go.RowKit
abbrev Dl:Array Value:=#[(),(),(),(),(),(),(),(),(),"","",(),(),"",(),(),'s','s']
structure L7 (n:Nat) (w:World) (r:Rc.Rec) (A:Option Addr) (c:Nat) (B:Option Addr) (d:Nat):Prop where
 rr:Hc w r A c B d
 ta:Df n w 83 A
 tb:Df n w 65 B
theorem L7.mono {n m:Nat}{w:World}{r:Rc.Rec}{A B:Option Addr}{c d:Nat}(h:L7 n w r A c B d)(a:m≤n):L7 m w r A c B d:=⟨h.rr,h.ta.mono a,h.tb.mono a⟩
theorem L7.below {n:Nat}{w w':World}{r:Rc.Rec}{A B:Option Addr}{c d:Nat}(h:L7 n w r A c B d)(a:Bw w w'):L7 n w' r A c B d:=⟨h.rr.below a,h.ta.below a,h.tb.below a⟩
theorem L7.L6 {n:Nat}{w v:World}{r:Rc.Rec}{A B:Option Addr}{c d:Nat}(h:L7 n w r A c B d)(t:w.heap.size≤v.heap.size)(i:∀ k cs T fr,n≤k→w.heap[k]? =some (.cells cs T fr)→T=83∨T=65→v.heap[k]? =w.heap[k]?):L7 n v r A c B d:=by
 refine⟨⟨fun l=>?_,fun l=>?_,h.rr.small⟩,fun m e=>?_,fun m e=>?_⟩
 ·obtain⟨g,off,f,o,p,q⟩:=h.rr.txns l
  obtain⟨a,cs,fr,b⟩:=h.ta _ f;refine⟨g,off,f,o,Nat.lt_of_lt_of_le p t,fun j u s=>?_⟩;have:=q j u s;unfold World.cell? at this ⊢;rw[i _ _ _ _ a b (.inl rfl)];exact this
 ·obtain⟨g,off,f,o,p,q⟩:=h.rr.dirty l
  obtain⟨a,cs,fr,b⟩:=h.tb _ f;refine⟨g,off,f,o,Nat.lt_of_lt_of_le p t,fun j u s=>?_⟩;have:=q j u s;unfold World.cell? at this ⊢;rw[i _ _ _ _ a b (.inr rfl)];exact this
 ·obtain⟨a,cs,fr,b⟩:=h.ta m e
  exact⟨a,cs,fr,(i _ _ _ _ a b (.inl rfl)).trans b⟩
 ·obtain⟨a,cs,fr,b⟩:=h.tb m e
  exact⟨a,cs,fr,(i _ _ _ _ a b (.inr rfl)).trans b⟩
theorem L7.row {n:Nat}{w:World}{r:Rc.Rec}{A B:Option Addr}{c d:Nat}(h:L7 n w r A c B d)(b:Nat)(cs:Array Value)(a:b<n):L7 n (w.setRow b cs) r A c B d:=
 h.L6 (by show _≤(w.heap.modify _ _).size;simp) (fun k _ _ _ e _ _=>Aw _ _ _ _ (by omega))
theorem L7.grown {n m size i:Nat}{w w':World}{r:Rc.Rec}{A B:Option Addr}{c d:Nat}{e:TypeId}{v:Value}{xs:List Value}(h:L7 n w r A c B d)(j:w.ownsRow i e size v m xs)(l:e≠83)(o:e≠65)(b:w.grownBy w' v.ownBlock):L7 n w' r A c B d:=
 h.L6 b.size (fun k p u q _ f s=>b.block k (C8 f) (fun t=>aH j f (fun g=>by
  rcases s with a|a
  ·exact l (g.trans a)
  ·exact o (g.trans a)) t.symm))
def yT (r:Rc.Rec)(b:Nat)(w:World)(e:Ending)(w':World):Prop:=
 ∃ A c B d,e= .returned (Dp r (.slice A r.txns.length c) (.slice B r.dirty.length d))∧L7 w.heap.size w' r A c B d∧C7 w.heap.size b w w'
theorem Nu (w:World)(b:Nat)(cs:Array Value)(k:Nat)(h:k≠b):(w.setRow b cs).heap[k]? =w.heap[k]? :=by
 show(w.heap.modify b _)[k]? =_
 rw[Array.getElem?_modify,if_neg (fun e=>h e.symm)]
end Go.Proofs.YtdfkambdagoojaaGreatDoor
namespace Rc
structure Rest {α:Type} (one:St→α×St) (len:Nat) (TS:List α) (sT:St) (ts:List α) (m:Nat) (st:St):Prop where
 list:ts++(Ha one m st).1=TS
 state:(Ha one m st).2=sT
 inn:st.bad=false→st.at_≤len
 lim:st.at_≤len+500
theorem Rest.stop {α:Type}{one:St→α×St}{len:Nat}{a b:List α}{c st:St}(h:Rest one len a c b 0 st):b=a∧st=c:=⟨by simpa[Ha]using h.list,by simpa[Ha]using h.state⟩
theorem cC {α:Type}{one:St→α×St}{m:Nat}{st:St}(a:st.bad=true):Ha one m st=([],st):=by
 cases m with
 |zero=>rfl
 |succ m=>unfold Ha;rw[if_pos a]
theorem Rest.bad {α:Type}{one:St→α×St}{len m:Nat}{a b:List α}{c st:St}(h:Rest one len a c b m st)(f:st.bad=true):b=a∧st=c:=by
 have d:=h.list;have e:=h.state;rw[cC f]at d e;exact⟨by simpa using d,e⟩
theorem Rest.next {α:Type}{one:St→α×St}{len m:Nat}{b c:List α}{d st a:St}{x:α}(h:Rest one len b d c m st)(n:0<m)(i:st.bad=false)(j:one st=(x,a))(l:a.bad=false→a.at_≤len)(o:a.at_≤len+100):
 Rest one len b d (c++[x]) (m-1) a:=by
 obtain⟨m,rfl⟩:∃ k,m=k+1:=⟨m-1,by omega⟩;have e:Ha one (m+1) st=(x::(Ha one m a).1,(Ha one m a).2):=by
  conv=>lhs;unfold Ha
  rw[if_neg (by rw[i];simp),j]
 have f:=h.list;have g:=h.state;rw[e]at f g;exact⟨by rw[Nat.add_sub_cancel,List.append_assoc];exact f,g,l,by omega⟩
end Rc
namespace Go.Proofs.YtdfkambdagoojaaGreatDoor
open Go.RowKit
theorem Oh {w:World}{B:Nat}{e:TypeId}{size n:Nat}{v:Value}{xs:List Value}(h:w.ownsRow B e size v n xs)(b:Nat)(cs:Array Value)(i:b<B):(w.setRow b cs).ownsRow B e size v n xs:=by
 refine⟨h.1,?_⟩;rcases h.2 with a|⟨g,cap,cur,c,d,f,r⟩
 ·exact .inl a
 ·exact .inr ⟨g,cap,cur,c,d,by rw[Nu _ _ _ _ (by omega)];exact f,r⟩
theorem rD:(Tryz.prog.info? 83).map (fun i=>(i.zero,i.size,i.bytes))=some (some (.agg #[(),(),(),false]),4,32):=by kernel_rfl
theorem U0:(Tryz.prog.info? 65).map (fun i=>(i.zero,i.size,i.bytes))=some (some (.agg #[(),()]),2,16):=by kernel_rfl
end Go.Proofs.YtdfkambdagoojaaGreatDoor
namespace Lg
theorem Mw {s:List UInt8}{a:Nat}(h:s.length<a+8∨s.length<a+8+Oct.Bq s a 4):Jz s a=none:=
 Mu fun b=>by have:=b.1;omega
theorem rE {s:List UInt8}{a:Nat}(h:Oct.Bq s (a+4) 4≠Oct.Fg (Bk s a)):Jz s a=none:=Mu fun b=>h b.2.1
end Lg
namespace Go.Proofs.YtdfkambdagoojaaGreatDoor
open Go.RowKit
def Kq (o:Option (Rc.Rec×Nat))(w:World)(e:Ending)(w':World):Prop:=
 Bw w w'∧match o with
 |some (r,n)=>∃ A c B d,e= .returned (.tuple #[Dp r (.slice A r.txns.length c) (.slice B r.dirty.length d),.int .i64 (n:Int),()])∧L7 w.heap.size w' r A c B d
 |none=>∃ k:Int,k≠0∧e= .returned (.tuple #[.agg Dl,(),k])
theorem get_none {o:Option (Rc.Rec×Nat)}{w w':World}(h:o=none)(a:Bw w w')(k:Int)(b:k≠0):Kq o w (.returned (.tuple #[.agg Dl,(),k])) w':=by
 subst h;exact⟨a,k,b,rfl⟩
theorem uZ {a b:ByteArray}(h:a≠b):(a.toList != b.toList)=true:=by
 simp only[bne_iff_ne,ne_eq];intro e
 apply h
 rw[ByteArray.toList_eq,ByteArray.toList_eq]at e;exact ByteArray.ext (Array.toList_inj.1 e)
theorem Gv {w u:World}(a:Bw w u)(cs:Array Value):Bw w (u.setRow w.heap.size cs):=
 ⟨a.os,a.tape,a.output,by show _≤(u.heap.modify _ _).size;have:=a.size;simpa using this,fun k b=>(Nu _ _ _ _ (by omega)).trans (a.block k b)⟩
end Go.Proofs.YtdfkambdagoojaaGreatDoor
namespace Lg
structure Acc (d:Dk) (f:Int) (N k:Nat) (l:List UInt8):Prop where
 le:k≤N
 eq:Fh d f N=match Fh d (f+(k:Int)) (N-k)with
  | .ok r=>.ok (l++r)
  | .error e=>.error e
theorem Acc.zero (d:Dk)(f:Int)(N:Nat):Acc d f N 0 []:=⟨Nat.zero_le _,by
 simp only[Nat.sub_zero,List.nil_append];rw[show f+((0:Nat):Int)=f by omega]
 cases Fh d f N<;>rfl⟩
theorem Acc.next {d:Dk}{f:Int}{N k:Nat}{l:List UInt8}(h:Acc d f N k l)(a:k<N)(b:(Fy d (f+(k:Int))).2=0):Acc d f N (k+1) (l++(Fy d (f+(k:Int))).1.data.toList):=by
 refine⟨a,?_⟩;rw[h.eq,show N-k=(N-(k+1))+1 by omega];rw[show f+((k+1:Nat):Int)=f+(k:Int)+1 by omega]
 conv=>lhs;unfold Fh
 rw[if_pos b]
 cases Fh d (f+(k:Int)+1) (N-(k+1))with
 |ok r=>simp only[List.append_assoc]
 |error e=>rfl
theorem Acc.fault {d:Dk}{f:Int}{N k:Nat}{l:List UInt8}(h:Acc d f N k l)(b:k<N)(a:(Fy d (f+(k:Int))).2≠0):Fh d f N= .error (Fy d (f+(k:Int))).2:=by
 rw[h.eq,show N-k=(N-(k+1))+1 by omega]
 conv=>lhs;unfold Fh
 rw[if_neg a]
theorem Acc.done {d:Dk}{f:Int}{N:Nat}{l:List UInt8}(h:Acc d f N N l):Fh d f N= .ok l:=by
 rw[h.eq,Nat.sub_self];unfold Fh
 simp
theorem cE {d:Dk}{a:Int}(h:(Fy d a).2=0):Hi d a∧(Fy d a).1=Qb d a:=by
 unfold Fy at h ⊢
 split at h
 ·cases h
 ·split at h
  ·rename_i c b
   rw[if_neg c,if_pos b];exact⟨b,rfl⟩
  ·cases h
theorem fP {d:Dk}{a:Int}(c:∀ b∈d.Ad,b.size≤1000):(Qb d a).size≤1000:=by
 unfold Qb
 cases h:d.Ad[a.toNat]? with
 |none=>show(0:Nat)≤1000;omega
 |some b=>exact c b (List.mem_of_getElem? h)
theorem fQ {d:Dk}:∀ (n:Nat) {f k:Int},Fh d f n= .error k→k≠0:=by
 intro n
 induction n with
 |zero=>intro f k h;cases h
 |succ n b=>
  intro f k h;unfold Fh at h
  split at h
  ·cases a:Fh d (f+1) n with
   |ok l=>rw[a]at h;cases h
   |error e=>rw[a]at h;injection h with h;subst h;exact b a
  ·rename_i c;injection h with h;rw[← h];exact c
end Lg
namespace Go.Proofs.YtdfkambdagoojaaGreatDoor
open Go.RowKit
def vA:Except Int (List UInt8)→Value
 | .ok l=>.tuple #[.string ⟨l.toArray⟩,()]
 | .error k=>.tuple #["",k]
def Yw (r:Except Int (List UInt8))(w:World)(e:Ending)(w':World):Prop:=Bw w w'∧e= .returned (vA r)
theorem Aan (n:Nat)(h:n<18446744073709551616)(size:Nat)(a:size≤8):(Oct.Bj (n:Int) size).data.toList=Oct.Bp n size:=by
 rw[Oct.Ch _ _ a]
 congr 1
 unfold Oct.word;omega
theorem rF (s:ByteArray)(j:s.size≤1000000)(w:World):
 Cq 188 #[s] w fun e w'=>∃ x:ByteArray,e= .returned (.string x)∧x.data.toList=Oct.Bp (Oct.Fg s.data.toList) 4++s.data.toList∧Bw w w':=by
 have h:=Hq (fun W=>jD s (by omega) W);have c:Oct.Fg s.data.toList<18446744073709551616:=by have:=Oct.Xy s.data.toList;omega
 have a:(Oct.Bj ((Oct.Fg s.data.toList:Nat):Int) 4).data.toList=Oct.Bp (Oct.Fg s.data.toList) 4:=Aan _ c 4 (by omega);generalize Oct.Fg s.data.toList=n at h a ⊢;have i:=Hq (fun W=>I9 (n:Int) 4 (by omega) (by omega) W);have f:(Oct.Bj (n:Int) 4).size=4:=Oct.Bx _ 4 (by omega);have d:(Oct.Bj (n:Int) 4).size+s.size≤281474976710656:=by omega
 have b:(Oct.Bj (n:Int) 4++s).data.toList=Oct.Bp n 4++s.data.toList:=by
  rw[ByteArray.data_append,Array.toList_append,a]
 clear c a;generalize Oct.Bj (n:Int) 4=x at i f d b;go_enter Tryz.func188,Tryz.ntmps188
 go_wp2_with(first|(go_at_call 223;refine(h.out _).mono ?_;rintro e k ⟨rfl,rfl⟩)|(go_at_call 171;refine(i.out _).mono ?_;rintro e l ⟨rfl,g⟩))
 go_ret;exact⟨_,rfl,b,g⟩
def U1 (r:Rc.Rec)(w:World)(e:Ending)(w':World):Prop:=
 (∃ x:ByteArray,Rc.Bz r∧e= .returned (.tuple #[x,()])∧x.data.toList=Lg.Co r∨¬ Rc.Bz r∧e= .returned (.tuple #["",.int .i64 1]))∧Bw w w'
theorem U2 (r:Rc.Rec)(A D:Option Addr)(c d:Nat)(w:World)(t:Hc w r A c D d)(m:r.kind=2∨r.kind=3∨r.kind=8):
 Cq 184 #[Dp r (.slice A r.txns.length c) (.slice D r.dirty.length d)] w (U1 r w):=by
 have f:=Hq (fun W (h:Bw w W)=>fF r A D c d W (t.below h) m);have l:=Hq (heap_alloc_new w (.cells (Ec r (.slice A r.txns.length c) (.slice D r.dirty.length d)) 47))
 cases g:Rc.Et r with
 |false=>
  rw[g]at f;have n:¬ Rc.Bz r:=fun h=>by rw[Rc.I0 h]at g;cases g
  have o:=Hq (fun w' (h:Bw w w')=>show U1 r w (.returned (.tuple #["",.int .i64 1])) w' from⟨⟨⟨#[]⟩,.inr ⟨n,rfl⟩⟩,h⟩);clear n g t;generalize U1 r w=Q at o ⊢;obtain⟨B,prev,C,kind,Ab,next,N,⟨ok,os,O,on⟩,E,root,⟨P,R,es⟩,S,T⟩:=r;dsimp only[Dp,Ec]at f l ⊢;go_enter Tryz.func184,Tryz.ntmps184
  go_wp2_with(first
   |with_reducible refine lL l.out Ca ?_
   |(go_at_call 219;(with_reducible refine(f.out _ (Ag _ _)).mono ?_);rintro e U ⟨rfl,b⟩))
  exact o.out _ (Af (Ag _ _) b)
 |true=>
  rw[g]at f;have u:Rc.Bz r:=Rc.Kn.1 g;have v:=Hq (fun W (h:Bw w W)=>qS r u A D c d W (t.below h) m);obtain⟨y,F⟩:=ex (⟨(Rc.Bl r).toArray⟩:ByteArray);rw[← F]at v;have i:y.data.toList=Rc.Bl r:=by rw[F]
  have hlen:=Rc.I1 u;have p:y.size=(Rc.Bl r).length:=by rw[← i];simp
  have G:y.size≤1000000:=by omega
  have V:=Hq (fun W=>rF y G W);have L:=Hq (fun W=>I9 (y.size:Int) 4 (by omega) (by omega) W);have j:(Oct.Bj (y.size:Int) 4).data.toList=Oct.Bp y.size 4:=Aan _ (by omega) 4 (by omega);have H:(Oct.Bj (y.size:Int) 4).size=4:=Oct.Bx _ 4 (by omega);generalize Oct.Bj (y.size:Int) 4=z at L j H;have o:=Hq (fun w' (x:ByteArray) (a:x.data.toList=Oct.Bp (Oct.Fg y.data.toList) 4++y.data.toList) (h:Bw w w')=>show U1 r w (.returned (.tuple #[.string (z++x),()])) w' from⟨⟨z++x,.inl ⟨u,rfl,by rw[ByteArray.data_append,Array.toList_append,j,a,i,p];rfl⟩⟩,h⟩);have X:=Hq (fun(x:ByteArray) (a:x.data.toList=Oct.Bp (Oct.Fg y.data.toList) 4++y.data.toList)=>show x.size≤1000004 from by
   have e:x.size=x.data.toList.length:=(by simp);rw[e,a,List.length_append,Oct.A0];have Z:y.data.toList.length=y.size:=(by simp);omega)
  clear u g t F i hlen p j;generalize U1 r w=Q at o ⊢;obtain⟨B,prev,C,kind,Ab,next,N,⟨ok,os,O,on⟩,E,root,⟨P,R,es⟩,S,T⟩:=r;dsimp only[Dp,Ec]at f l v ⊢;go_enter Tryz.func184,Tryz.ntmps184
  go_upto_region 3 with(first
   |with_reducible refine lL l.out Ca ?_
   |(go_at_call 219;(with_reducible refine(f.out _ (Ag _ _)).mono ?_);rintro e U ⟨rfl,b⟩))
  have q:=Hq (Ae l.out b);have k:=Hq (Af (Ag w _) b);clear b l f
  go_upto_region 4 with(first
   |with_reducible refine lL q.out Ca ?_
   |(go_at_call 220;(with_reducible refine(v.out _ k.out).mono ?_);rintro e w2 ⟨rfl,s⟩))
  have I:=Hq (Af k.out s);clear s k q v
  go_wp2_with(first|(go_at_call 171;refine(L.out _).mono ?_;rintro e w3 ⟨rfl,J⟩)|(go_at_call 188;refine(V.out _).mono ?_;rintro e w4 ⟨x,rfl,a,K⟩;have Y:=X.out x a;have M:z.size+x.size≤281474976710656:=(by omega)))
  exact o.out _ x a (Af (Af I.out J) K)
end Go.Proofs.YtdfkambdagoojaaGreatDoor
namespace Lg
theorem Qd {l:Lo}{r:Rc.Rec}(h:¬ Rc.Bz {r with lsn:=l.end_+1}):Bf l r=(l,0,1):=by
 unfold Bf;simp only;rw[if_pos h]
theorem Sl {l:Lo}{r:Rc.Rec}(h:Rc.Bz {r with lsn:=l.end_+1})(a:l.n*128-((Co {r with lsn:=l.end_+1}).length:Int)<l.end_):Bf l r=(l,0,18):=by
 unfold Bf;simp only;rw[if_neg (fun b=>b h),if_pos a]
theorem Xa {l:Lo}{r:Rc.Rec}(h:Rc.Bz {r with lsn:=l.end_+1})(a:¬ l.n*128-((Co {r with lsn:=l.end_+1}).length:Int)<l.end_):Bf l r=({l with end_:=l.end_+((Co {r with lsn:=l.end_+1}).length:Int),tail:=l.tail++⟨(Co {r with lsn:=l.end_+1}).toArray⟩},l.end_+1,0):=by
 unfold Bf;simp only;rw[if_neg (fun b=>b h),if_neg a]
end Lg
namespace Go.Proofs.YtdfkambdagoojaaGreatDoor
open Go.RowKit
theorem fR (r:Rc.Rec)(b:Rc.Bz r)(A D:Option Addr)(c d:Nat)(w:World)(f:Hc w r A c D d)(a:r.kind=2∨r.kind=3∨r.kind=8):
 Cr 184 #[Dp r (.slice A r.txns.length c) (.slice D r.dirty.length d)] w (.tuple #[.string ⟨(Lg.Co r).toArray⟩,()]):=by
 refine(U2 r A D c d w f a).mono ?_;rintro e w' ⟨⟨x,h⟩,g⟩;rcases h with⟨_,rfl,i⟩|⟨h,_⟩
 ·exact⟨by rw[← i],g⟩
 ·exact absurd b h
theorem mH (r:Rc.Rec)(b:¬ Rc.Bz r)(A D:Option Addr)(c d:Nat)(w:World)(f:Hc w r A c D d)(a:r.kind=2∨r.kind=3∨r.kind=8):
 Cr 184 #[Dp r (.slice A r.txns.length c) (.slice D r.dirty.length d)] w (.tuple #["",.int .i64 1]):=by
 refine(U2 r A D c d w f a).mono ?_;rintro e w' ⟨⟨x,h⟩,g⟩;rcases h with⟨h,_⟩|⟨_,rfl⟩
 ·exact absurd h b
 ·exact⟨rfl,g⟩
def Yx (x:Lg.Lo×Int×Int)(w:World)(e:Ending)(w':World):Prop:=e= .returned (.tuple #[Qc x.1,x.2.1,x.2.2])∧Bw w w'
theorem fS (l:Lg.Lo)(af:0≤l.end_)(ag:l.end_≤1000000000)(ah: -1000000000≤l.n)(ai:l.n≤1000000000)(ht:l.tail.size≤1000000000)(r:Rc.Rec)(A D:Option Addr)(c d:Nat)(w:World)(R:Hc w r A c D d)(a6:r.kind=2∨r.kind=3∨r.kind=8):
 Cq 127 #[Qc l,Dp r (.slice A r.txns.length c) (.slice D r.dirty.length d)] w (Yx (Lg.Bf l r) w):=by
 have P:=Hq (fun v W (hb:Bw w W)=>fR {r with lsn:=l.end_+1} v A D c d W ⟨R.txns.below hb,R.dirty.below hb,R.small⟩ a6);have Q:=Hq (fun v W (hb:Bw w W)=>mH {r with lsn:=l.end_+1} v A D c d W ⟨R.txns.below hb,R.dirty.below hb,R.small⟩ a6);have HN:=Hq (@Lg.Qd l r);have H:=Hq (@Lg.Sl l r);have I:=Hq (@Lg.Xa l r);generalize Lg.Bf l r=o at HN H I ⊢;clear R;obtain⟨k,n,a,m,g⟩:=l;obtain⟨lsn,prev,b,kind,Ab,next,y,⟨ok,os,z,on⟩,f,root,⟨B,C,es⟩,E,F⟩:=r;dsimp only[Dp,Ec,Qc]at P Q HN H I af ag ah ai ht ⊢;have ao:IntKind.i64.wrap (a+1)=a+1:=IntWalk.i64_in _ (by omega)
 by_cases v:Rc.Bz ⟨a+1,prev,b,kind,Ab,next,y,⟨ok,os,z,on⟩,f,root,⟨B,C,es⟩,E,F⟩
 ·have HP:=Hq (P.out v)
  have t:=Hq (H.out v);have i:=Hq (I.out v);have J:(Lg.Co ⟨a+1,prev,b,kind,Ab,next,y,⟨ok,os,z,on⟩,f,root,⟨B,C,es⟩,E,F⟩).length≤40008:=by rw[Lg.Fp];have:=(Rc.I1 v).2;omega
  obtain⟨x,hx⟩:=ex (⟨(Lg.Co ⟨a+1,prev,b,kind,Ab,next,y,⟨ok,os,z,on⟩,f,root,⟨B,C,es⟩,E,F⟩).toArray⟩:ByteArray);have a7:(Lg.Co ⟨a+1,prev,b,kind,Ab,next,y,⟨ok,os,z,on⟩,f,root,⟨B,C,es⟩,E,F⟩).length=x.size:=by rw[hx];show _=((Lg.Co ⟨a+1,prev,b,kind,Ab,next,y,⟨ok,os,z,on⟩,f,root,⟨B,C,es⟩,E,F⟩).toArray).size;simp
  rw[a7]at t i J;rw[← hx]at HP i;have aq:=J;clear P Q HN H I v hx a7 J;go_enter Tryz.func127,Tryz.ntmps127;go_upto_region 1 with fail;have p:=Ti w #[k,n,a,m,g] 30 (Bt lsn prev b kind Ab next y ok os z on f root B C es (.slice A E.length c) (.slice D F.length d)) 47 #[(),(),(),(),""] 30;obtain⟨T,q⟩:=Gz p;have U:T.heap.size=w.heap.size+3:=by rw[q];simp
  rw[← q]at p ⊢;have V:=Aa p.out.Am;have X:=Aa p.out.As;have Y:=Aj p.out.As;clear q;go_upto_region 2 with fail;have H1:=Hq (show Fc w.heap.size w [(#[k,n,a,m,g],30),((Bt (a+1) prev b kind Ab next y ok os z on f root B C es (.slice A E.length c) (.slice D F.length d)),47),(#[(),(),(),(),""],30)] (T.setCell ⟨w.heap.size+1,0,none⟩ (.int .i64 (a+1)))from by have h:=p.out.set 1 0 (.int .i64 (a+1)) _ rfl;simpa using h);obtain⟨W1,L⟩:=ex (T.setCell ⟨w.heap.size+1,0,none⟩ (.int .i64 (a+1)));rw[← L]at H1 ⊢;clear L V X Y p U;have M:=Hq H1.out.As
  go_upto_region 3 with(first
   |with_reducible refine lL M.out Ca ?_
   |(go_at_call 184;(with_reducible refine(HP.out _ H1.out.below).mono ?_);rintro e w2 ⟨rfl,N⟩))
  have G:=Hq (H1.out.step N);clear N H1 M HP;have hm:IntKind.i64.wrap (n*128)=n*128:=IntWalk.i64_in _ (by omega);have ar:IntKind.i64.wrap (n*128-(x.size:Int))=n*128-(x.size:Int):=IntWalk.i64_in _ (by omega);have au:IntKind.i64.wrap (a+(x.size:Int))=a+(x.size:Int):=IntWalk.i64_in _ (by omega)
  by_cases Z:n*128-(x.size:Int)<a
  ·have HO:=Hq (t.out Z)
   have j:=Hq (show w2.heap[w.heap.size]? =some (.cells #[k,n,a,m,g] 30 (0,0))from by have h:=G.out.Am;simpa using h);have a8:=Aa j.out;clear t i
   go_wp2_with(first
    |with_reducible refine lL j.out Ks ?_
    |with_reducible refine lS #[k,n,a,m,g] G.out.Cc ?_)
   refine rT3 () (.int .i64 18) G.out.Cc Ks ?_;rw[HO.out];exact⟨rfl,(G.out.row 2 _ _ rfl).below⟩
  ·have HO:=Hq (i.out (by omega))
   have aa:∀ W:World,(Op.stringOp .add g x).run Tryz.prog W= .ok (.string (g++x)) W:=fun W=>run_string_add_sum W _ _ (by omega);have j:=Hq (show w2.heap[w.heap.size]? =some (.cells #[k,n,a,m,g] 30 (0,0))from by have h:=G.out.Am;simpa using h);have a8:=Aa j.out;have aj:=Aj j.out;clear t i;go_upto_region 8 with fail;have H3:=Hq (show Fc w.heap.size w [(#[k,n,.int .i64 (a+(x.size:Int)),m,g],30),((Bt (a+1) prev b kind Ab next y ok os z on f root B C es (.slice A E.length c) (.slice D F.length d)),47),(#[(),(),(),(),""],30)] (w2.setCell ⟨w.heap.size,2,none⟩ (.int .i64 (a+(x.size:Int))))from by have h:=G.out.set 0 2 (.int .i64 (a+(x.size:Int))) _ rfl;simpa using h);obtain⟨W3,ad⟩:=ex (w2.setCell ⟨w.heap.size,2,none⟩ (.int .i64 (a+(x.size:Int))));rw[← ad]at H3 ⊢;clear ad a8 aj j G;have ak:=Aa H3.out.Am;have an:=Aj H3.out.Am;go_upto_region 9 with fail;have H4:=Hq (show Fc w.heap.size w [(#[k,n,.int .i64 (a+(x.size:Int)),m,.string (g++x)],30),((Bt (a+1) prev b kind Ab next y ok os z on f root B C es (.slice A E.length c) (.slice D F.length d)),47),(#[(),(),(),(),""],30)] (W3.setCell ⟨w.heap.size,4,none⟩ (.string (g++x)))from by have h:=H3.out.set 0 4 (.string (g++x)) _ rfl;simpa using h);obtain⟨W4,ae⟩:=ex (W3.setCell ⟨w.heap.size,4,none⟩ (.string (g++x)));rw[← ae]at H4 ⊢;clear ae ak an H3 aa;have s:=Hq H4.out.drew;refine Hw (S:=(fun u=>u.heap[w.heap.size]? =some (.cells #[k,n,.int .i64 (a+(x.size:Int)),m,.string (g++x)] 30 (0,0))∧u.heap[w.heap.size+1]? =some (.cells (Bt (a+1) prev b kind Ab next y ok os z on f root B C es (.slice A E.length c) (.slice D F.length d)) 47 (0,0)))) (fun O=>?_) (by first|exact hSn|exact⟨(by have h:=s.out.Am;simpa using h),s.out.As⟩);refine Be 0 ?_;refine Be 1 ?_;refine Be 2 ?_;refine D3 3 fun K hK=>?_;refine Cp (by rfl) ?_;refine sW #[k,n,.int .i64 (a+(x.size:Int)),m,.string (g++x)] s.out.Cc ?_;have a1:=s.out.row 2 #[k,n,.int .i64 (a+(x.size:Int)),m,.string (g++x)] _ rfl;have hSn:=And.intro (show _=some (Obj.cells #[k,n,.int .i64 (a+(x.size:Int)),m,.string (g++x)] 30 (0,0))from by have h:=a1.get 0 _ rfl;simpa using h) (a1.get 1 _ rfl);refine Db hK (fun O=>?_) (by first|exact hSn|exact⟨(by have h:=s.out.Am;simpa using h),s.out.As⟩);clear hK K
   try simp only[Act.put]
   refine Be 4 ?_;refine Be 5 ?_;refine wpAnyH_done Kr ?_ _;clear O;go_wp2_with fail;refine rT3 (.int .i64 (a+1)) () s.out.Cc Ks ?_;rw[HO.out];exact⟨rfl,a1.below⟩
 ·have HO:=Hq (HN.out v)
  have HP:=Hq (Q.out v);clear P Q HN H I v;go_enter Tryz.func127,Tryz.ntmps127;go_upto_region 1 with fail;have p:=Ti w #[k,n,a,m,g] 30 (Bt lsn prev b kind Ab next y ok os z on f root B C es (.slice A E.length c) (.slice D F.length d)) 47 #[(),(),(),(),""] 30;obtain⟨T,q⟩:=Gz p;have U:T.heap.size=w.heap.size+3:=by rw[q];simp
  rw[← q]at p ⊢;have V:=Aa p.out.Am;have X:=Aa p.out.As;have Y:=Aj p.out.As;clear q;go_upto_region 2 with fail;have H1:=Hq (show Fc w.heap.size w [(#[k,n,a,m,g],30),((Bt (a+1) prev b kind Ab next y ok os z on f root B C es (.slice A E.length c) (.slice D F.length d)),47),(#[(),(),(),(),""],30)] (T.setCell ⟨w.heap.size+1,0,none⟩ (.int .i64 (a+1)))from by have h:=p.out.set 1 0 (.int .i64 (a+1)) _ rfl;simpa using h);obtain⟨W1,L⟩:=ex (T.setCell ⟨w.heap.size+1,0,none⟩ (.int .i64 (a+1)));rw[← L]at H1 ⊢;clear L V X Y p U;have M:=Hq H1.out.As
  go_upto_region 3 with(first
   |with_reducible refine lL M.out Ca ?_
   |(go_at_call 184;(with_reducible refine(HP.out _ H1.out.below).mono ?_);rintro e w2 ⟨rfl,N⟩))
  have G:=Hq (H1.out.step N);clear N H1 M HP;have j:=Hq (show w2.heap[w.heap.size]? =some (.cells #[k,n,a,m,g] 30 (0,0))from by have h:=G.out.Am;simpa using h)
  go_wp2_with(first
   |with_reducible refine lL j.out Ks ?_
   |with_reducible refine lS #[k,n,a,m,g] G.out.Cc ?_)
  refine rT3 () (.int .i64 1) G.out.Cc Ks ?_;rw[HO.out];exact⟨rfl,(G.out.row 2 _ _ rfl).below⟩
end Go.Proofs.YtdfkambdagoojaaGreatDoor
namespace Lg
theorem cF {d:Dk}{a:Int}{b:ByteArray}(h: -9223372036854775808≤d.left∧d.left≤9223372036854775807): -9223372036854775808≤(Cf d a b).1.left∧(Cf d a b).1.left≤9223372036854775807:=by
 unfold Cf
 split
 ·exact h
 split
 ·exact h
 split
 ·exact h
 ·show _≤(if 0<d.left then d.left-1 else d.left)∧(if 0<d.left then d.left-1 else d.left)≤_
  split<;>omega
theorem fT {d:Dk}{a:Int}{b:ByteArray}:(Cf d a b).1.Ad.length=d.Ad.length:=by
 unfold Cf
 split
 ·rfl
 split
 ·rfl
 split
 ·rfl
 ·simp
theorem mI {base:Int}{all:List ByteArray}{k:Nat}{d d2:Dk}(a:Cf d (base+(k:Int)) (all[k]?.getD ⟨#[]⟩)=(d2,0)):Ci base all (k+1) d=Ci base all k d2:=by
 conv=>lhs;unfold Ci
 rw[a,if_pos rfl]
theorem cG {base:Int}{all:List ByteArray}{k:Nat}{d d2:Dk}{e:Int}(a:e≠0)(b:Cf d (base+(k:Int)) (all[k]?.getD ⟨#[]⟩)=(d2,e)):Ci base all (k+1) d=(d2,e):=by
 unfold Ci;rw[b,if_neg a]
theorem fU {d:Dk}{l:Lo}(h:l.safe=l.end_):A4 d l=(d,l,0):=by unfold A4;rw[if_pos h]
theorem fV {d d2:Dk}{l:Lo}{e:Int}(h:¬ l.safe=l.end_)(a:e≠0)(b:Ci (l.from_+F1 l) (F3 l) (F3 l).length d=(d2,e)):A4 d l=(d2,l,e):=by
 unfold A4;rw[if_neg h];simp only[b];rw[if_neg a]
theorem mJ {d d2:Dk}{l:Lo}(h:¬ l.safe=l.end_)(a:Ci (l.from_+F1 l) (F3 l) (F3 l).length d=(d2,0)):A4 d l=(d2,Lm l,0):=by
 unfold A4;rw[if_neg h];simp only[a];rw[if_pos trivial]
theorem rG (l:Lo):(F3 l).length≤l.tail.size/128+2:=by
 unfold F3;have:=Ho l.tail
 split
 ·rw[List.length_append,List.length_singleton];omega
 ·omega
end Lg
namespace Go.Proofs.YtdfkambdagoojaaGreatDoor
open Go.RowKit
def L8 (x:Lg.Dk×Lg.Lo×Int)(A:Option Addr)(w:World)(e:Ending)(w':World):Prop:=
 ∃ A' c',e= .returned (.tuple #[Dj x.1 A' c',Qc x.2.1,x.2.2])∧Dv w' x.1 A' c'∧(A'=A∨Df w.heap.size w' 9 A')∧Bw w w'
theorem fW (L:List ByteArray)(left:Int)(down:Bool)(A:Option Addr)(c:Nat)(fr n en:Int)(b:ByteArray)(o:Lg.Dk×Lg.Lo×Int)(p:o=(⟨L,left,down⟩,⟨fr,n,en,en,b⟩,0))(w:World)(h:Dv w ⟨L,left,down⟩ A c):
 Cq 128 #[.agg #[.slice A L.length c,left,down],.agg #[fr,n,en,en,b]] w (L8 o A w):=by
 have r:=Hq (fun w' (q:Bw w w')=>show L8 o A w (.returned (.tuple #[.agg #[.slice A L.length c,left,down],.agg #[fr,n,en,en,b],()])) w' from by
  subst p;exact⟨A,c,rfl,⟨h.secs.below q,h.small⟩,.inl rfl,q⟩)
 have d:(en==en)=true:=by simp
 clear p h;go_enter Tryz.func128,Tryz.ntmps128;go_upto_region 1 with fail;have i:=nW4 w #[.slice A L.length c,left,down] 28 #[fr,n,en,en,b] 30 #['s',(),false] 28 #[(),(),(),(),""] 30;have l:((((w.alloc (.cells #[.slice A L.length c,left,down] 28)).alloc (.cells #[fr,n,en,en,b] 30)).alloc (.cells #['s',(),false] 28)).alloc (.cells #[(),(),(),(),""] 30)).heap.size=w.heap.size+4:=by simp
 obtain⟨s,e⟩:=Gz i;rw[← e]at i l ⊢;clear e;have m:=Aa i.out.As;go_upto_region 2 with fail;clear m d;have j:=Hq i.out.drew;refine Hw (S:=(fun u=>u.heap[w.heap.size]? =some (.cells #[.slice A L.length c,left,down] 28 (0,0))∧u.heap[w.heap.size+1]? =some (.cells #[fr,n,en,en,b] 30 (0,0)))) (fun a=>?_) ⟨(j.out.Am),(j.out.As)⟩;refine Be 0 ?_;refine Be 1 ?_;refine D3 2 fun K f=>?_;refine Cp (by rfl) ?_;refine sW #[.slice A L.length c,left,down] j.out.Cc ?_;have k:=Hq (j.out.row 2 #[.slice A L.length c,left,down] _ rfl);have hSn:=And.intro (k.out.Am) (k.out.As);refine Db f (fun a=>?_);clear f K
 try simp only[Act.put]
 refine D3 3 fun K f=>?_;refine Cp (by rfl) ?_;refine sW #[fr,n,en,en,b] k.out.g3 ?_;have g:=Hq (k.out.row 3 #[fr,n,en,en,b] _ rfl);clear hSn;have hSn:=And.intro (g.out.Am) (g.out.As);refine Db f (fun a=>?_);clear f K
 try simp only[Act.put]
 refine Be 4 ?_;refine wpAnyH_done Kr ?_ _;clear a hSn;go_wp2_with fail;refine bodyPost_ret (v:=.tuple #[.agg #[.slice A L.length c,left,down],.agg #[fr,n,en,en,b],()]) (Lr rfl _ _ rfl rfl (Ge g.out.Cc Ej Kr Kr) (Ge g.out.g3 Ks Kr Kr) rfl) rfl ?_;exact r.out _ g.out.below
theorem rH (d:Lg.Dk)(cj: -9223372036854775808≤d.left∧d.left≤9223372036854775807)(A:Option Addr)(c:Nat)(fr n en H:Int)(a:ByteArray)(b4:¬ H=en)(ej:0≤en)(dt:en≤1000000000)(_hn0: -1000000000≤n)(_hn1:n≤1000000000)(ek: -1000000000≤fr)(eo:fr≤1000000000)(ht:a.size≤1000000)(ep:(a.size:Int)≤en)(ck:en%128≤(a.size:Int))(w:World)(h:Dv w d A c):
 Cq 128 #[.agg #[.slice A d.Ad.length c,d.left,d.down],.agg #[fr,n,en,H,a]] w (L8 (Lg.A4 d ⟨fr,n,en,H,a⟩) A w):=by
 have ag:=Hq (fun d2 e (he:e≠0) hp=> @Lg.fV d d2 ⟨fr,n,en,H,a⟩ e b4 he hp);have ah:=Hq (fun d2 hp=> @Lg.mJ d d2 ⟨fr,n,en,H,a⟩ b4 hp);have HO:=Hq (fun A' c' w' x (hx:Lg.A4 d ⟨fr,n,en,H,a⟩=x) (G:Dv w' x.1 A' c') (h2:A'=A∨Df w.heap.size w' 9 A') (h3:Bw w w')=>show L8 (Lg.A4 d ⟨fr,n,en,H,a⟩) A w (.returned (.tuple #[Dj x.1 A' c',Qc x.2.1,x.2.2])) w' from⟨A',c',by rw[hx],by rw[hx];exact G,h2,h3⟩);have bp:=Lg.rG ⟨fr,n,en,H,a⟩;have cm:=Lg.Ho a;have ai:=Hq (fun W=>uY a ht W);obtain⟨C,hC⟩:=ex (Lg.Jp a);obtain⟨all,aj⟩:=ex (Lg.F3 ⟨fr,n,en,H,a⟩);have N:=Hq (show all=if(en-(a.size:Int))/128+(C.length:Int)<n then C++[Lg.Cy]else C from by rw[aj,hC];rfl);rw[← aj]at ag ah bp;rw[← hC]at ai cm;have ak:Lg.F1 ⟨fr,n,en,H,a⟩=(en-(a.size:Int))/128:=rfl;rw[ak]at ag ah;generalize Lg.A4 d ⟨fr,n,en,H,a⟩=o at ag ah HO ⊢;generalize L8 o A w=Q at HO ⊢;have an:Hid (∀ W,Cr 183 #[.string ⟨#[0]⟩,.int .i64 128] W (.string Lg.Cy)):=Hq (fun W=>by
  have G:=Tryz.strings_Repeat ⟨#[0]⟩ 128 W (by omega) (by show 1*128≤_;omega);have e:(⟨(Lib.repeatL (⟨#[0]⟩:ByteArray).data.toList 128).toArray⟩:ByteArray)=Lg.Cy:=Lg.Nt 128;rw[e]at G;exact G)
 have bq:=Lg.J1;have cn:∀ b∈all,b.size=128:=by
  rw[N.out,hC];intro b hb
  split at hb
  ·rcases List.mem_append.1 hb with G|G
   ·exact Lg.Og a b G
   ·rw[List.mem_singleton.1 G];exact bq
  ·exact Lg.Og a b hb
 have du:=Hq cn;generalize Lg.Cy=z at an N bq;have HR:=Hq h;have cp:(H==en)=false:=by simpa using b4
 have dv:C.length≤10000:=by omega
 have dw:all.length≤10000:=by simp only at bp;omega
 have dx:=Hq cj;obtain⟨F,hF⟩:=ex ((en-(a.size:Int))/128:Int);have er:0≤F:=by omega
 have et:F≤10000000:=by omega
 have dy:0≤en-(a.size:Int):=by omega
 have dz:IntKind.i64.wrap (en-(a.size:Int))=en-(a.size:Int):=IntWalk.i64_in _ (by omega);have e0:=Hq hF;rw[← hF]at ag ah N;clear h b4 hC aj bp cm ak cn bq cj;go_enter Tryz.func128,Tryz.ntmps128;go_upto_region 1 with fail;have H0:=nW4 w #[.slice A d.Ad.length c,d.left,d.down] 28 #[fr,n,en,H,a] 30 #['s',(),false] 28 #[(),(),(),(),""] 30;have cq:((((w.alloc (.cells #[.slice A d.Ad.length c,d.left,d.down] 28)).alloc (.cells #[fr,n,en,H,a] 30)).alloc (.cells #['s',(),false] 28)).alloc (.cells #[(),(),(),(),""] 30)).heap.size=w.heap.size+4:=by simp
 obtain⟨W0,cr⟩:=Gz H0;rw[← cr]at H0 cq ⊢;clear cr;have ao:=Aa H0.out.As;go_upto_region 4 with fail;rw[← e0.out];clear hF dy dz cp
 go_upto_region 5 with(go_at_call 185;(with_reducible refine(ai.out _).mono ?_);rintro e w1 ⟨v8,rfl,aa,b5⟩;obtain⟨A8,c8,rfl⟩:=Gd aa;have ao:=Aa ((H0.out.step b5).get 1 _ rfl))
 have H1:=Hq (H0.out.step b5);have br:=Hq (jF aa (show w.heap.size+4≤W0.heap.size by omega));have bs:w.heap.size+4≤w1.heap.size:=by have:=b5.size;omega
 clear aa b5 ai H0 cq;have e1:IntKind.i64.wrap (F+(C.length:Int))=F+(C.length:Int):=IntWalk.i64_in _ (by omega);go_upto_if 35 with fail
 go_cut [8] (fun s8 wc=>∃ A8 c8,s8= .slice A8 all.length c8∧Ep I3 1 9 (w.heap.size+4) wc (.slice A8 all.length c8) all∧Fc w.heap.size w [(#[.slice A d.Ad.length c,d.left,d.down],28),(#[fr,n,en,H,a],30),(#['s',(),false],28),(#[(),(),(),(),""],30)] wc)
 case first=>
  by_cases bg:F+(C.length:Int)<n
  ·have aq:all=C++[z]:=by rw[N.out,if_pos bg]
   have R:=Hq aq;clear aq
   go_wp2_with(first
    |(go_at_call 183;(with_reducible refine(an.out _).mono ?_);rintro e w2 ⟨rfl,b6⟩;have H2:=Hq (H1.out.step b6);have e2:=Hq (Ce br.out b6);have V:=Hq b6;clear b6)
    |(at_builtin;refine Lf Kr (.tmp 36) (.tmp 38) 26 9 aC Ns rfl (by omega) (by omega) rfl (w.heap.size+4) _ C.length (C.flatMap I3) rfl (Ce e2.out (Ag _ _)) w2.heap.size (I3 z) 9 rfl (heap_alloc_new w2 _) rfl (by simp[I3,Value.oneCell']) (by omega) (by have:=V.out.size;simp;omega) ?_;intro v7 w7 ho hg hb;obtain⟨A7,c7,rfl⟩:=Gd ho;have H7:=Hq ((H2.out.step (Ag w2 (.cells #[z] 9))).under (M:=w.heap.size+4) (Nat.le_refl _) hb);have ar:=Hq (Ep.push (enc:=I3) (x:=z) ho);have b7:=Hq hg;clear ho hg hb))
   go_meet
   case rel=>
    refine⟨A7,c7,?_,?_,H7.out⟩
    ·rw[R.out,List.length_append];rfl
    ·have h7:=ar.out
     have e7:(C++[z]).length=C.length+1:=(by simp);rw[R.out,e7];exact h7
  ·have aq:all=C:=by rw[N.out,if_neg bg]
   have R:=Hq aq;clear aq;go_wp2_with fail;go_meet
   case rel=>
    refine⟨A8,c8,?_,?_,H1.out⟩
    ·rw[R.out]
    ·rw[R.out];exact br.out
 case rest=>
  obtain⟨A8,c8,rfl,aa,au⟩:=hcut;obtain⟨wa,rfl⟩:=ex wc;have ct:=Hq aa;have bt:=Hq au;clear aa au br H1 N an bs e1 dv;have cu:IntKind.i64.wrap ((all.length:Int)-1)=(all.length:Int)-1:=IntWalk.i64_in _ (by omega);go_wp2_with fail
  go_loopw [9] (fun i wr=>∃ (x:Int) (d2:Lg.Dk) (U:Option Addr) (c2:Nat),i= .int .i64 x∧-1≤x∧x<all.length∧Lg.Ci (fr+F) all all.length d=Lg.Ci (fr+F) all (x+1).toNat d2∧Fc w.heap.size w [(#[.slice U d2.Ad.length c2,d2.left,d2.down],28),(#[fr,n,en,H,a],30),(#['s',(),false],28),(#[(),(),(),(),""],30)] wr∧Dv wr d2 U c2∧(U=A∨Df (w.heap.size+4) wr 9 U)∧(-9223372036854775808≤d2.left∧d2.left≤9223372036854775807)∧d2.Ad.length=d.Ad.length∧Ep I3 1 9 (w.heap.size+4) wr (.slice A8 all.length c8) all) (fun i _=>(intOf i+1).toNat)
  case atStart=>exact⟨(all.length:Int)-1,d,A,c,rfl,by omega,by omega,by rw[show((all.length:Int)-1+1).toNat=all.length by omega],bt.out,⟨HR.out.secs.below bt.out.below,HR.out.small⟩,.inl rfl,dx.out,rfl,ct.out⟩
  case round=>
   obtain⟨x,d2,U,c2,rfl,e4,e5,bh,au,cv,cw,bj,bk,bl⟩:=hrel;have a6:=Hq bh;have ae:=Hq au;have av:=Hq cv;have aw:=Hq cw;have bu:=Hq bl;have bw:=Hq bk;have bm:=Hq bj;have bn:=Hq (show 0<d2.Ad.length→∀ P,U=some P→P.block<w.heap.size∨w.heap.size+4≤P.block from fun h0 P e=>by
    rcases aw.out with G|G
    ·rw[G]at e
     exact .inl (HR.out.secs.A5 (by rw[← bw.out];exact h0) P e)
    ·exact .inr (G P e).1)
   clear bh au cv cw bl bk bj bt ct
   by_cases h0:x= -1
   ·subst h0
    have ax:=Hq (ah.out d2 (a6.out.trans rfl));clear e4 e5 cu;obtain⟨m,hm⟩:=Int.eq_ofNat_of_zero_le (show 0≤en%128 by omega);have e6:(m:Int)≤(a.size:Int):=(by omega);have e8:IntKind.i64.wrap ((a.size:Int)-(m:Int))=(a.size:Int)-(m:Int):=IntWalk.i64_in _ (by omega);have e9:(0:Int)≤(a.size:Int)-(m:Int):=(by omega);have ea:(a.size:Int)-(m:Int)≤(a.size:Int):=(by omega);have eb:((a.size:Int)-(m:Int)).toNat=a.size-m:=(by omega);have cx:=Hq (show Lg.Lm ⟨fr,n,en,H,a⟩=⟨fr,n,en,en,a.extract (a.size-m) a.size⟩from by
     unfold Lg.Lm;simp only[hm,Int.toNat_natCast])
    have ao:=Aa ae.out.As;have bx:=Aj ae.out.As;go_upto_region 15 with fail;have V:=Hq (show Fc w.heap.size w [(#[.slice U d2.Ad.length c2,d2.left,d2.down],28),(#[fr,n,en,en,a],30),(#['s',(),false],28),(#[(),(),(),(),""],30)] (wr.setCell ⟨w.heap.size+1,3,none⟩ (.int .i64 en))from by have h:=ae.out.set 1 3 (.int .i64 en) _ rfl;simpa using h);have ay:=Hq ((Fe.refl w.heap.size (w.heap.size+4) wr).cell (w.heap.size+1) 3 (.int .i64 en) (by omega) (by omega));obtain⟨W2,cy⟩:=ex (wr.setCell ⟨w.heap.size+1,3,none⟩ (.int .i64 en));rw[← cy]at V ay ⊢;clear cy ao bx;have ao:=Aa V.out.As;have bx:=Aj V.out.As;go_upto_region 16 with fail;have X:=Hq (show Fc w.heap.size w [(#[.slice U d2.Ad.length c2,d2.left,d2.down],28),(#[fr,n,en,en,.string (a.extract (a.size-m) a.size)],30),(#['s',(),false],28),(#[(),(),(),(),""],30)] (W2.setCell ⟨w.heap.size+1,4,none⟩ (.string (a.extract (a.size-m) a.size)))from by have h:=V.out.set 1 4 (.string (a.extract (a.size-m) a.size)) _ rfl;simpa using h);have az:=Hq (ay.out.cell (w.heap.size+1) 4 (.string (a.extract (a.size-m) a.size)) (by omega) (by omega));obtain⟨W3,cz⟩:=ex (W2.setCell ⟨w.heap.size+1,4,none⟩ (.string (a.extract (a.size-m) a.size)));rw[← cz]at X az ⊢;clear cz ao bx e6 e8 e9 ea eb hm V ay;obtain⟨b0,bo⟩:=ex (a.extract (a.size-m) a.size);rw[← bo]at X cx;clear bo ck;have HD:=Hq X.out.drew;refine Hw (S:=(fun u=>u.heap[w.heap.size]? =some (.cells #[.slice U d2.Ad.length c2,d2.left,d2.down] 28 (0,0))∧u.heap[w.heap.size+1]? =some (.cells #[fr,n,en,en,b0] 30 (0,0)))) (fun f=>?_) ⟨(HD.out.Am),(HD.out.As)⟩;refine Be 0 ?_;refine Be 1 ?_;refine D3 2 fun K B=>?_;refine Cp (by rfl) ?_;refine sW #[.slice U d2.Ad.length c2,d2.left,d2.down] HD.out.Cc ?_;have HE:=Hq (HD.out.row 2 #[.slice U d2.Ad.length c2,d2.left,d2.down] _ rfl);have hSn:=And.intro (HE.out.Am) (HE.out.As);refine Db B (fun f=>?_);clear B K
    try simp only[Act.put]
    refine D3 3 fun K B=>?_;refine Cp (by rfl) ?_;refine sW #[fr,n,en,en,b0] HE.out.g3 ?_;have HG:=Hq (HE.out.row 3 #[fr,n,en,en,b0] _ rfl);clear hSn;have hSn:=And.intro (HG.out.Am) (HG.out.As);refine Db B (fun f=>?_);clear B K
    try simp only[Act.put]
    refine Be 4 ?_;refine wpAnyH_done Kr ?_ _;clear f hSn;go_wp2_with fail;refine bodyPost_ret (v:=.tuple #[.agg #[.slice U d2.Ad.length c2,d2.left,d2.down],.agg #[fr,n,en,en,b0],()]) (Lr rfl _ _ rfl rfl (Ge HG.out.Cc Ej Kr Kr) (Ge HG.out.g3 Ks Kr Kr) rfl) rfl ?_;exact HO.out U c2 _ (d2,⟨fr,n,en,en,b0⟩,0) (ax.out.trans (by rw[cx.out])) ⟨av.out.secs.apart (((az.out.drew).row _ _ (by omega) (by omega)).row _ _ (by omega) (by omega)) bn.out,av.out.small⟩ (aw.out.imp id (fun h=>(h.apart (lo:=w.heap.size) (hi:=w.heap.size+4) (((az.out.drew).row _ _ (by omega) (by omega)).row _ _ (by omega) (by omega)) (Nat.le_refl _)).mono (by omega))) HG.out.below
   ·obtain⟨k,rfl⟩:=Int.eq_ofNat_of_zero_le (show 0≤x by omega)
    have b8:k<all.length:=(by omega);have eu:(k:Int)<(all.length:Int):=(by omega);have ev:(0:Int)≤(k:Int):=(by omega);obtain⟨g8,cap,hv,ew,b9,ei,J,-,-⟩:=yC bu.out b8
    injection hv with ec ey ed
    subst ec ed;rw[Uy,List.getElem?_map,List.getElem?_eq_getElem b8]at J;simp only[Option.map_some]at J;have da:=du.out all[k] (List.getElem_mem b8);have HY:=Hq (show all[k]?.getD ⟨#[]⟩=all[k] by rw[List.getElem?_eq_getElem b8];rfl);generalize all[k]=y at J da HY;have r:=Hq J;rw[show((k:Int)+1).toNat=k+1 by omega]at a6;have ba:=Hq (fun W hW=>Uz d2 bm.out U c2 (fr+F+(k:Int)) y W hW);have a7:= @Lg.cF d2 (fr+F+(k:Int)) y bm.out;have bb:= @Lg.fT d2 (fr+F+(k:Int)) y;rcases hx:Lg.Cf d2 (fr+F+(k:Int)) y with⟨d3,e3⟩;have bz:=Hq (fun(he:e3=0)=>Lg.mI (base:=fr+F) (all:=all) (k:=k) (d:=d2) (d2:=d3) (by rw[HY.out,hx,he]));have b1:=Hq (fun(he:e3≠0)=>Lg.cG (base:=fr+F) (all:=all) (k:=k) (d:=d2) (d2:=d3) he (by rw[HY.out,hx]));rw[hx]at ba a7 bb;simp only at a7 bb;have c6:=Hq (bb.trans bw.out);have ee:=Hq a7;clear hx a7 bb J da h0 cu;have bs:IntKind.i64.wrap (fr+F)=fr+F:=IntWalk.i64_in _ (by omega);have ef:IntKind.i64.wrap (fr+F+(k:Int))=fr+F+(k:Int):=IntWalk.i64_in _ (by omega);go_upto_region 10 with fail
    go_cut [10,11] (fun p q wc=>∃ (g:Nat) (l:Option Addr) (c3:Nat),p= .pointer (some ⟨g,0,none⟩)∧q= .int .i64 e3∧Fc w.heap.size w [(#[.slice U d2.Ad.length c2,d2.left,d2.down],28),(#[fr,n,en,H,a],30),(#['s',(),false],28),(#[(),(),(),(),""],30)] wc∧w.heap.size+4≤g∧wc.heap[g]? =some (.cells #[.slice l d3.Ad.length c3,d3.left,d3.down] 28 (0,0))∧Dv wc d3 l c3∧(l=A∨Df (w.heap.size+4) wc 9 l)∧Ep I3 1 9 (w.heap.size+4) wc (.slice (some ⟨g8,0,none⟩) all.length c8) all)
    case first=>
     have s:=Hq ae.out.drew;have db:=Hq (Ce bu.out (Below.refl _ wr).drew);have dc:=Hq (av.out.below (Below.refl _ wr).drew);have ez:=ae.out.lt (i:=3) (by simp);have fa:wr.heap.size≤wr.drew.heap.size:=Nat.le_refl _;refine Hw (S:=(fun u=>u.heap[w.heap.size]? =some (.cells #[.slice U d2.Ad.length c2,d2.left,d2.down] 28 (0,0))∧u.heap[w.heap.size+1]? =some (.cells #[fr,n,en,H,a] 30 (0,0))∧u.cell? ⟨g8,k,none⟩=some (.string y))) (fun f=>?_) (by first|exact hSn|exact⟨s.out.Am,s.out.As,r.out⟩);refine R4 0 (some 48) (v:=?_) rfl ?_ (R4 1 (some 49) (v:=?_) rfl ?_ (R4 2 (some 50) (v:=?_) rfl ?_ (R4 3 (some 51) (v:=?_) rfl ?_ (R4 4 (some 52) (v:=?_) rfl ?_ (R4 5 (some 53) (v:=?_) rfl ?_ (R4 6 (some 54) (v:=?_) rfl ?_ (R4 7 (some 55) (v:=?_) rfl ?_ (R4 8 (some 56) (v:=?_) rfl ?_ (R4 9 (some 57) (v:=?_) rfl ?_ (R4 10 (some 58) (v:=?_) rfl ?_ ?_))))))))))
     iterate 11 (rotate_left;focus(intro u O;obtain⟨D,E,bc⟩:=O;have D:=Aa D;have E:=Aa E;go_simp;(try with_reducible rfl)))
     try simp only[Act.put,pS]
     refine wpAnyH_ready (rs:=[11,15]) Kr (by simp) ?_;refine(AllReadyH.cons (o:={dst:=some 59,op:=_,type:=_,pos:=_,after:=_,guard:=_}) rfl (fun K B=>?_) (AllReadyH.cons (o:={dst:=some 10,op:=_,type:=_,pos:=_,after:=_,guard:=_}) rfl (fun K B=>?_) AllReadyH.nil))
     ·
      go_simp
      refine(ba.out _ dc.out).mono ?_;rintro e t ⟨l,c3,rfl,T,Y,I⟩;have Z:=Hq (s.out.step I);have bd:=Hq (Ce db.out I);have b2:=(I.cell (p:=⟨g8,k,none⟩) (by first|exact b9|(simp;omega))).trans r.out;have hSn:=And.intro Z.out.Am (And.intro Z.out.As b2);refine Db B (fun f=>?_) (by first|exact hSn|exact⟨s.out.Am,s.out.As,r.out⟩);clear B K;refine R4 12 (some 47) (v:=?_) rfl ?_ (R4 13 (some 60) (v:=?_) rfl ?_ (R4 14 (some 61) (v:=?_) rfl ?_ ?_))
      iterate 3 (rotate_left;focus(intro u O;obtain⟨D,E,bc⟩:=O;have D:=Aa D;have E:=Aa E;go_simp;(try with_reducible rfl)))
      try simp only[Act.put,pS]
      refine D3 15 fun K B=>?_
      go_simp
      have ca:=Hq (Z.out.step (Ag t (.cells #['s',(),false] 28)));have dd:=Hq (Ce bd.out (Ag t (.cells #['s',(),false] 28)));have de:=T.below (Ag t (.cells #['s',(),false] 28));have df:=((Ag t (.cells #['s',(),false] 28)).cell (p:=⟨g8,k,none⟩) (Nat.lt_of_lt_of_le b9 I.size)).trans b2;have L:=heap_alloc_new t (.cells #['s',(),false] 28);clear hSn;have hSn:=And.intro ca.out.Am (And.intro ca.out.As df);refine Db B (fun f=>?_) (by first|exact hSn|exact⟨s.out.Am,s.out.As,r.out⟩);clear B K;refine D3 16 fun K B=>?_;refine Cp (by rfl) ?_;refine sW #[.slice l d3.Ad.length c3,d3.left,d3.down] L ?_;have af:w.heap.size+4≤t.heap.size:=(by have:=I.size;omega);have b3:=Hq ((Fe.refl t.heap.size (t.heap.size+1) (t.alloc (.cells #['s',(),false] 28))).row t.heap.size #[.slice l d3.Ad.length c3,d3.left,d3.down] (Nat.le_refl _) (Nat.lt_succ_self _));have a1:=Hq (ca.out.under (M:=t.heap.size) (by show w.heap.size+4≤_;exact af) (show Below t.heap.size (t.alloc (.cells #['s',(),false] 28)) ((t.alloc (.cells #['s',(),false] 28)).setRow t.heap.size #[.slice l d3.Ad.length c3,d3.left,d3.down])from⟨rfl,rfl,rfl,b3.out.size,fun j hj=>Aw (t.alloc (.cells #['s',(),false] 28)) t.heap.size #[.slice l d3.Ad.length c3,d3.left,d3.down] j (by omega)⟩));have cb:Dv ((t.alloc (.cells #['s',(),false] 28)).setRow t.heap.size #[.slice l d3.Ad.length c3,d3.left,d3.down]) d3 l c3:=⟨de.secs.apart b3.out (fun h0 P e=>.inl (T.secs.A5 h0 P e)),de.small⟩;have b7:((t.alloc (.cells #['s',(),false] 28)).setRow t.heap.size #[.slice l d3.Ad.length c3,d3.left,d3.down]).heap[t.heap.size]? =some (.cells #[.slice l d3.Ad.length c3,d3.left,d3.down] 28 (0,0)):=setRow_heap _ _ _ _ _ _ L;have ar:=aI dd.out L (by decide) #[.slice l d3.Ad.length c3,d3.left,d3.down];have cc:=(Q5 (cs:=#[.slice l d3.Ad.length c3,d3.left,d3.down]) df L (jG dd.out L (by decide)));clear hSn;have hSn:=And.intro a1.out.Am (And.intro a1.out.As cc);refine Db B (fun f=>?_) (by first|exact hSn|exact⟨s.out.Am,s.out.As,r.out⟩);clear B K
      try simp only[Act.put]
      refine Be 17 ?_ (hy:=by intro u O;obtain⟨D,E,bc⟩:=O;have D:=Aa D;have E:=Aa E;go_simp;(try with_reducible rfl));refine wpAnyH_done Kr ?_ _;clear f hSn;go_wp2_with fail;go_meet
      case rel=>exact⟨_,l,c3,rfl,rfl,a1.out,af,b7,cb,(Y.elim (fun G=>by rw[G];exact aw.out.imp id (fun h2=>(((h2.below (Below.refl _ wr).drew).below I).below (Ag t (.cells #['s',(),false] 28))).row _ _)) (fun G=>.inr (((G.below (Ag t (.cells #['s',(),false] 28))).row _ _).mono (by first|(simp;omega)|omega)))),ar⟩
     ·
      go_simp
      have cd:=Hq (s.out.step (Ag wr.drew (.cells #['s',(),false] 28)));have eg:=Hq (Ce db.out (Ag wr.drew (.cells #['s',(),false] 28)));have eh:=Hq (dc.out.below (Ag wr.drew (.cells #['s',(),false] 28)));have dh:=Hq (((Ag wr.drew (.cells #['s',(),false] 28)).cell (p:=⟨g8,k,none⟩) b9).trans r.out);have hSn:=And.intro cd.out.Am (And.intro cd.out.As dh.out);refine Db B (fun f=>?_) (by first|exact hSn|exact⟨s.out.Am,s.out.As,r.out⟩);clear B K;refine D3 11 fun K B=>?_
      go_simp
      refine(ba.out _ eh.out).mono ?_;rintro e t ⟨l,c3,rfl,T,Y,I⟩;have Z:=Hq (cd.out.step I);have bd:=Hq (Ce eg.out I);have b2:=(I.cell (p:=⟨g8,k,none⟩) (by first|exact b9|(simp;omega))).trans dh.out;have hSn:=And.intro Z.out.Am (And.intro Z.out.As b2);have L:=Cn I;refine Db B (fun f=>?_) (by first|exact hSn|exact⟨s.out.Am,s.out.As,r.out⟩);clear B K;refine R4 12 (some 47) (v:=?_) rfl ?_ (R4 13 (some 60) (v:=?_) rfl ?_ (R4 14 (some 61) (v:=?_) rfl ?_ ?_))
      iterate 3 (rotate_left;focus(intro u O;obtain⟨D,E,bc⟩:=O;have D:=Aa D;have E:=Aa E;go_simp;(try with_reducible rfl)))
      try simp only[Act.put,pS]
      refine D3 16 fun K B=>?_;refine Cp (by rfl) ?_;refine sW #[.slice l d3.Ad.length c3,d3.left,d3.down] L ?_;have af:w.heap.size+4≤wr.drew.heap.size:=(by omega);have b3:=Hq ((Fe.refl wr.drew.heap.size (wr.drew.heap.size+1) t).row wr.drew.heap.size #[.slice l d3.Ad.length c3,d3.left,d3.down] (Nat.le_refl _) (Nat.lt_succ_self _));have a1:=Hq (Z.out.under (M:=wr.drew.heap.size) (by show w.heap.size+4≤_;exact af) (show Below wr.drew.heap.size t (t.setRow wr.drew.heap.size #[.slice l d3.Ad.length c3,d3.left,d3.down])from⟨rfl,rfl,rfl,b3.out.size,fun j hj=>Aw t wr.drew.heap.size #[.slice l d3.Ad.length c3,d3.left,d3.down] j (by omega)⟩));have cb:Dv (t.setRow wr.drew.heap.size #[.slice l d3.Ad.length c3,d3.left,d3.down]) d3 l c3:=⟨T.secs.apart b3.out (fun h0 P e=>Y.elim (fun G=>by rw[G]at e;have:=av.out.secs.A5 (by rw[bw.out,← c6.out];exact h0) P e;left;exact this) (fun G=>by have:=G P e;right;have:=this.1;simp at this ⊢;omega)),T.small⟩;have b7:(t.setRow wr.drew.heap.size #[.slice l d3.Ad.length c3,d3.left,d3.down]).heap[wr.drew.heap.size]? =some (.cells #[.slice l d3.Ad.length c3,d3.left,d3.down] 28 (0,0)):=setRow_heap _ _ _ _ _ _ L;have ar:=aI bd.out L (by decide) #[.slice l d3.Ad.length c3,d3.left,d3.down];have cc:=(Q5 (cs:=#[.slice l d3.Ad.length c3,d3.left,d3.down]) b2 L (jG bd.out L (by decide)));clear hSn;have hSn:=And.intro a1.out.Am (And.intro a1.out.As cc);refine Db B (fun f=>?_) (by first|exact hSn|exact⟨s.out.Am,s.out.As,r.out⟩);clear B K
      try simp only[Act.put]
      refine Be 17 ?_ (hy:=by intro u O;obtain⟨D,E,bc⟩:=O;have D:=Aa D;have E:=Aa E;go_simp;(try with_reducible rfl));refine wpAnyH_done Kr ?_ _;clear f hSn;go_wp2_with fail;go_meet
      case rel=>exact⟨_,l,c3,rfl,rfl,a1.out,af,b7,cb,(Y.elim (fun G=>by rw[G];exact aw.out.imp id (fun h2=>(((h2.below (Below.refl _ wr).drew).below (Ag wr.drew (.cells #['s',(),false] 28))).below I).row _ _)) (fun G=>.inr ((G.row _ _).mono (by first|(simp;omega)|omega)))),ar⟩
    case rest=>
     obtain⟨g,l,c3,rfl,rfl,di,af,dj,T,Y,dk⟩:=hcut;obtain⟨wb,rfl⟩:=ex wc;have X:=Hq di;have dm:=Hq dj;have cf:=Hq T;have dn:=Hq dk;have dp:=Hq Y;have dq:=Hq (show 0<d3.Ad.length→∀ P,l=some P→P.block<w.heap.size∨w.heap.size+4≤P.block from fun h0 P e=>dp.out.elim (fun G=>by rw[G]at e;exact .inl (HR.out.secs.A5 (by rw[← c6.out];exact h0) P e)) (fun G=>.inr (G P e).1));clear di dj T dk Y ae bu av aw bn ba r bs ef
     go_upto_region 12 with(first
      |with_reducible refine lL dm.out Ej ?_
      |with_reducible refine lS #[.slice l d3.Ad.length c3,d3.left,d3.down] X.out.Am ?_)
     have cg:=Hq (show Fc w.heap.size w [(#[.slice l d3.Ad.length c3,d3.left,d3.down],28),(#[fr,n,en,H,a],30),(#['s',(),false],28),(#[(),(),(),(),""],30)] (wb.setRow w.heap.size #[.slice l d3.Ad.length c3,d3.left,d3.down])from by have h:=X.out.row 0 #[.slice l d3.Ad.length c3,d3.left,d3.down] _ rfl;simpa using h);have a8:=Hq ((Fe.refl w.heap.size (w.heap.size+4) wb).row w.heap.size #[.slice l d3.Ad.length c3,d3.left,d3.down] (Nat.le_refl _) (by omega));have dr:=Hq (pR dn.out (Nat.le_refl _) a8.out);have bf:=Hq (show Dv (wb.setRow w.heap.size #[.slice l d3.Ad.length c3,d3.left,d3.down]) d3 l c3 from⟨cf.out.secs.apart a8.out dq.out,cf.out.small⟩);have ch:=Hq (dp.out.imp id (fun h=>h.row w.heap.size #[.slice l d3.Ad.length c3,d3.left,d3.down]));obtain⟨W4,ds⟩:=ex (wb.setRow w.heap.size #[.slice l d3.Ad.length c3,d3.left,d3.down]);rw[← ds]at cg a8 dr bf ch ⊢;clear ds X dm cf dn a8
     by_cases he:e3=0
     ·have HG:=Hq (a6.out.trans (bz.out he))
      subst he;clear bz b1;have fb:IntKind.i64.wrap ((k:Int)-1)=(k:Int)-1:=IntWalk.i64_in _ (by omega);go_wp2_with fail;go_roundw
      case rel=>exact⟨(k:Int)-1,d3,l,c3,rfl,by omega,by omega,by rw[show((k:Int)-1+1).toNat=k by omega];exact HG.out,cg.out,bf.out,ch.out,ee.out,c6.out,dr.out⟩
      case measure=>first|(simp[intOf];done)|(simp[intOf];omega)
     ·have ax:=Hq (ag.out d3 e3 he (a6.out.trans (b1.out he)))
      have dt:(e3==0)=false:=(by simpa using he);have fc:(e3 != 0)=true:=(by simpa using he);clear bz b1 he;go_upto_region 13 with fail;have HD:=Hq cg.out.drew;refine Hw (S:=(fun u=>u.heap[w.heap.size]? =some (.cells #[.slice l d3.Ad.length c3,d3.left,d3.down] 28 (0,0))∧u.heap[w.heap.size+1]? =some (.cells #[fr,n,en,H,a] 30 (0,0)))) (fun f=>?_) ⟨(HD.out.Am),(HD.out.As)⟩;refine Be 0 ?_;refine Be 1 ?_;refine Be 2 ?_;refine D3 3 fun K B=>?_;refine Cp (by rfl) ?_;refine sW #[.slice l d3.Ad.length c3,d3.left,d3.down] HD.out.Cc ?_;have HE:=Hq (HD.out.row 2 #[.slice l d3.Ad.length c3,d3.left,d3.down] _ rfl);have hSn:=And.intro (HE.out.Am) (HE.out.As);refine Db B (fun f=>?_);clear B K
      try simp only[Act.put]
      refine D3 4 fun K B=>?_;refine Cp (by rfl) ?_;refine sW #[fr,n,en,H,a] HE.out.g3 ?_;have HG:=Hq (HE.out.row 3 #[fr,n,en,H,a] _ rfl);clear hSn;have hSn:=And.intro (HG.out.Am) (HG.out.As);refine Db B (fun f=>?_);clear B K
      try simp only[Act.put]
      refine Be 5 ?_;refine wpAnyH_done Kr ?_ _;clear f hSn;go_wp2_with fail;refine bodyPost_ret (v:=.tuple #[.agg #[.slice l d3.Ad.length c3,d3.left,d3.down],.agg #[fr,n,en,H,a],e3]) (Lr rfl _ _ rfl rfl (Ge HG.out.Cc Ej Kr Kr) (Ge HG.out.g3 Ks Kr Kr) rfl) rfl ?_;exact HO.out l c3 _ (d3,⟨fr,n,en,H,a⟩,e3) ax.out ⟨bf.out.secs.apart (((Fe.refl _ _ _).drew.row _ _ (by omega) (by omega)).row _ _ (by omega) (by omega)) dq.out,bf.out.small⟩ (ch.out.imp id (fun h=>(h.apart (lo:=w.heap.size) (hi:=w.heap.size+4) (((Fe.refl _ _ _).drew.row _ _ (by omega) (by omega)).row _ _ (by omega) (by omega)) (Nat.le_refl _)).mono (by omega))) HG.out.below
theorem mK (d:Lg.Dk)(e: -9223372036854775808≤d.left∧d.left≤9223372036854775807)(A:Option Addr)(c:Nat)(l:Lg.Lo)(f:0≤l.end_)(g:l.end_≤1000000000)(i: -1000000000≤l.n)(j:l.n≤1000000000)(k: -1000000000≤l.from_)(m:l.from_≤1000000000)(t:l.tail.size≤1000000)(o:(l.tail.size:Int)≤l.end_)(a:l.end_%128≤(l.tail.size:Int))(w:World)(h:Dv w d A c):
 Cq 128 #[Dj d A c,Qc l] w (L8 (Lg.A4 d l) A w):=by
 obtain⟨q,n,r,p,s⟩:=l
 by_cases b:p=r
 ·subst b
  exact fW d.Ad d.left d.down A c q n p s _ (Lg.fU rfl) w h
 ·exact rH d e A c q n r p s b f g i j k m t o a w h
end Go.Proofs.YtdfkambdagoojaaGreatDoor
