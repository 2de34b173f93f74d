import Derived.Test.YtmfkhdhnbkambaaGreatDoorHw00
import Derived.Test.YtmfkhdhnbkambaaGreatDoorHw04
import Derived.Test.YtmfkhdhnbkambaaGreatDoorHw01
import Derived.BigRegion
import Derived.Test.YtmfkhdhnbkambaaGreatDoorHw05
import Derived.Deep.RegionWith
set_option maxRecDepth 100000
set_option maxHeartbeats 16000000
set_option linter.unusedSimpArgs false
namespace Rc
theorem Sl (s:ByteArray):(t s).length=2+s.size:=by
 unfold t;rw[List.length_append,Bf];simp
theorem M7 {o:Op}(h:Ix o):(M1 o).length≤1031:=by
 obtain⟨_,_,_,a,b⟩:=h;unfold M1;simp only[List.length_append,Bf,Sl];omega
theorem Co {α:Type}(f:α→List UInt8)(k:Nat)(a:∀ x,(f x).length=k):∀ l:List α,(l.flatMap f).length=l.length*k:=by
 intro l
 induction l with
 |nil=>simp
 |cons x l ih=>rw[List.flatMap_cons,List.length_append,a,ih,List.length_cons,Nat.add_mul];omega
theorem oO (x:Be):(Oz x).length=19:=by
 unfold Oz;simp only[List.length_append,Bf]
theorem cR (x:Bx):(Hi x).length=9:=by
 unfold Hi;simp only[List.length_append,Bf]
theorem U7 (r:Rec):(Gf r).length=19:=by
 unfold Gf;simp only[List.length_append,Bf]
theorem cS {r:Rec}(h:R9 r):(Sa r).length≤37010:=by
 obtain⟨a,b,_⟩:=h;unfold Sa;simp only[List.length_append,Bf,Co Oz 19 oO,Co Hi 9 cR];omega
theorem M8 {r:Rec}(h:Bu r):19≤(Di r).length∧(Di r).length≤40000:=by
 unfold Di;rw[List.length_append,U7];refine⟨by omega,?_⟩
 cases h with
 |small kind a prev b hk d f g=>
  have k:Gc (bare kind a prev b)=[]:=by
   unfold Gc bare;simp only;rw[if_neg (by omega),if_neg (by omega),if_neg (by omega),if_neg (by omega),if_neg (by omega)]
  rw[k];simp
 |change a prev b Ad op i root e d f g l c m=>
  rw[O0 rfl];have p:=M7 c;have s:(Nv ⟨a,prev,b,2,Ad,0,0,op,i,root,e,[],[]⟩).length≤200:=by
   unfold Nv;rcases m with⟨j,_⟩|⟨j,t,u,q,o⟩
   ·simp only at j;subst j;simp
   ·simp only at j o
    rw[if_neg (show ¬ i=1 by omega)];simp only[List.length_append,Bf,Sl];omega
  simp only[List.length_append,Bf];omega
 |clr a prev b Ad op next d f g l c m=>
  rw[Rd rfl];have p:=M7 c;simp only[List.length_append,Bf];omega
 |nest a prev b next d f g m=>
  rw[Wo rfl];simp only[Bf];omega
 |image a prev b Ad op d f g l c=>
  rw[Re rfl];have p:=M7 c;simp only[List.length_append,Bf];omega
 |check a prev b n ts ds d f g l c=>
  rw[fL rfl];have:=cS c;omega
end Rc
namespace Lg
open Rc
def D5 (r:Rec):List UInt8:=Oct.Bm (Di r).length 4++(Oct.Bm (Oct.Gr (Di r)) 4++Di r)
theorem Mi (r:Rec):(D5 r).length=8+(Di r).length:=by
 unfold D5;simp only[List.length_append,Oct.Bc];omega
def Wt (s:List UInt8)(a:Nat):List UInt8:=(s.drop (a+8)).take (Oct.Dj s a 4)
def Is (s:List UInt8)(a:Nat):Prop:=
 a+8+Oct.Dj s a 4≤s.length∧Oct.Dj s (a+4) 4=Oct.Gr (Wt s a)∧Bu (uM true (Wt s a))∧Di (uM true (Wt s a))=Wt s a
def Row (a:Nat):List Rec→Prop
 |[]=>True
 |r::l=>Bu r∧r.lsn=(a:Int)+1∧Row (a+(D5 r).length) l
def bytes (l:List Rec):List UInt8:=l.flatMap D5
theorem Sm (r:Rec)(l:List Rec):bytes (r::l)=D5 r++bytes l:=rfl
theorem Lh (l m:List Rec):bytes (l++m)=bytes l++bytes m:=List.flatMap_append
theorem cT {a:Nat}{l m:List Rec}:Row a (l++m)↔Row a l∧Row (a+(bytes l).length) m:=by
 induction l generalizing a with
 |nil=>simp[Row,bytes]
 |cons r l ih=>
  show(Bu r∧r.lsn=(a:Int)+1∧Row (a+(D5 r).length) (l++m))↔(Bu r∧r.lsn=(a:Int)+1∧Row (a+(D5 r).length) l)∧_
  rw[ih,Sm,List.length_append,Nat.add_assoc]
  constructor
  ·rintro⟨b,c,d,e⟩;exact⟨⟨b,c,d⟩,e⟩
  ·rintro⟨⟨b,c,d⟩,e⟩;exact⟨b,c,d,e⟩
def wT (s:List UInt8)(a k:Nat):Prop:=∀ i,a≤i→i<a+k→i<s.length→s[i]? =some 0
structure jC (s:List UInt8) (l:List Rec):Prop where
 row:Row 0 l
 pre:s.take (bytes l).length=bytes l
 room:(bytes l).length≤s.length
 zero:wT s (bytes l).length 128
def mix (s n:List UInt8)(q:Nat):List UInt8:=s.take q++n.drop q
theorem Wu {s n:List UInt8}{q:Nat}(h:s.length=n.length)(i:Nat):(mix s n q)[i]? =if i<q then s[i]? else n[i]? :=by
 unfold mix
 by_cases c:q≤s.length
 ·have b:(s.take q).length=q:=by rw[List.length_take];omega
  by_cases a:i<q
  ·rw[if_pos a,List.getElem?_append_left (by omega),List.getElem?_take,if_pos a]
  ·rw[if_neg a,List.getElem?_append_right (by omega),b,List.getElem?_drop]
   congr 1;omega
 ·rw[List.take_of_length_le (by omega),List.drop_of_length_le (by omega),List.append_nil]
  split
  ·rfl
  ·rw[List.getElem?_eq_none (by omega),List.getElem?_eq_none (by omega)]
theorem uZ {s n:List UInt8}{q:Nat}(h:s.length=n.length)(a:∀ i,i<q→s[i]? =n[i]?):mix s n q=n:=by
 refine List.ext_getElem? fun i=>?_;rw[Wu h]
 split
 ·rename_i b;exact a i b
 ·rfl
def flat (L:List ByteArray):List UInt8:=L.flatMap (·.data.toList)
def Whole (L:List ByteArray):Prop:=∀ b∈L,b.size=128
theorem oP:flat []=[]:=rfl
theorem Fg (b:ByteArray)(L:List ByteArray):flat (b::L)=b.data.toList++flat L:=rfl
theorem Qp (L M:List ByteArray):flat (L++M)=flat L++flat M:=List.flatMap_append
theorem Whole.tail {b:ByteArray}{L:List ByteArray}(h:Whole (b::L)):b.data.toList.length=128∧Whole L:=
 ⟨by have:=h b (List.mem_cons_self ..);simpa using this,fun x a=>h x (List.mem_cons_of_mem _ a)⟩
theorem Whole.set {L:List ByteArray}(h:Whole L)(k:Nat){b:ByteArray}(a:b.size=128):Whole (L.set k b):=fun x c=>by
 rcases List.mem_or_eq_of_mem_set c with h1|h1
 ·exact h x h1
 ·rw[h1];exact a
theorem Whole.take {L:List ByteArray}(h:Whole L)(k:Nat):Whole (L.take k):=fun x a=>h x (List.mem_of_mem_take a)
theorem Whole.drop {L:List ByteArray}(h:Whole L)(k:Nat):Whole (L.drop k):=fun x a=>h x (List.mem_of_mem_drop a)
theorem Co {L:List ByteArray}(h:Whole L):(flat L).length=L.length*128:=by
 induction L with
 |nil=>rfl
 |cons b L ih=>
  obtain⟨a,c⟩:=h.tail;rw[Fg,List.length_append,a,ih c,List.length_cons];omega
theorem Sn {L:List ByteArray}(h:Whole L){b:ByteArray}(f:b.size=128):∀ (k:Nat),k<L.length→∀ i,(flat (L.set k b))[i]? =if k*128≤i∧i<k*128+128 then b.data.toList[i-k*128]? else(flat L)[i]? :=by
 have a:b.data.toList.length=128:=by simpa using f
 induction L with
 |nil=>intro k hk;simp at hk
 |cons c L ih=>
  obtain⟨d,g⟩:=h.tail;intro k hk i
  cases k with
  |zero=>
   rw[List.set_cons_zero,Fg,Fg]
   by_cases j:i<128
   ·rw[if_pos (by omega),List.getElem?_append_left (by omega),Nat.zero_mul,Nat.sub_zero]
   ·rw[if_neg (by omega),List.getElem?_append_right (by omega),List.getElem?_append_right (by omega),a,d]
  |succ k=>
   rw[List.set_cons_succ,Fg,Fg]
   by_cases j:i<128
   ·rw[if_neg (by omega),List.getElem?_append_left (by omega),List.getElem?_append_left (by omega)]
   ·rw[List.getElem?_append_right (by omega),d,ih g k (by simpa using hk) (i-128)]
    by_cases e:(k+1)*128≤i∧i<(k+1)*128+128
    ·rw[if_pos e,if_pos (by omega),show i-128-k*128=i-(k+1)*128 by omega]
    ·rw[if_neg e,if_neg (by omega),List.getElem?_append_right (by omega),d]
theorem oQ {L:List ByteArray}{s n:List UInt8}{k:Nat}{b:ByteArray}(c:Whole L)(d:b.size=128)(hk:k<L.length)(hlen:s.length=n.length)(h:flat L=mix s n ((k+1)*128))
 (e:b.data.toList=(n.drop (k*128)).take 128):flat (L.set k b)=mix s n (k*128):=by
 refine List.ext_getElem? fun i=>?_;rw[Sn c d k hk,h,Wu hlen,Wu hlen]
 by_cases a:i<k*128
 ·rw[if_neg (by omega),if_pos (by omega),if_pos a]
 ·rw[if_neg a]
  by_cases f:i<k*128+128
  ·rw[if_pos (by omega),e,List.getElem?_take,if_pos (by omega),List.getElem?_drop];congr 1;omega
  ·rw[if_neg (by omega),if_neg (by omega)]
theorem jD {L:List ByteArray}(h:Whole L)(k:Nat):flat (L.drop k)=(flat L).drop (k*128):=by
 induction k generalizing L with
 |zero=>simp
 |succ k ih=>
  cases L with
  |nil=>simp[flat]
  |cons b L=>
   obtain⟨a,c⟩:=h.tail;rw[List.drop_succ_cons,ih c,Fg,show(k+1)*128=128+k*128 by omega,← List.drop_drop,List.drop_left' a]
theorem jE {L:List ByteArray}(h:Whole L)(k:Nat):flat (L.take k)=(flat L).take (k*128):=by
 induction k generalizing L with
 |zero=>simp[flat]
 |succ k ih=>
  cases L with
  |nil=>simp[flat]
  |cons b L=>
   obtain⟨a,c⟩:=h.tail;rw[List.take_succ_cons,Fg,ih c,Fg,show(k+1)*128=128+k*128 by omega,List.take_append,a,Nat.add_sub_cancel_left,List.take_of_length_le (l:=b.data.toList) (by omega)]
structure Dk where
 sectors:List ByteArray
 left:Int
 down:Bool
structure Lo where
 from_:Int
 n:Int
 end_:Int
 safe:Int
 tail:ByteArray
instance:DecidableEq Lo:=fun a b=>
 if h:a.from_=b.from_∧a.n=b.n∧a.end_=b.end_∧a.safe=b.safe∧a.tail=b.tail then
  .isTrue (by obtain⟨a1,a2,a3,a4,a5⟩:=a;obtain⟨b1,b2,b3,b4,b5⟩:=b;simp only at h;obtain⟨rfl,rfl,rfl,rfl,rfl⟩:=h;rfl)
 else .isFalse (fun e=>h (by subst e;exact⟨rfl,rfl,rfl,rfl,rfl⟩))
def C9:ByteArray:=⟨(List.replicate 128 0).toArray⟩
theorem Iz:C9.size=128:=by unfold C9;show(List.replicate 128 (0:UInt8)).toArray.size=_;simp
def Li (n:Nat):Dk:=⟨List.replicate n C9,-1,false⟩
def Hm (d:Dk)(at_:Int):Prop:=0≤at_∧at_<(d.sectors.length:Int)
instance (d:Dk) (a:Int):Decidable (Hm d a):=by unfold Hm;exact inferInstance
def Iq (d:Dk)(at_:Int):ByteArray:=d.sectors[at_.toNat]?.getD ⟨#[]⟩
def Lt (d:Dk)(at_:Int):ByteArray×Int:=if d.down then(⟨#[]⟩,20)else if Hm d at_ then(Iq d at_,0)else(⟨#[]⟩,1)
def C6 (d:Dk)(at_:Int)(b:ByteArray):Dk×Int:=
 if d.down then(d,20)else if ¬ (Hm d at_∧b.size=128)then(d,1)else if d.left=0 then({d with down:=true},20)
 else({d with sectors:=d.sectors.set at_.toNat b,left:=if 0<d.left then d.left-1 else d.left},0)
def Ke (l:List UInt8):ByteArray:=⟨(l++List.replicate (128-l.length) 0).toArray⟩
theorem Qq {l:List UInt8}(h:l.length≤128):(Ke l).size=128:=by
 unfold Ke
 show(l++List.replicate (128-l.length) (0:UInt8)).toArray.size=_
 simp;omega
def Pv (l:List UInt8):List ByteArray:=if _h:l=[]then[]else Ke (l.take 128)::Pv (l.drop 128)
termination_by l.length
decreasing_by
 cases l with
 |nil=>contradiction
 |cons a l=>simp;omega
theorem Ih:Pv []=[]:=by rw[Pv];simp
theorem M9 {l:List UInt8}(h:l≠[]):Pv l=Ke (l.take 128)::Pv (l.drop 128):=by
 conv=>lhs;rw[Pv]
 rw[dif_neg h]
def Il (s:ByteArray):List ByteArray:=Pv s.data.toList
theorem jF (n:Nat):∀ l:List UInt8,l.length≤n→∀ b∈Pv l,b.size=128:=by
 induction n with
 |zero=>
  intro l d b c;rw[List.eq_nil_of_length_eq_zero (l:=l) (by omega),Ih]at c
  cases c
 |succ n e=>
  intro l d b c
  by_cases h:l=[]
  ·rw[h,Ih]at c;cases c
  ·rw[M9 h]at c
   rcases List.mem_cons.1 c with h1|h1
   ·rw[h1];exact Qq (by rw[List.length_take];omega)
   ·have f:0<l.length:=by cases l with
     |nil=>contradiction
     |cons a l=>simp
    exact e _ (by rw[List.length_drop];omega) b h1
theorem Qr (n:Nat):∀ l:List UInt8,l.length≤n→(Pv l).length=(l.length+127)/128:=by
 induction n with
 |zero=>
  intro l b;rw[List.eq_nil_of_length_eq_zero (l:=l) (by omega),Ih];rfl
 |succ n ih=>
  intro l b
  by_cases h:l=[]
  ·rw[h,Ih];rfl
  ·have c:0<l.length:=by cases l with
    |nil=>contradiction
    |cons a l=>simp
   rw[M9 h,List.length_cons,ih _ (by rw[List.length_drop];omega),List.length_drop];omega
theorem Jz (s:ByteArray):(Il s).length=(s.size+127)/128:=by
 unfold Il;rw[Qr _ _ (Nat.le_refl _)];simp
theorem Nb (s:ByteArray):∀ b∈Il s,b.size=128:=jF _ _ (Nat.le_refl _)
def Cm (base:Int)(all:List ByteArray):Nat→Dk→Dk×Int
 |0,d=>(d,0)
 |i+1,d=>if(C6 d (base+(i:Int)) (all[i]?.getD ⟨#[]⟩)).2=0 then Cm base all i (C6 d (base+(i:Int)) (all[i]?.getD ⟨#[]⟩)).1 else C6 d (base+(i:Int)) (all[i]?.getD ⟨#[]⟩)
def Fk (l:Lo):Int:=(l.end_-(l.tail.size:Int))/128
def Gj (l:Lo):List ByteArray:=if Fk l+(Il l.tail).length<l.n then Il l.tail++[C9]else Il l.tail
def J0 (l:Lo):Lo:={l with safe:=l.end_,tail:=l.tail.extract (l.tail.size-(l.end_%128).toNat) l.tail.size}
def Bi (d:Dk)(l:Lo):Dk×Lo×Int:=
 if l.safe=l.end_ then(d,l,0)else
 let x:=Cm (l.from_+Fk l) (Gj l) (Gj l).length d
 if x.2=0 then(x.1,J0 l,0)else(x.1,l,x.2)
open Classical in
noncomputable def As (l:Lo) (r:Rc.Rec):Lo×Int×Int:=
 let r':Rc.Rec:={r with lsn:=l.end_+1}
 if ¬ Rc.Bu r' then(l,0,1)else
 if l.n*128-((D5 r').length:Int)<l.end_ then(l,0,18)else
 ({l with end_:=l.end_+((D5 r').length:Int),tail:=l.tail++⟨(D5 r').toArray⟩},l.end_+1,0)
end Lg
namespace Go.Proofs.YtmfkhdhnbkambaaGreatDoor
open Go.RowKit
def Hn (b:ByteArray):List Value:=[.string b]
theorem Zq (b:ByteArray):(Hn b).length=1:=rfl
theorem So (l:List ByteArray):l.flatMap Hn=l.map Value.string:=by
 induction l with
 |nil=>rfl
 |cons b l ih=>rw[List.flatMap_cons,ih];rfl
abbrev D1 (d:Lg.Dk)(A:Option Addr)(c:Nat):Value:=.agg #[.slice A d.sectors.length c,d.left,d.down]
structure Dd (w:World) (d:Lg.Dk) (A:Option Addr) (c:Nat):Prop where
 secs:Reads w A c d.sectors.length (d.sectors.flatMap Hn)
 small:d.sectors.length≤1000000
theorem Dd.below {w w':World}{d:Lg.Dk}{A:Option Addr}{c:Nat}(h:Dd w d A c)(a:Bw w w'):Dd w' d A c:=⟨h.secs.below a,h.small⟩
theorem Rg (d:Lg.Dk)(A:Option Addr)(c:Nat)(a:Int)(w:World):
 Cr 213 #[D1 d A c,a] w (.bool (decide (Lg.Hm d a))):=by
 obtain⟨L,left,down⟩:=d
 by_cases b:0≤a
 ·by_cases e:a<(L.length:Int)
  ·rw[decide_eq_true (show Lg.Hm ⟨L,left,down⟩ a from And.intro b e)]
   go_enter Tryz.func213,Tryz.ntmps213;go_wp2_with fail;go_ret;exact⟨by simp,Ac _ _⟩
  ·rw[decide_eq_false (show ¬ Lg.Hm ⟨L,left,down⟩ a from fun h=>e h.2)]
   go_enter Tryz.func213,Tryz.ntmps213;go_wp2_with fail;go_ret;exact⟨by simp,Ac _ _⟩
 ·rw[decide_eq_false (show ¬ Lg.Hm ⟨L,left,down⟩ a from fun h=>b h.1)]
  go_enter Tryz.func213,Tryz.ntmps213;go_wp2_with fail;go_ret;exact⟨by simp,Ac _ _⟩
theorem jG (d:Lg.Dk)(A:Option Addr)(c:Nat)(a:Int)(w:World)(h:Dd w d A c):
 Cr 186 #[D1 d A c,a] w (.tuple #[.string (Lg.Lt d a).1,.int .i64 (Lg.Lt d a).2]):=by
 have j:=Hq (fun W=>Rg d A c a W);have q:=Hq h.secs;clear h;unfold Lg.Lt
 cases l:d.down with
 |true=>
  obtain⟨L,left,down⟩:=d;simp only at l;subst l;rw[if_pos rfl];dsimp only[D1];go_enter Tryz.func186,Tryz.ntmps186;go_wp2_with fail;go_ret2;exact⟨rfl,Ac _ _⟩
 |false=>
  rw[if_neg (by simp)]
  by_cases i:Lg.Hm d a
  ·rw[if_pos i]
   rw[decide_eq_true i]at j;obtain⟨L,left,down⟩:=d;simp only at l;subst l;unfold Lg.Hm at i;unfold Lg.Iq;dsimp only[D1]at i j q ⊢;obtain⟨r,v⟩:=i;obtain⟨k,rfl⟩:=Int.eq_ofNat_of_zero_le r;have hk:k<L.length:=(by omega);obtain⟨b,off,rfl,y,n,g⟩:=Bz Zq q.out hk;have m:=g 0 _ rfl;simp only[Nat.mul_one,Nat.add_zero]at m;rw[Int.toNat_natCast,List.getElem?_eq_getElem hk,Option.getD_some];generalize L[k]=x at m ⊢;have t:=Hq m;clear m g r;go_enter Tryz.func186,Tryz.ntmps186
   go_upto_region 5 with(go_at_call 213;(with_reducible refine(j.out _).mono ?_);rintro e s ⟨rfl,f⟩;have u:=Aa (Bv f))
   have z:s.cell? ⟨b,off+k,none⟩=some (.string x):=(Ag (Ac w _) f).cell (p:=⟨b,off+k,none⟩) n|>.trans t.out
   have o:=Hq (Ag (Ac w _) f);clear f;go_wp2_with fail;go_ret2;exact⟨rfl,o.out⟩
  ·rw[if_neg i]
   rw[decide_eq_false i]at j;clear i;obtain⟨L,left,down⟩:=d;simp only at l;subst l;dsimp only[D1]at j ⊢;go_enter Tryz.func186,Tryz.ntmps186
   go_wp2_with(go_at_call 213;(with_reducible refine(j.out _).mono ?_);rintro e s ⟨rfl,f⟩)
   go_ret2;exact⟨rfl,Ag (Ac _ _) f⟩
def Gu (x:Lg.Dk×Int)(A:Option Addr)(w:World)(e:Ending)(w':World):Prop:=
 ∃ A' c',e= .returned (.tuple #[D1 x.1 A' c',x.2])∧Dd w' x.1 A' c'∧(A'=A∨De w.heap.size w' 9 A')∧Bw w w'
theorem jH (l:List ByteArray)(A:Option Addr)(c:Nat)(g:0<l.length)(k:l.length≤1000000)(w:World)(h:Reads w A c l.length (l.flatMap Hn)):
 Cq 214 #[.slice A l.length c] w fun e w'=>∃ v,e= .returned v∧w'.ownsRow w.heap.size 9 1 v l.length (l.map Value.string)∧Bw w w':=by
 obtain⟨b,off,rfl,_,_,a⟩:=h g;refine(Tryz.slices_Clone_string b off l.length c l w (Nat.le_refl _) (by omega) (fun j f=>?_)).mono ?_
 ·have d:=a j (.string l[j]) (by rw[So];simp[f])
  rw[d,List.getD_eq_getElem?_getD,List.getElem?_eq_getElem f]
  rfl
 ·rintro e w' ⟨v,rfl,d,_,i⟩
  rw[List.take_length]at d;exact⟨v,rfl,d,i⟩
theorem Of {d:Lg.Dk}{A:Option Addr}{c:Nat}{w w':World}{dn:Bool}{k:Int}{x:Lg.Dk×Int}(b:x=(⟨d.sectors,d.left,dn⟩,k))(h:Dd w d A c)(a:Bw w w'):Gu x A w (.returned (.tuple #[.agg #[.slice A d.sectors.length c,d.left,dn],k])) w':=by
 subst b;exact⟨A,c,rfl,⟨h.secs.below a,h.small⟩,.inl rfl,a⟩
theorem U8 {L:List ByteArray}{A a:Option Addr}{n c:Nat}{w w':World}{left:Int}{x:Lg.Dk×Int}(f:x=(⟨L,left,false⟩,0))(g:L.length=n){d:List Value}(h:Reads w' a c n d){M:List ByteArray}{k:Nat}{b:ByteArray}(i:d=(M.map Value.string).set k (.string b))(e:L=M.set k b)(j:L.length≤1000000)(l:De w.heap.size w' 9 a)(m:Bw w w'):
 Gu x A w (.returned (.tuple #[.agg #[.slice a n c,left,false],()])) w':=by
 subst f g;refine⟨a,c,rfl,⟨?_,j⟩,.inr l,m⟩;rw[So]
 show Reads w' a c L.length (L.map Value.string)
 rw[i]at h;rw[e,List.map_set];rw[e]at h;exact h
theorem Zr (L:List ByteArray)(left:Int)(A:Option Addr)(c:Nat)(a:Int)(b:ByteArray)(x:Lg.Dk×Int)(i:x=(⟨L,left,true⟩,20))(w:World)(h:Dd w ⟨L,left,true⟩ A c):
 Cq 179 #[.agg #[.slice A L.length c,left,true],a,b] w (Gu x A w):=by
 have j:=Hq (fun w' k=>Of (dn:=true) i h (w':=w') k);dsimp only at j;clear i h;go_enter Tryz.func179,Tryz.ntmps179;go_upto_region 1 with fail;have d:=Lx w #[.slice A L.length c,left,true] 28 #["s",(),false] 28;have f:=Aa d.out.Ao;obtain⟨l,e⟩:=E0 d;rw[← e]at d f ⊢;clear e;have g:=Hq (show l.heap[w.heap.size]? =some (.cells #[.slice A L.length c,left,true] 28 (0,0))from(by have h:=d.out.Ao;simpa using h))
 go_wp2_with(first|with_reducible refine lL g.out Fy ?_|with_reducible refine lS #[.slice A L.length c,left,true] d.out.Aq ?_)
 refine rT2 (.int .i64 20) d.out.Aq Fy ?_;exact j.out _ ((d.out.row 1 _ _ rfl).below)
theorem cU (L:List ByteArray)(left:Int)(A:Option Addr)(c:Nat)(a:Int)(b:ByteArray)(i:¬ (Lg.Hm ⟨L,left,false⟩ a∧b.size=128))(x:Lg.Dk×Int)(y:x=(⟨L,left,false⟩,1))(w:World)(h:Dd w ⟨L,left,false⟩ A c):
 Cq 179 #[.agg #[.slice A L.length c,left,false],a,b] w (Gu x A w):=by
 have o:=Hq (fun w' z=>Of (dn:=false) y h (w':=w') z);dsimp only at o;have m:=Hq (fun W=>Rg ⟨L,left,false⟩ A c a W);clear y h
 by_cases n:Lg.Hm ⟨L,left,false⟩ a
 ·rw[decide_eq_true n]at m
  have B:¬ b.size=128:=fun e=>i ⟨n,e⟩;have p:((b.size:Int)==128)=false:=by simp;omega
  have q:((b.size:Int) != 128)=true:=by simp;omega
  have r:(b.size==128)=false:=by simp;omega
  have s:(b.size != 128)=true:=by simp;omega
  clear i n;dsimp only[D1]at m;go_enter Tryz.func179,Tryz.ntmps179;go_upto_region 1 with fail;have d:=Lx w #[.slice A L.length c,left,false] 28 #["s",(),false] 28;have j:=Aa d.out.Ao;obtain⟨t,f⟩:=E0 d;rw[← f]at d j ⊢;clear f;have k:=Hq (show t.heap[w.heap.size]? =some (.cells #[.slice A L.length c,left,false] 28 (0,0))from(by have h:=d.out.Ao;simpa using h))
  go_upto_region 4 with(first|with_reducible refine lL k.out Fy ?_|(go_at_call 213;(with_reducible refine(m.out _).mono ?_);rintro e u ⟨rfl,g⟩;have H1:=Hq (d.out.step g);clear g;have v:=Aa H1.out.Ao))
  have l:=Hq (show u.heap[w.heap.size]? =some (.cells #[.slice A L.length c,left,false] 28 (0,0))from(by have h:=H1.out.Ao;simpa using h));clear B p q r s
  go_wp2_with(first|with_reducible refine lL l.out Fy ?_|with_reducible refine lS #[.slice A L.length c,left,false] H1.out.Aq ?_)
  refine rT2 (.int .i64 1) H1.out.Aq Fy ?_;exact o.out _ ((H1.out.row 1 _ _ rfl).below)
 ·rw[decide_eq_false n]at m
  clear i n;dsimp only[D1]at m;go_enter Tryz.func179,Tryz.ntmps179;go_upto_region 1 with fail;have d:=Lx w #[.slice A L.length c,left,false] 28 #["s",(),false] 28;have j:=Aa d.out.Ao;obtain⟨t,f⟩:=E0 d;rw[← f]at d j ⊢;clear f;have k:=Hq (show t.heap[w.heap.size]? =some (.cells #[.slice A L.length c,left,false] 28 (0,0))from(by have h:=d.out.Ao;simpa using h))
  go_upto_region 4 with(first|with_reducible refine lL k.out Fy ?_|(go_at_call 213;(with_reducible refine(m.out _).mono ?_);rintro e u ⟨rfl,g⟩;have H1:=Hq (d.out.step g);clear g;have v:=Aa H1.out.Ao))
  have l:=Hq (show u.heap[w.heap.size]? =some (.cells #[.slice A L.length c,left,false] 28 (0,0))from(by have h:=H1.out.Ao;simpa using h))
  go_wp2_with(first|with_reducible refine lL l.out Fy ?_|with_reducible refine lS #[.slice A L.length c,left,false] H1.out.Aq ?_)
  refine rT2 (.int .i64 1) H1.out.Aq Fy ?_;exact o.out _ ((H1.out.row 1 _ _ rfl).below)
theorem cV (L:List ByteArray)(A:Option Addr)(c:Nat)(a:Int)(b:ByteArray)(r:Lg.Hm ⟨L,0,false⟩ a)(u:b.size=128)(x:Lg.Dk×Int)(s:x=(⟨L,0,true⟩,20))(w:World)(h:Dd w ⟨L,0,false⟩ A c):
 Cq 179 #[.agg #[.slice A L.length c,(),false],a,b] w (Gu x A w):=by
 have t:=Hq (fun w' v=>Of (dn:=true) s h (w':=w') v);dsimp only at t;have i:=Hq (fun W=>Rg ⟨L,0,false⟩ A c a W);rw[decide_eq_true r]at i;have j:((b.size:Int)==128)=true:=by simp;omega
 have k:((b.size:Int) != 128)=false:=by simp;omega
 have l:(b.size==128)=true:=by simp;omega
 have m:(b.size != 128)=false:=by simp;omega
 clear s h u r;dsimp only[D1]at i;go_enter Tryz.func179,Tryz.ntmps179;go_upto_region 1 with fail;have d:=Lx w #[.slice A L.length c,(),false] 28 #["s",(),false] 28;have n:=Aa d.out.Ao;obtain⟨y,f⟩:=E0 d;rw[← f]at d n ⊢;clear f;have o:=Hq (show y.heap[w.heap.size]? =some (.cells #[.slice A L.length c,(),false] 28 (0,0))from(by have h:=d.out.Ao;simpa using h))
 go_upto_region 5 with(first|with_reducible refine lL o.out Fy ?_|(go_at_call 213;(with_reducible refine(i.out _).mono ?_);rintro e z ⟨rfl,g⟩;have H1:=Hq (d.out.step g);clear g;have B:=Aa H1.out.Ao))
 clear j k l m;have C:=Ap H1.out.Ao;go_upto_region 7 with fail;have p:=Hq (show(z.setCell ⟨w.heap.size,2,none⟩ (.bool true)).heap[w.heap.size]? =some (.cells #[.slice A L.length c,(),true] 28 (0,0))from by have h:=(H1.out.set 0 2 (.bool true) _ rfl).get 0 _ rfl;simpa using h);have q:=Hq (H1.out.set 0 2 (.bool true) _ rfl)
 go_wp2_with(first|with_reducible refine lL p.out Fy ?_|with_reducible refine lS #[.slice A L.length c,(),true] q.out.Aq ?_)
 refine rT2 (.int .i64 20) q.out.Aq Fy ?_;exact t.out _ ((q.out.row 1 _ _ rfl).below)
theorem jI (L:List ByteArray)(left:Int)(H:left≠0)(a7: -9223372036854775808≤left∧left≤9223372036854775807)(A:Option Addr)(c:Nat)(k:Nat)(b:ByteArray)(hk:k<L.length)(hs:b.size=128)(x:Lg.Dk×Int)(hx:x=(⟨L.set k b,if 0<left then left-1 else left,false⟩,0))(w:World)(h:Dd w ⟨L,left,false⟩ A c):
 Cq 179 #[.agg #[.slice A L.length c,left,false],.int .i64 (k:Int),b] w (Gu x A w):=by
 have C:=Hq (fun W=>Rg ⟨L,left,false⟩ A c k W);rw[decide_eq_true (show Lg.Hm ⟨L,left,false⟩ (k:Int)from⟨by omega,by show(k:Int)<(L.length:Int);omega⟩)]at C;have I:((b.size:Int)==128)=true:=by simp;omega
 have J:((b.size:Int) != 128)=false:=by simp;omega
 have K:(b.size==128)=true:=by simp;omega
 have N:(b.size != 128)=false:=by simp;omega
 have O:(left==0)=false:=by simpa using H
 have hlen:L.length≤1000000:=h.small;have HC:=Hq (fun W (hb:Bw w W)=>jH L A c (by omega) hlen W (h.secs.below hb));have D:=Hq hx;have a8:(k:Int)<(L.length:Int):=by omega
 clear hx h hs;dsimp only[D1]at C;go_enter Tryz.func179,Tryz.ntmps179;go_upto_region 1 with fail;have m:=Lx w #[.slice A L.length c,left,false] 28 #["s",(),false] 28;have n:=Aa m.out.Ao;obtain⟨W0,o⟩:=E0 m;rw[← o]at m n ⊢;clear o;have q:=Hq (show W0.heap[w.heap.size]? =some (.cells #[.slice A L.length c,left,false] 28 (0,0))from(by have h:=m.out.Ao;simpa using h))
 go_upto_region 8 with(first|with_reducible refine lL q.out Fy ?_|(go_at_call 213;(with_reducible refine(C.out _).mono ?_);rintro e w1 ⟨rfl,r⟩;have H1:=Hq (m.out.step r);clear r;have P:=Aa H1.out.Ao))
 clear I J K N O C n q m
 go_upto_region 9 with(first|(go_at_call 214;(with_reducible refine(HC.out _ H1.out.below).mono ?_);rintro e w2 ⟨v,rfl,Q,s⟩;obtain⟨A2,c2,rfl⟩:=E1 Q;have E:=Hq (H1.out.step s);have R:=Ap E.out.Ao;have S:=Aa E.out.Ao;clear s P))
 clear S R;have aa:=H1.out.lt (i:=1) (by simp);have t:=J9 Q ⟨w.heap.size,0,none⟩ (.slice A2 L.length c2) (by show w.heap.size<_;omega);obtain⟨g,cap,hv,hg,T,a6,d,u,a⟩:=uK t hk
 injection hv with U ae V
 subst U V;have F:=Hq (E.out.set 0 0 (.slice (some ⟨g,0,none⟩) L.length c2) _ rfl);simp only[Nat.add_zero]at F;obtain⟨W3,y⟩:=ex (w2.setCell ⟨w.heap.size,0,none⟩ (.slice (some ⟨g,0,none⟩) L.length c2));rw[← y]at F d u a T ⊢;have X:=Aa F.out.Ao;rw[List.getElem?_eq_getElem (by simpa using hk)]at d;simp only[List.getElem_map]at d;have j:=Hq a;clear y E Q t a;go_upto_region 10 with fail;have Y:w.heap.size+2≤g:=by omega
 have l:=Hq (F.out.under (M:=g) (by show w.heap.size+2≤g;exact Y) ((Below.refl g W3).setCell (p:=⟨g,k,none⟩) (Nat.le_refl g) (.string b)));have f:=Hq (j.out (.string b));obtain⟨W4,z⟩:=ex (W3.setCell ⟨g,k,none⟩ (.string b));rw[← z]at l f ⊢;have af:=Aa l.out.Ao;have ag:=Ap l.out.Ao;clear z X d u j
 by_cases hp:0<left
 ·rw[if_pos hp]at D
  have ah:IntKind.i64.wrap (left-1)=left-1:=IntWalk.i64_in _ (by omega);go_upto_region 12 with fail;have G:=Hq (l.out.set 0 1 (.int .i64 (left-1)) _ rfl);have Z:=Hq (show(W4.setCell ⟨w.heap.size,1,none⟩ (.int .i64 (left-1))).heap[w.heap.size]? =some (.cells #[.slice (some ⟨g,0,none⟩) L.length c2,.int .i64 (left-1),false] 28 (0,0))from by have h:=G.out.Ao;simpa using h);have B:=Hq (J9 f.out ⟨w.heap.size,1,none⟩ (.int .i64 (left-1)) (by show w.heap.size<_;omega))
  go_wp2_with(first|with_reducible refine lL Z.out Fy ?_|with_reducible refine lS #[.slice (some ⟨g,0,none⟩) L.length c2,.int .i64 (left-1),false] G.out.Aq ?_)
  refine rT2 () G.out.Aq Fy ?_;exact U8 D.out (by rw[List.length_set]) ((Cz B.out).bQ _ _ (fun _ ad e=>(by injection e with e;rw[← e];show g≠w.heap.size+1;omega))) rfl rfl (by rw[List.length_set];exact hlen) (((De.own B.out).row _ _).mono (by omega)) ((G.out.row 1 _ _ rfl).below)
 ·rw[if_neg hp]at D
  have a1:=Hq (show W4.heap[w.heap.size]? =some (.cells #[.slice (some ⟨g,0,none⟩) L.length c2,left,false] 28 (0,0))from(by have h:=l.out.Ao;simpa using h))
  go_wp2_with(first|with_reducible refine lL a1.out Fy ?_|with_reducible refine lS #[.slice (some ⟨g,0,none⟩) L.length c2,left,false] l.out.Aq ?_)
  refine rT2 () l.out.Aq Fy ?_;exact U8 D.out (by rw[List.length_set]) ((Cz f.out).bQ _ _ (fun _ ad e=>(by injection e with e;rw[← e];show g≠w.heap.size+1;omega))) rfl rfl (by rw[List.length_set];exact hlen) (((De.own f.out).row _ _).mono (by omega)) ((l.out.row 1 _ _ rfl).below)
theorem Sp (d:Lg.Dk)(f: -9223372036854775808≤d.left∧d.left≤9223372036854775807)(A:Option Addr)(c:Nat)(a:Int)(b:ByteArray)(w:World)(h:Dd w d A c):
 Cq 179 #[D1 d A c,a,b] w (Gu (Lg.C6 d a b) A w):=by
 obtain⟨L,left,down⟩:=d
 cases down with
 |true=>exact Zr L left A c a b _ (by unfold Lg.C6;rw[if_pos rfl]) w h
 |false=>
  by_cases e:Lg.Hm ⟨L,left,false⟩ a∧b.size=128
  ·by_cases g:left=0
   ·subst g
    exact cV L A c a b e.1 e.2 _ (by unfold Lg.C6;rw[if_neg (by simp),if_neg (fun i=>i e),if_pos rfl]) w h
   ·obtain⟨k,rfl⟩:=Int.eq_ofNat_of_zero_le e.1.1
    have hk:k<L.length:=(by have j:=e.1.2;simp only at j;omega);exact jI L left g f A c k b hk e.2 _ (by unfold Lg.C6;rw[if_neg (by simp),if_neg (fun i=>i e),if_neg g];simp) w h
  ·exact cU L left A c a b e _ (by unfold Lg.C6;rw[if_neg (by simp),if_pos e]) w h
theorem cW (n:Nat)(e:n≤4096)(W:World):(Instr.makeSlice 112 (.int .i64 (n:Int)) (.int .i64 (n:Int))).run Tryz.prog W= .ok (.slice (some ⟨W.heap.size,0,none⟩) n n) (W.alloc (.cells (madeCells #[Value.int .u8 0] n) 5)):=by
 obtain⟨i0,d,a,b,c⟩:=info_parts Pj;have h:=run_make (P:=Tryz.prog) W 112 5 i0 (.int .u8 0) Hw d a .i64 .i64 n n (by omega) (by omega) (by rw[c];omega) (by omega);rw[b,Int.toNat_natCast,Nat.mul_one]at h;exact h
theorem cX (n:Nat)(W:World):(convert 112 9 (.slice (some ⟨W.heap.size,0,none⟩) n n)).run Tryz.prog (W.alloc (.cells (madeCells #[Value.int .u8 0] n) 5))= .ok (.string ⟨(List.replicate n 0).toArray⟩) (W.alloc (.cells (madeCells #[Value.int .u8 0] n) 5)):=by
 have h:=run_convert_bytes_back (P:=Tryz.prog) (W.alloc (.cells (madeCells #[Value.int .u8 0] n) 5)) 112 9 5 ⟨W.heap.size,0,none⟩ n (List.replicate n 0) Hw mQ bM (fun j b=>by
  have a:j<n:=by simpa using b
  have c:(⟨W.heap.size,0,none⟩:Addr).add j=⟨W.heap.size,j,none⟩:=by
   unfold Addr.add;split
   ·rename_i h;rw[h]
   ·simp
  rw[c,World.cell?_alloc_new]
  simp[madeCells,a,Nat.mod_one])
 rw[List.length_replicate]at h;exact h
theorem Mj:(Tryz.prog.info? 9).map (fun i=>(i.zero,i.size,i.bytes))=some (some (.string ⟨#[]⟩),1,16):=by kernel_rfl
theorem jJ (w:World):
 Cr 68 #[] w (.string Lg.C9):=by
 have a:=cW 128 (by omega);have b:=cX 128;unfold Lg.C9;generalize d:(⟨(List.replicate 128 0).toArray⟩:ByteArray)=R at b ⊢;clear d;have c:∀ W:World,(Instr.makeSlice 112 (.int .i64 128) (.int .i64 128)).run Tryz.prog W= .ok (.slice (some ⟨W.heap.size,0,none⟩) 128 128) (W.alloc (.cells (madeCells #[Value.int .u8 0] 128) 5)):=a;clear a;go_enter Tryz.func68,Tryz.ntmps68;go_wp2_with fail;go_ret;exact⟨rfl,Ac _ _⟩
def Wv (d:Lg.Dk)(w:World)(e:Ending)(w':World):Prop:=
 ∃ A c,e= .returned (.tuple #[D1 d A c,()])∧Dd w' d A c∧De w.heap.size w' 9 A∧Bw w w'
theorem oR (n:Nat)(V:1≤n)(h2:n≤65536)(w:World):
 Cq 27 #[.int .i64 (n:Int)] w (Wv (Lg.Li n) w):=by
 have P:=Hq (fun W=>jJ W);have H:=Hq (fun v c A w' (l:Dt Hn 1 9 (w.heap.size+2) w' v (List.replicate n Lg.C9)) (X:v= .slice A n c) (Y:Reads w' A c n ((List.replicate n Lg.C9).flatMap Hn)) (E:Bw w w')=>show Wv (Lg.Li n) w (.returned (.tuple #[.agg #[.slice A n c,.int .i64 (-1),false],()])) w' from by
  refine⟨A,c,?_,⟨?_,?_⟩,?_,E⟩
  ·unfold D1 Lg.Li;simp
  ·unfold Lg.Li;simpa using Y
  ·unfold Lg.Li;simp;omega
  ·unfold Dt at l
   rw[List.length_replicate,X]at l;exact(De.own l).mono (by omega))
 generalize Lg.C9=z at P H ⊢;generalize Wv (Lg.Li n) w=Q at H ⊢;have Z:¬ (n:Int)<1:=by omega
 have a1:(n:Int)≤65536:=by omega
 go_enter Tryz.func27,Tryz.ntmps27;go_upto_region 4 with fail;have I:=Lx w #["s",(),false] 28 #["s",.int .i64 (-1),false] 28;obtain⟨W0,q⟩:=E0 I;rw[← q]at I ⊢;clear q;go_wp2_with fail
 go_loopw [5] (fun i wr=>∃ (k:Nat) (v:Value),k≤n∧i= .int .i64 (k:Int)∧Eg w.heap.size w [(#["s",(),false],28),(#[v,.int .i64 (-1),false],28)] wr∧Dt Hn 1 9 (w.heap.size+2) wr v (List.replicate k z)) (fun i _=>n-(intOf i).toNat)
 case atStart=>exact⟨0,.slice none 0 0,Nat.zero_le _,rfl,I.out,N9 _ _ _ _⟩
 case round=>
  obtain⟨k,v,hk,rfl,m,j⟩:=hrel;have r:=Hq m;have F:wr.ownsRow (w.heap.size+2) 9 1 v k ((List.replicate k z).flatMap Hn):=by
   have h:=j;unfold Dt at h
   rwa[List.length_replicate]at h
  have a6:=m.lt (i:=1) (by simp);obtain⟨A,c,rfl⟩:=E1 F;clear m j
  by_cases a7:k<n
  ·go_upto_region 7 with fail
   have b:=Hq (r.out.drew);have s:=Bg F (Below.refl _ wr).drew;refine Fu (S:=(fun u=>u.heap[w.heap.size+1]? =some (.cells #[.slice A k c,.int .i64 (-1),false] 28 (0,0)))) 6 Kr ?_ (fun a=>?_)
   ·first|exact hSn|exact b.out.Aq
   refine mR 0 [6] ?_;refine mR 1 [6] ?_;refine Bo (rs:=[2]) Kr (by simp) ?_;refine Au.cons (o:={dst:=some 21,op:=_,type:=_,pos:=_,after:=_,guard:=_}) rfl (fun K d=>?_) ?_
   rotate_left
   ·exact Au.nil
   go_simp
   refine(P.out _).mono ?_;rintro e G ⟨rfl,t⟩;have p:=b.out.step t;have hSn:=p.get 1 _ rfl;have x:=Bg s t;try go_simp
   refine Cw d (fun a=>?_) (by first|exact hSn|exact b.out.Aq);clear d K;refine Bo (rs:=[3]) Kr (by simp) ?_;refine Au.cons (o:={dst:=some 22,op:=_,type:=_,pos:=_,after:=_,guard:=_}) rfl (fun K d=>?_) ?_
   rotate_left
   ·exact Au.nil
   go_simp
   have g:=p.step (Ac G (.cells #[z] 9));have hSn:=g.get 1 _ rfl;have y:=Bg x (Ac G (.cells #[z] 9));have R:=heap_alloc_new G (.cells #[z] 9);refine Cw d (fun a=>?_) (by first|exact hSn|exact b.out.Aq);clear d K;refine Bo (rs:=[4]) Kr (by simp) ?_;refine Au.cons (o:={dst:=some 23,op:=_,type:=_,pos:=_,after:=_,guard:=_}) rfl (fun K d=>?_) ?_
   rotate_left
   ·exact Au.nil
   refine Cc (by rfl) ?_;refine Wc _ (.tmp 20) (.tmp 22) 26 9 V9 Mj rfl (by omega) (by omega) rfl (w.heap.size+2) _ k ((List.replicate k z).flatMap Hn) rfl y G.heap.size (Hn z) 9 rfl R rfl (by simp[Hn,Value.oneCell']) (by omega) (by have V:=g.lt (i:=1) (by simp);omega) ?_;intro v7 w7 l hg E;obtain⟨T,U,rfl⟩:=E1 l;have f:=g.under (M:=w.heap.size+2) (Nat.le_refl _) E;have hSn:=f.get 1 _ rfl;have B:=Aa (f.get 1 _ rfl);have J:=Ap (f.get 1 _ rfl);refine Cw d (fun a=>?_) (by first|exact hSn|exact b.out.Aq);clear d K;refine mR 5 [6] ?_;refine Bo (rs:=[6]) Kr (by simp) ?_;refine Au.last (o:={dst:=none,op:=_,type:=_,pos:=_,after:=_,guard:=_}) rfl Kr (fun K d=>?_) ?_
   rotate_left
   ·exact Au.nil
   go_simp
   refine d.out _ _ ?_;clear d K
   try simp only[Act.put,pS]
   refine Ft Kr ?_ _;have L:=Hq (f.set 1 0 (.slice T (k+1) U) _ rfl);have N:=Hq (J9 l ⟨w.heap.size+1,0,none⟩ (.slice T (k+1) U) (by show w.heap.size+1<_;omega));clear F s x y l hg E p g f hSn B J R a b r;go_wp2_with fail;go_roundw
   case rel=>exact⟨k+1,_,by omega,by go_num,(by have h:=L.out;first|exact h|simpa using h),(by
    have h:=N.out;unfold Dt;rw[List.length_replicate,List.replicate_succ',List.flatMap_append]
    simpa using h)⟩
   case measure=>simp[intOf];omega
  ·obtain rfl:k=n:=by omega
   have O:=Hq r.out.Aq;have C:=Hq (show wr.heap[w.heap.size]? =some (.cells #["s",(),false] 28 (0,0))from by have h:=r.out.Ao;simpa using h)
   go_wp2_with(first|with_reducible refine lL O.out Fy ?_|with_reducible refine lS #[.slice A k c,.int .i64 (-1),false] C.out ?_)
   refine rT2 () C.out Fy ?_;have D:=He F w.heap.size #[.slice A k c,.int .i64 (-1),false] (by omega);exact H.out _ c A _ (by unfold Dt;rw[List.length_replicate];exact D) rfl (Cz D) (by have h:=(r.out.row 0 #[.slice A k c,.int .i64 (-1),false] _ rfl).below;simpa using h)
end Go.Proofs.YtmfkhdhnbkambaaGreatDoor
namespace Lg
theorem Mk (n:Nat):(⟨(Go.Lib.repeatL [(0:UInt8)] n).toArray⟩:ByteArray)=⟨(List.replicate n 0).toArray⟩:=by
 congr 2
 induction n with
 |zero=>rfl
 |succ n ih=>
  rw[List.replicate_succ,← ih]
  rfl
theorem oS (t:ByteArray)(m:Nat)(b:m=min t.size 128):t.extract 0 m++(⟨(Go.Lib.repeatL [(0:UInt8)] (128-m)).toArray⟩:ByteArray)=Ke (t.data.toList.take 128):=by
 rw[Mk];unfold Ke
 apply ByteArray.ext
 rw[ByteArray.data_append]
 apply Array.toList_inj.1
 rw[Array.toList_append];have e:(t.extract 0 m).data.toList=t.data.toList.take 128:=by
  simp only[ByteArray.data_extract,Array.toList_extract,List.extract_eq_take_drop,Nat.sub_zero,List.drop_zero];have a:t.data.toList.length=t.size:=by simp
  by_cases h:t.size≤128
  ·rw[List.take_of_length_le (by omega),List.take_of_length_le (by omega)]
  ·rw[show m=128 by omega]
 have a:(t.data.toList.take 128).length=m:=by rw[List.length_take];simp;omega
 rw[e,a]
theorem oT (t:ByteArray)(m:Nat)(c:m=min t.size 128)(d:0<t.size):Il t=Ke (t.data.toList.take 128)::Il (t.extract m t.size):=by
 unfold Il;have b:t.data.toList≠[]:=fun e=>by
  have a:t.data.toList.length=t.size:=by simp
  rw[e,List.length_nil]at a;omega
 rw[M9 b]
 congr 2
 simp only[ByteArray.data_extract,Array.toList_extract,List.extract_eq_take_drop];have a:t.data.toList.length=t.size:=by simp
 rw[List.take_of_length_le (by rw[List.length_drop];omega)]
 by_cases h:t.size≤128
 ·rw[List.drop_of_length_le (i:=128) (by omega),List.drop_of_length_le (i:=m) (by omega)]
 ·rw[show m=128 by omega]
theorem oU (t:ByteArray)(a:t.size=0):Il t=[]:=by
 unfold Il;have b:t.data.toList=[]:=List.eq_nil_of_length_eq_zero (by simpa using a);rw[b,Ih]
end Lg
namespace Go.Proofs.YtmfkhdhnbkambaaGreatDoor
open Go.RowKit
abbrev Nq (l:Lg.Lo):Value:=.agg #[l.from_,l.n,l.end_,l.safe,l.tail]
def cY (l:List ByteArray)(w:World)(e:Ending)(w':World):Prop:=∃ v,e= .returned v∧Dt Hn 1 9 w.heap.size w' v l∧Bw w w'
theorem sH (s:ByteArray)(hs:s.size≤1000000)(w:World):
 Cq 178 #[s] w (cY (Lg.Il s) w):=by
 have O:=Hq (fun v w' (L:Dt Hn 1 9 w.heap.size w' v (Lg.Il s)) (M:Bw w w')=>show cY (Lg.Il s) w (.returned v) w' from⟨v,rfl,L,M⟩);generalize cY (Lg.Il s) w=Q at O ⊢;obtain⟨C,hC⟩:=ex (Lg.Il s);have a8:C.length≤8000:=by rw[hC,Lg.Jz];omega
 rw[← hC]at O;have HC:=Hq hC;have HR:=Hq (fun(c:Nat) (hc:c≤128) W=>Tryz.strings_Repeat ⟨#[0]⟩ c W (by omega) (show(⟨#[0]⟩:ByteArray).size*c≤140737488355328 from(by show 1*c≤_;have:c≤128:=hc;omega)));clear hC;go_enter Tryz.func178,Tryz.ntmps178;go_wp2_with fail
 go_loopw [0,3] (fun P v wr=>∃ (t:ByteArray) (ls:List ByteArray),P= .string t∧t.size≤1000000∧ls++Lg.Il t=C∧Dt Hn 1 9 w.heap.size wr v ls∧Bw w wr) (fun P _ _=>(match P with| .string t=>t.size|_=>0))
 case atStart=>exact⟨s,[],rfl,hs,HC.out.symm,N9 _ _ _ _,Below.refl _ _⟩
 case round=>
  obtain⟨t,ls,rfl,aa,g,N,hB⟩:=hrel;have R:=Hq hB;have ad:ls.length≤8000:=by have:=congrArg List.length g;rw[List.length_append]at this;omega
  have n:=Hq g;clear hB g
  by_cases h0:0<t.size
  ·obtain⟨m,T⟩:=ex (min t.size 128)
   have ae:min (t.size:Int) 128=(m:Int):=(by omega);have af:m≤t.size:=(by omega);have ag:m≤128:=(by omega);have ah:(0:Int)≤(m:Int):=(by omega);have ai:(m:Int)≤(t.size:Int):=(by omega);have d:(128:Int)-(m:Int)=((128-m:Nat):Int):=(by omega);have U:IntKind.i64.wrap ((128:Int)-(m:Int))=((128-m:Nat):Int):=(by rw[d];exact IntWalk.i64_in _ (by omega));have o:IntKind.i64.wrap ((128-m:Nat):Int)=((128-m:Nat):Int):=IntWalk.i64_in _ (by omega);have V:=Hq (Lg.oS t m T);have HN:=Hq (Lg.oT t m T h0);have p:=Lg.Qq (l:=t.data.toList.take 128) (by rw[List.length_take];omega);have q:(t.extract m t.size).size<t.size:=(by rw[ByteArray.size_extract];omega);have u:=Hq q;have X:=HR.out (128-m) (show 128-m≤128 by omega);have b:(t.extract 0 m).size+(⟨(Lib.repeatL [(0:UInt8)] (128-m)).toArray⟩:ByteArray).size≤9223372036854775807:=by
    rw[Lg.Mk,ByteArray.size_extract]
    show _+(List.replicate (128-m) (0:UInt8)).toArray.size≤_
    simp
    omega
   have Y:=Hq X;obtain⟨z,Z⟩:=ex (⟨(Lib.repeatL [(0:UInt8)] (128-m)).toArray⟩:ByteArray);obtain⟨y,hy⟩:=ex (Lg.Ke (t.data.toList.take 128):ByteArray);have B:Hid (∀ W,Cr 177 #[.string ⟨#[0]⟩,.int .i64 ((128-m:Nat):Int)] W (.string z)):=Hq (by rw[Z];exact X);rw[← Z]at V b;rw[← hy]at V HN p;have D:∀ W:World,(Op.stringOp .add (t.extract 0 m) z).run Tryz.prog W= .ok (.string y) W:=fun W=>by rw[← V.out];exact run_string_add_sum W _ _ b
   obtain⟨r,hr⟩:=ex (128-m:Nat);rw[← hr]at d U o B;clear X HR Y T Z hy q hr b;obtain⟨A,c,rfl⟩:=E1 N;go_upto_region 4 with fail;have E:=Bg N (Below.refl _ wr).drew;have i:=R.out.drew;refine G7 (S:=(fun _=>True)) (fun a=>?_) (by trivial);refine Bb 0 ?_;refine Bb 1 ?_;refine Bb 2 ?_;refine Bb 3 ?_;refine Bb 4 ?_;refine Bb 5 ?_;refine Dg 6 fun K f=>?_
   go_simp
   refine(B.out _).mono ?_;rintro e w1 ⟨rfl,F⟩;have G:=Bg E F;have j:=i.trans (F.mono i.size);try go_simp
   refine Cw f (fun a=>?_) (by trivial);clear f K;refine Bb 7 ?_;refine Dg 8 fun K f=>?_
   go_simp
   have H:=Bg G (Ac w1 (.cells #[y] 9));have k:=j.alloc j.size (.cells #[y] 9);have hG:=heap_alloc_new w1 (.cells #[y] 9);refine Cw f (fun a=>?_) (by trivial);clear f K;refine Dg 9 fun K f=>?_;refine Cc (by rfl) ?_;refine Wc _ (.tmp 11) (.tmp 19) 26 9 V9 Mj rfl (by omega) (by omega) rfl w.heap.size _ ls.length (ls.flatMap Hn) rfl H w1.heap.size (Hn y) 9 rfl hG rfl (by simp[Hn,Value.oneCell']) (by omega) k.size ?_;intro v7 w7 L hg M;have I:=k.trans M;refine Cw f (fun a=>?_) (by trivial);clear f K;refine Bb 10 ?_;refine wpAnyH_done Kr ?_ _;have a1:=Hq (Dt.push (enc:=Hn) (x:=y) L);have a6:=Hq I;clear N E G H i j k I L hg M hG a R D p;go_wp2_with fail;go_roundw
   case rel=>exact⟨_,ls++[y],rfl,by have:=u.out;omega,by rw[List.append_assoc];have h:=n.out;rw[HN.out]at h;exact h,a1.out,a6.out⟩
   case measure=>exact u.out
  ·have a7:t.size=0:=by omega
   have J:ls=C:=(by have h:=n.out;rwa[Lg.oU t a7,List.append_nil]at h);subst J;go_wp2_with fail;exact O.out _ _ N R.out
end Go.Proofs.YtmfkhdhnbkambaaGreatDoor
namespace Rc
end Rc
namespace Go.Proofs.YtmfkhdhnbkambaaGreatDoor
open Go.RowKit
abbrev wU:Array Value:=#[(),(),(),(),(),(),(),(),(),"","",(),(),"",(),(),"s","s"]
end Go.Proofs.YtmfkhdhnbkambaaGreatDoor
namespace Rc
end Rc
namespace Go.Proofs.YtmfkhdhnbkambaaGreatDoor
open Go.RowKit
theorem Zs:(Tryz.prog.info? 59).map (fun i=>(i.zero,i.size,i.bytes))=some (some (.agg #[(),(),(),false]),4,32):=by kernel_rfl
end Go.Proofs.YtmfkhdhnbkambaaGreatDoor
namespace Lg
end Lg
namespace Go.Proofs.YtmfkhdhnbkambaaGreatDoor
open Go.RowKit
end Go.Proofs.YtmfkhdhnbkambaaGreatDoor
namespace Lg
end Lg
namespace Go.Proofs.YtmfkhdhnbkambaaGreatDoor
open Go.RowKit
theorem wV (n:Nat)(h:n<18446744073709551616)(size:Nat)(a:size≤8):(Oct.Bh (n:Int) size).data.toList=Oct.Bm n size:=by
 rw[Oct.Ca _ _ a]
 congr 1
 unfold Oct.word;omega
theorem oV (s:ByteArray)(j:s.size≤1000000)(w:World):
 Cq 181 #[s] w fun e w'=>∃ x:ByteArray,e= .returned (.string x)∧x.data.toList=Oct.Bm (Oct.Gr s.data.toList) 4++s.data.toList∧Bw w w':=by
 have h:=Hq (fun W=>fC s (by omega) W);have c:Oct.Gr s.data.toList<18446744073709551616:=by have:=Oct.fB s.data.toList;omega
 have a:(Oct.Bh ((Oct.Gr s.data.toList:Nat):Int) 4).data.toList=Oct.Bm (Oct.Gr s.data.toList) 4:=wV _ c 4 (by omega);generalize Oct.Gr s.data.toList=n at h a ⊢;have i:=Hq (fun W=>Hp (n:Int) 4 (by omega) (by omega) W);have f:(Oct.Bh (n:Int) 4).size=4:=Oct.Bn _ 4 (by omega);have d:(Oct.Bh (n:Int) 4).size+s.size≤281474976710656:=by omega
 have b:(Oct.Bh (n:Int) 4++s).data.toList=Oct.Bm n 4++s.data.toList:=by
  rw[ByteArray.data_append,Array.toList_append,a]
 clear c a;generalize Oct.Bh (n:Int) 4=x at i f d b;go_enter Tryz.func181,Tryz.ntmps181
 go_wp2_with(first|(go_at_call 215;refine(h.out _).mono ?_;rintro e k ⟨rfl,rfl⟩)|(go_at_call 153;refine(i.out _).mono ?_;rintro e l ⟨rfl,g⟩))
 go_ret;exact⟨_,rfl,b,g⟩
def Sq (r:Rc.Rec)(w:World)(e:Ending)(w':World):Prop:=
 (∃ x:ByteArray,Rc.Bu r∧e= .returned (.tuple #[x,()])∧x.data.toList=Lg.D5 r∨¬ Rc.Bu r∧e= .returned (.tuple #["",.int .i64 1]))∧Bw w w'
theorem Sr (r:Rc.Rec)(A D:Option Addr)(c d:Nat)(w:World)(s:Ig w r A c D d):
 Cq 174 #[D9 r (.slice A r.txns.length c) (.slice D r.dirty.length d)] w (Sq r w):=by
 have f:=Hq (fun W (h:Bw w W)=>cM r A D c d W (s.below h));have l:=Hq (heap_alloc_new w (.cells (D3 r (.slice A r.txns.length c) (.slice D r.dirty.length d)) 49))
 cases g:Rc.D0 r with
 |false=>
  rw[g]at f;have m:¬ Rc.Bu r:=fun h=>by rw[Rc.Fx h]at g;cases g
  have n:=Hq (fun w' (h:Bw w w')=>show Sq r w (.returned (.tuple #["",.int .i64 1])) w' from⟨⟨⟨#[]⟩,.inr ⟨m,rfl⟩⟩,h⟩);clear m g s;generalize Sq r w=Q at n ⊢;obtain⟨v,prev,B,kind,Ad,next,M,⟨ok,os,N,on⟩,C,root,⟨O,P,es⟩,R,S⟩:=r;dsimp only[D9,D3]at f l ⊢;go_enter Tryz.func174,Tryz.ntmps174
  go_wp2_with(first
   |with_reducible refine lL l.out C5 ?_
   |(go_at_call 206;(with_reducible refine(f.out _ (Ac _ _)).mono ?_);rintro e T ⟨rfl,b⟩))
  exact n.out _ (Ag (Ac _ _) b)
 |true=>
  rw[g]at f;have t:Rc.Bu r:=Rc.Sg.1 g;have u:=Hq (fun W (h:Bw w W)=>oN r t A D c d W (s.below h));obtain⟨y,E⟩:=ex (⟨(Rc.Di r).toArray⟩:ByteArray);rw[← E]at u;have i:y.data.toList=Rc.Di r:=by rw[E]
  have hlen:=Rc.M8 t;have o:y.size=(Rc.Di r).length:=by rw[← i];simp
  have F:y.size≤1000000:=by omega
  have U:=Hq (fun W=>oV y F W);have K:=Hq (fun W=>Hp (y.size:Int) 4 (by omega) (by omega) W);have j:(Oct.Bh (y.size:Int) 4).data.toList=Oct.Bm y.size 4:=wV _ (by omega) 4 (by omega);have G:(Oct.Bh (y.size:Int) 4).size=4:=Oct.Bn _ 4 (by omega);generalize Oct.Bh (y.size:Int) 4=z at K j G;have n:=Hq (fun w' (x:ByteArray) (a:x.data.toList=Oct.Bm (Oct.Gr y.data.toList) 4++y.data.toList) (h:Bw w w')=>show Sq r w (.returned (.tuple #[.string (z++x),()])) w' from⟨⟨z++x,.inl ⟨t,rfl,by rw[ByteArray.data_append,Array.toList_append,j,a,i,o];rfl⟩⟩,h⟩);have V:=Hq (fun(x:ByteArray) (a:x.data.toList=Oct.Bm (Oct.Gr y.data.toList) 4++y.data.toList)=>show x.size≤1000004 from by
   have e:x.size=x.data.toList.length:=(by simp);rw[e,a,List.length_append,Oct.Bc];have Y:y.data.toList.length=y.size:=(by simp);omega)
  clear t g s E i hlen o j;generalize Sq r w=Q at n ⊢;obtain⟨v,prev,B,kind,Ad,next,M,⟨ok,os,N,on⟩,C,root,⟨O,P,es⟩,R,S⟩:=r;dsimp only[D9,D3]at f l u ⊢;go_enter Tryz.func174,Tryz.ntmps174
  go_upto_region 3 with(first
   |with_reducible refine lL l.out C5 ?_
   |(go_at_call 206;(with_reducible refine(f.out _ (Ac _ _)).mono ?_);rintro e T ⟨rfl,b⟩))
  have p:=Hq (Af l.out b);have k:=Hq (Ag (Ac w _) b);clear b l f
  go_upto_region 4 with(first
   |with_reducible refine lL p.out C5 ?_
   |(go_at_call 207;(with_reducible refine(u.out _ k.out).mono ?_);rintro e Z ⟨rfl,q⟩))
  have H:=Hq (Ag k.out q);clear q k p u
  go_wp2_with(first|(go_at_call 153;refine(K.out _).mono ?_;rintro e w3 ⟨rfl,I⟩)|(go_at_call 181;refine(U.out _).mono ?_;rintro e w4 ⟨x,rfl,a,J⟩;have X:=V.out x a;have L:z.size+x.size≤281474976710656:=(by omega)))
  exact n.out _ x a (Ag (Ag H.out I) J)
end Go.Proofs.YtmfkhdhnbkambaaGreatDoor
namespace Lg
theorem O1 {l:Lo}{r:Rc.Rec}(h:¬ Rc.Bu {r with lsn:=l.end_+1}):As l r=(l,0,1):=by
 unfold As;simp only;rw[if_pos h]
theorem Qs {l:Lo}{r:Rc.Rec}(h:Rc.Bu {r with lsn:=l.end_+1})(a:l.n*128-((D5 {r with lsn:=l.end_+1}).length:Int)<l.end_):As l r=(l,0,18):=by
 unfold As;simp only;rw[if_neg (fun b=>b h),if_pos a]
theorem U9 {l:Lo}{r:Rc.Rec}(h:Rc.Bu {r with lsn:=l.end_+1})(a:¬ l.n*128-((D5 {r with lsn:=l.end_+1}).length:Int)<l.end_):As l r=({l with end_:=l.end_+((D5 {r with lsn:=l.end_+1}).length:Int),tail:=l.tail++⟨(D5 {r with lsn:=l.end_+1}).toArray⟩},l.end_+1,0):=by
 unfold As;simp only;rw[if_neg (fun b=>b h),if_neg a]
end Lg
namespace Go.Proofs.YtmfkhdhnbkambaaGreatDoor
open Go.RowKit
theorem cZ (r:Rc.Rec)(a:Rc.Bu r)(A D:Option Addr)(c d:Nat)(w:World)(b:Ig w r A c D d):
 Cr 174 #[D9 r (.slice A r.txns.length c) (.slice D r.dirty.length d)] w (.tuple #[.string ⟨(Lg.D5 r).toArray⟩,()]):=by
 refine(Sr r A D c d w b).mono ?_;rintro e w' ⟨⟨x,h⟩,f⟩;rcases h with⟨_,rfl,g⟩|⟨h,_⟩
 ·exact⟨by rw[← g],f⟩
 ·exact absurd a h
theorem jK (r:Rc.Rec)(a:¬ Rc.Bu r)(A D:Option Addr)(c d:Nat)(w:World)(b:Ig w r A c D d):
 Cr 174 #[D9 r (.slice A r.txns.length c) (.slice D r.dirty.length d)] w (.tuple #["",.int .i64 1]):=by
 refine(Sr r A D c d w b).mono ?_;rintro e w' ⟨⟨x,h⟩,f⟩;rcases h with⟨h,_⟩|⟨_,rfl⟩
 ·exact absurd h a
 ·exact⟨rfl,f⟩
def Ss (x:Lg.Lo×Int×Int)(w:World)(e:Ending)(w':World):Prop:=e= .returned (.tuple #[Nq x.1,x.2.1,x.2.2])∧Bw w w'
theorem Su (l:Lg.Lo)(ae:0≤l.end_)(af:l.end_≤1000000000)(ag: -1000000000≤l.n)(ah:l.n≤1000000000)(ht:l.tail.size≤1000000000)(r:Rc.Rec)(A D:Option Addr)(c d:Nat)(w:World)(R:Ig w r A c D d):
 Cq 127 #[Nq l,D9 r (.slice A r.txns.length c) (.slice D r.dirty.length d)] w (Ss (Lg.As l r) w):=by
 have P:=Hq (fun v W (hb:Bw w W)=>cZ {r with lsn:=l.end_+1} v A D c d W ⟨R.txns.below hb,R.dirty.below hb,R.small⟩);have Q:=Hq (fun v W (hb:Bw w W)=>jK {r with lsn:=l.end_+1} v A D c d W ⟨R.txns.below hb,R.dirty.below hb,R.small⟩);have HN:=Hq (@Lg.O1 l r);have H:=Hq (@Lg.Qs l r);have I:=Hq (@Lg.U9 l r);generalize Lg.As l r=o at HN H I ⊢;clear R;obtain⟨k,n,a,m,g⟩:=l;obtain⟨lsn,prev,b,kind,Ad,next,y,⟨ok,os,z,on⟩,f,root,⟨B,C,es⟩,E,F⟩:=r;dsimp only[D9,D3,Nq]at P Q HN H I ae af ag ah ht ⊢;have al:IntKind.i64.wrap (a+1)=a+1:=IntWalk.i64_in _ (by omega)
 by_cases v:Rc.Bu ⟨a+1,prev,b,kind,Ad,next,y,⟨ok,os,z,on⟩,f,root,⟨B,C,es⟩,E,F⟩
 ·have HP:=Hq (P.out v)
  have t:=Hq (H.out v);have i:=Hq (I.out v);have J:(Lg.D5 ⟨a+1,prev,b,kind,Ad,next,y,⟨ok,os,z,on⟩,f,root,⟨B,C,es⟩,E,F⟩).length≤40008:=by rw[Lg.Mi];have:=(Rc.M8 v).2;omega
  obtain⟨x,hx⟩:=ex (⟨(Lg.D5 ⟨a+1,prev,b,kind,Ad,next,y,⟨ok,os,z,on⟩,f,root,⟨B,C,es⟩,E,F⟩).toArray⟩:ByteArray);have a6:(Lg.D5 ⟨a+1,prev,b,kind,Ad,next,y,⟨ok,os,z,on⟩,f,root,⟨B,C,es⟩,E,F⟩).length=x.size:=by rw[hx];show _=((Lg.D5 ⟨a+1,prev,b,kind,Ad,next,y,⟨ok,os,z,on⟩,f,root,⟨B,C,es⟩,E,F⟩).toArray).size;simp
  rw[a6]at t i J;rw[← hx]at HP i;have an:=J;clear P Q HN H I v hx a6 J;go_enter Tryz.func127,Tryz.ntmps127;go_upto_region 1 with fail;have p:=Ol w #[k,n,a,m,g] 30 (Cn lsn prev b kind Ad next y ok os z on f root B C es (.slice A E.length c) (.slice D F.length d)) 49 #[(),(),(),(),""] 30;obtain⟨T,q⟩:=E0 p;have U:T.heap.size=w.heap.size+3:=by rw[q];simp
  rw[← q]at p ⊢;have V:=Aa p.out.Ao;have X:=Aa p.out.Aq;have Y:=Ap p.out.Aq;clear q;go_upto_region 2 with fail;have H1:=Hq (show Eg w.heap.size w [(#[k,n,a,m,g],30),((Cn (a+1) prev b kind Ad next y ok os z on f root B C es (.slice A E.length c) (.slice D F.length d)),49),(#[(),(),(),(),""],30)] (T.setCell ⟨w.heap.size+1,0,none⟩ (.int .i64 (a+1)))from by have h:=p.out.set 1 0 (.int .i64 (a+1)) _ rfl;simpa using h);obtain⟨W1,L⟩:=ex (T.setCell ⟨w.heap.size+1,0,none⟩ (.int .i64 (a+1)));rw[← L]at H1 ⊢;clear L V X Y p U;have M:=Hq H1.out.Aq
  go_upto_region 3 with(first
   |with_reducible refine lL M.out C5 ?_
   |(go_at_call 174;(with_reducible refine(HP.out _ H1.out.below).mono ?_);rintro e w2 ⟨rfl,N⟩))
  have G:=Hq (H1.out.step N);clear N H1 M HP;have hm:IntKind.i64.wrap (n*128)=n*128:=IntWalk.i64_in _ (by omega);have ao:IntKind.i64.wrap (n*128-(x.size:Int))=n*128-(x.size:Int):=IntWalk.i64_in _ (by omega);have aq:IntKind.i64.wrap (a+(x.size:Int))=a+(x.size:Int):=IntWalk.i64_in _ (by omega)
  by_cases Z:n*128-(x.size:Int)<a
  ·have HO:=Hq (t.out Z)
   have j:=Hq (show w2.heap[w.heap.size]? =some (.cells #[k,n,a,m,g] 30 (0,0))from by have h:=G.out.Ao;simpa using h);have a7:=Aa j.out;clear t i
   go_wp2_with(first
    |with_reducible refine lL j.out Jj ?_
    |with_reducible refine lS #[k,n,a,m,g] G.out.Cd ?_)
   refine rT3 () (.int .i64 18) G.out.Cd Jj ?_;rw[HO.out];exact⟨rfl,(G.out.row 2 _ _ rfl).below⟩
  ·have HO:=Hq (i.out (by omega))
   have a8:∀ W:World,(Op.stringOp .add g x).run Tryz.prog W= .ok (.string (g++x)) W:=fun W=>run_string_add_sum W _ _ (by omega);have j:=Hq (show w2.heap[w.heap.size]? =some (.cells #[k,n,a,m,g] 30 (0,0))from by have h:=G.out.Ao;simpa using h);have a7:=Aa j.out;have ai:=Ap j.out;clear t i;go_upto_region 8 with fail;have H3:=Hq (show Eg w.heap.size w [(#[k,n,.int .i64 (a+(x.size:Int)),m,g],30),((Cn (a+1) prev b kind Ad next y ok os z on f root B C es (.slice A E.length c) (.slice D F.length d)),49),(#[(),(),(),(),""],30)] (w2.setCell ⟨w.heap.size,2,none⟩ (.int .i64 (a+(x.size:Int))))from by have h:=G.out.set 0 2 (.int .i64 (a+(x.size:Int))) _ rfl;simpa using h);obtain⟨W3,aa⟩:=ex (w2.setCell ⟨w.heap.size,2,none⟩ (.int .i64 (a+(x.size:Int))));rw[← aa]at H3 ⊢;clear aa a7 ai j G;have aj:=Aa H3.out.Ao;have ak:=Ap H3.out.Ao;go_upto_region 9 with fail;have H4:=Hq (show Eg w.heap.size w [(#[k,n,.int .i64 (a+(x.size:Int)),m,.string (g++x)],30),((Cn (a+1) prev b kind Ad next y ok os z on f root B C es (.slice A E.length c) (.slice D F.length d)),49),(#[(),(),(),(),""],30)] (W3.setCell ⟨w.heap.size,4,none⟩ (.string (g++x)))from by have h:=H3.out.set 0 4 (.string (g++x)) _ rfl;simpa using h);obtain⟨W4,ad⟩:=ex (W3.setCell ⟨w.heap.size,4,none⟩ (.string (g++x)));rw[← ad]at H4 ⊢;clear ad aj ak H3 a8;have s:=Hq H4.out.drew;refine G7 (S:=(fun u=>u.heap[w.heap.size]? =some (.cells #[k,n,.int .i64 (a+(x.size:Int)),m,.string (g++x)] 30 (0,0))∧u.heap[w.heap.size+1]? =some (.cells (Cn (a+1) prev b kind Ad next y ok os z on f root B C es (.slice A E.length c) (.slice D F.length d)) 49 (0,0)))) (fun O=>?_) (by first|exact hSn|exact⟨(by have h:=s.out.Ao;simpa using h),s.out.Aq⟩);refine Bb 0 ?_;refine Bb 1 ?_;refine Bb 2 ?_;refine Dg 3 fun K hK=>?_;refine Cc (by rfl) ?_;refine sW #[k,n,.int .i64 (a+(x.size:Int)),m,.string (g++x)] s.out.Cd ?_;have a1:=s.out.row 2 #[k,n,.int .i64 (a+(x.size:Int)),m,.string (g++x)] _ rfl;have hSn:=And.intro (show _=some (Obj.cells #[k,n,.int .i64 (a+(x.size:Int)),m,.string (g++x)] 30 (0,0))from by have h:=a1.get 0 _ rfl;simpa using h) (a1.get 1 _ rfl);refine Cw hK (fun O=>?_) (by first|exact hSn|exact⟨(by have h:=s.out.Ao;simpa using h),s.out.Aq⟩);clear hK K
   try simp only[Act.put]
   refine Bb 4 ?_;refine Bb 5 ?_;refine wpAnyH_done Kr ?_ _;clear O;go_wp2_with fail;refine rT3 (.int .i64 (a+1)) () s.out.Cd Jj ?_;rw[HO.out];exact⟨rfl,a1.below⟩
 ·have HO:=Hq (HN.out v)
  have HP:=Hq (Q.out v);clear P Q HN H I v;go_enter Tryz.func127,Tryz.ntmps127;go_upto_region 1 with fail;have p:=Ol w #[k,n,a,m,g] 30 (Cn lsn prev b kind Ad next y ok os z on f root B C es (.slice A E.length c) (.slice D F.length d)) 49 #[(),(),(),(),""] 30;obtain⟨T,q⟩:=E0 p;have U:T.heap.size=w.heap.size+3:=by rw[q];simp
  rw[← q]at p ⊢;have V:=Aa p.out.Ao;have X:=Aa p.out.Aq;have Y:=Ap p.out.Aq;clear q;go_upto_region 2 with fail;have H1:=Hq (show Eg w.heap.size w [(#[k,n,a,m,g],30),((Cn (a+1) prev b kind Ad next y ok os z on f root B C es (.slice A E.length c) (.slice D F.length d)),49),(#[(),(),(),(),""],30)] (T.setCell ⟨w.heap.size+1,0,none⟩ (.int .i64 (a+1)))from by have h:=p.out.set 1 0 (.int .i64 (a+1)) _ rfl;simpa using h);obtain⟨W1,L⟩:=ex (T.setCell ⟨w.heap.size+1,0,none⟩ (.int .i64 (a+1)));rw[← L]at H1 ⊢;clear L V X Y p U;have M:=Hq H1.out.Aq
  go_upto_region 3 with(first
   |with_reducible refine lL M.out C5 ?_
   |(go_at_call 174;(with_reducible refine(HP.out _ H1.out.below).mono ?_);rintro e w2 ⟨rfl,N⟩))
  have G:=Hq (H1.out.step N);clear N H1 M HP;have j:=Hq (show w2.heap[w.heap.size]? =some (.cells #[k,n,a,m,g] 30 (0,0))from by have h:=G.out.Ao;simpa using h)
  go_wp2_with(first
   |with_reducible refine lL j.out Jj ?_
   |with_reducible refine lS #[k,n,a,m,g] G.out.Cd ?_)
  refine rT3 () (.int .i64 1) G.out.Cd Jj ?_;rw[HO.out];exact⟨rfl,(G.out.row 2 _ _ rfl).below⟩
end Go.Proofs.YtmfkhdhnbkambaaGreatDoor
namespace Lg
theorem Zt {d:Dk}{a:Int}{b:ByteArray}(h: -9223372036854775808≤d.left∧d.left≤9223372036854775807): -9223372036854775808≤(C6 d a b).1.left∧(C6 d a b).1.left≤9223372036854775807:=by
 unfold C6
 split
 ·exact h
 split
 ·exact h
 split
 ·exact h
 ·show _≤(if 0<d.left then d.left-1 else d.left)∧(if 0<d.left then d.left-1 else d.left)≤_
  split<;>omega
theorem dA {d:Dk}{a:Int}{b:ByteArray}:(C6 d a b).1.sectors.length=d.sectors.length:=by
 unfold C6
 split
 ·rfl
 split
 ·rfl
 split
 ·rfl
 ·simp
theorem jL {base:Int}{all:List ByteArray}{k:Nat}{d d2:Dk}(a:C6 d (base+(k:Int)) (all[k]?.getD ⟨#[]⟩)=(d2,0)):Cm base all (k+1) d=Cm base all k d2:=by
 conv=>lhs;unfold Cm
 rw[a,if_pos rfl]
theorem Zu {base:Int}{all:List ByteArray}{k:Nat}{d d2:Dk}{e:Int}(a:e≠0)(b:C6 d (base+(k:Int)) (all[k]?.getD ⟨#[]⟩)=(d2,e)):Cm base all (k+1) d=(d2,e):=by
 unfold Cm;rw[b,if_neg a]
theorem dB {d:Dk}{l:Lo}(h:l.safe=l.end_):Bi d l=(d,l,0):=by unfold Bi;rw[if_pos h]
theorem dC {d d2:Dk}{l:Lo}{e:Int}(h:¬ l.safe=l.end_)(a:e≠0)(b:Cm (l.from_+Fk l) (Gj l) (Gj l).length d=(d2,e)):Bi d l=(d2,l,e):=by
 unfold Bi;rw[if_neg h];simp only[b];rw[if_neg a]
theorem jM {d d2:Dk}{l:Lo}(h:¬ l.safe=l.end_)(a:Cm (l.from_+Fk l) (Gj l) (Gj l).length d=(d2,0)):Bi d l=(d2,J0 l,0):=by
 unfold Bi;rw[if_neg h];simp only[a];rw[if_pos trivial]
theorem oW (l:Lo):(Gj l).length≤l.tail.size/128+2:=by
 unfold Gj;have:=Jz l.tail
 split
 ·rw[List.length_append,List.length_singleton];omega
 ·omega
end Lg
namespace Go.Proofs.YtmfkhdhnbkambaaGreatDoor
open Go.RowKit
def Kq (x:Lg.Dk×Lg.Lo×Int)(A:Option Addr)(w:World)(e:Ending)(w':World):Prop:=
 ∃ A' c',e= .returned (.tuple #[D1 x.1 A' c',Nq x.2.1,x.2.2])∧Dd w' x.1 A' c'∧(A'=A∨De w.heap.size w' 9 A')∧Bw w w'
theorem dD (L:List ByteArray)(left:Int)(down:Bool)(A:Option Addr)(c:Nat)(fr n en:Int)(b:ByteArray)(o:Lg.Dk×Lg.Lo×Int)(p:o=(⟨L,left,down⟩,⟨fr,n,en,en,b⟩,0))(w:World)(h:Dd w ⟨L,left,down⟩ A c):
 Cq 129 #[.agg #[.slice A L.length c,left,down],.agg #[fr,n,en,en,b]] w (Kq o A w):=by
 have r:=Hq (fun w' (q:Bw w w')=>show Kq o A w (.returned (.tuple #[.agg #[.slice A L.length c,left,down],.agg #[fr,n,en,en,b],()])) w' from by
  subst p;exact⟨A,c,rfl,⟨h.secs.below q,h.small⟩,.inl rfl,q⟩)
 have d:(en==en)=true:=by simp
 clear p h;go_enter Tryz.func129,Tryz.ntmps129;go_upto_region 1 with fail;have i:=xT w #[.slice A L.length c,left,down] 28 #[fr,n,en,en,b] 30 #["s",(),false] 28 #[(),(),(),(),""] 30;have l:((((w.alloc (.cells #[.slice A L.length c,left,down] 28)).alloc (.cells #[fr,n,en,en,b] 30)).alloc (.cells #["s",(),false] 28)).alloc (.cells #[(),(),(),(),""] 30)).heap.size=w.heap.size+4:=by simp
 obtain⟨s,e⟩:=E0 i;rw[← e]at i l ⊢;clear e;have m:=Aa i.out.Aq;go_upto_region 2 with fail;clear m d;have j:=Hq i.out.drew;refine G7 (S:=(fun u=>u.heap[w.heap.size]? =some (.cells #[.slice A L.length c,left,down] 28 (0,0))∧u.heap[w.heap.size+1]? =some (.cells #[fr,n,en,en,b] 30 (0,0)))) (fun a=>?_) ⟨(j.out.Ao),(j.out.Aq)⟩;refine Bb 0 ?_;refine Bb 1 ?_;refine Dg 2 fun K f=>?_;refine Cc (by rfl) ?_;refine sW #[.slice A L.length c,left,down] j.out.Cd ?_;have k:=Hq (j.out.row 2 #[.slice A L.length c,left,down] _ rfl);have hSn:=And.intro (k.out.Ao) (k.out.Aq);refine Cw f (fun a=>?_);clear f K
 try simp only[Act.put]
 refine Dg 3 fun K f=>?_;refine Cc (by rfl) ?_;refine sW #[fr,n,en,en,b] k.out.g3 ?_;have g:=Hq (k.out.row 3 #[fr,n,en,en,b] _ rfl);clear hSn;have hSn:=And.intro (g.out.Ao) (g.out.Aq);refine Cw f (fun a=>?_);clear f K
 try simp only[Act.put]
 refine Bb 4 ?_;refine wpAnyH_done Kr ?_ _;clear a hSn;go_wp2_with fail;refine bodyPost_ret (v:=.tuple #[.agg #[.slice A L.length c,left,down],.agg #[fr,n,en,en,b],()]) (Ex rfl _ _ rfl rfl (Cf g.out.Cd Fy Kr Kr) (Cf g.out.g3 Jj Kr Kr) rfl) rfl ?_;exact r.out _ g.out.below
theorem oX (d:Lg.Dk)(cf: -9223372036854775808≤d.left∧d.left≤9223372036854775807)(A:Option Addr)(c:Nat)(fr n en G:Int)(a:ByteArray)(b2:¬ G=en)(eh:0≤en)(dr:en≤1000000000)(_hn0: -1000000000≤n)(_hn1:n≤1000000000)(ei: -1000000000≤fr)(ej:fr≤1000000000)(ht:a.size≤1000000)(ek:(a.size:Int)≤en)(cg:en%128≤(a.size:Int))(w:World)(h:Dd w d A c):
 Cq 129 #[.agg #[.slice A d.sectors.length c,d.left,d.down],.agg #[fr,n,en,G,a]] w (Kq (Lg.Bi d ⟨fr,n,en,G,a⟩) A w):=by
 have af:=Hq (fun d2 e (he:e≠0) hp=> @Lg.dC d d2 ⟨fr,n,en,G,a⟩ e b2 he hp);have ag:=Hq (fun d2 hp=> @Lg.jM d d2 ⟨fr,n,en,G,a⟩ b2 hp);have HO:=Hq (fun A' c' w' x (hx:Lg.Bi d ⟨fr,n,en,G,a⟩=x) (h1:Dd w' x.1 A' c') (h2:A'=A∨De w.heap.size w' 9 A') (h3:Bw w w')=>show Kq (Lg.Bi d ⟨fr,n,en,G,a⟩) A w (.returned (.tuple #[D1 x.1 A' c',Nq x.2.1,x.2.2])) w' from⟨A',c',by rw[hx],by rw[hx];exact h1,h2,h3⟩);have bn:=Lg.oW ⟨fr,n,en,G,a⟩;have cj:=Lg.Jz a;have ah:=Hq (fun W=>sH a ht W);obtain⟨C,hC⟩:=ex (Lg.Il a);obtain⟨all,ai⟩:=ex (Lg.Gj ⟨fr,n,en,G,a⟩);have L:=Hq (show all=if(en-(a.size:Int))/128+(C.length:Int)<n then C++[Lg.C9]else C from by rw[ai,hC];rfl);rw[← ai]at af ag bn;rw[← hC]at ah cj;have aj:Lg.Fk ⟨fr,n,en,G,a⟩=(en-(a.size:Int))/128:=rfl;rw[aj]at af ag;generalize Lg.Bi d ⟨fr,n,en,G,a⟩=o at af ag HO ⊢;generalize Kq o A w=Q at HO ⊢;have ak:Hid (∀ W,Cr 177 #[.string ⟨#[0]⟩,.int .i64 128] W (.string Lg.C9)):=Hq (fun W=>by
  have h1:=Tryz.strings_Repeat ⟨#[0]⟩ 128 W (by omega) (by show 1*128≤_;omega);have e:(⟨(Lib.repeatL (⟨#[0]⟩:ByteArray).data.toList 128).toArray⟩:ByteArray)=Lg.C9:=Lg.Mk 128;rw[e]at h1;exact h1)
 have bo:=Lg.Iz;have ck:∀ b∈all,b.size=128:=by
  rw[L.out,hC];intro b hb
  split at hb
  ·rcases List.mem_append.1 hb with h1|h1
   ·exact Lg.Nb a b h1
   ·rw[List.mem_singleton.1 h1];exact bo
  ·exact Lg.Nb a b hb
 have ds:=Hq ck;generalize Lg.C9=z at ak L bo;have HR:=Hq h;have cm:(G==en)=false:=by simpa using b2
 have dt:C.length≤10000:=by omega
 have du:all.length≤10000:=by simp only at bn;omega
 have dv:=Hq cf;obtain⟨F,hF⟩:=ex ((en-(a.size:Int))/128:Int);have eo:0≤F:=by omega
 have ep:F≤10000000:=by omega
 have dw:0≤en-(a.size:Int):=by omega
 have dx:IntKind.i64.wrap (en-(a.size:Int))=en-(a.size:Int):=IntWalk.i64_in _ (by omega);have dy:=Hq hF;rw[← hF]at af ag L;clear h b2 hC ai bn cj aj ck bo cf;go_enter Tryz.func129,Tryz.ntmps129;go_upto_region 1 with fail;have H0:=xT w #[.slice A d.sectors.length c,d.left,d.down] 28 #[fr,n,en,G,a] 30 #["s",(),false] 28 #[(),(),(),(),""] 30;have cn:((((w.alloc (.cells #[.slice A d.sectors.length c,d.left,d.down] 28)).alloc (.cells #[fr,n,en,G,a] 30)).alloc (.cells #["s",(),false] 28)).alloc (.cells #[(),(),(),(),""] 30)).heap.size=w.heap.size+4:=by simp
 obtain⟨W0,cp⟩:=E0 H0;rw[← cp]at H0 cn ⊢;clear cp;have al:=Aa H0.out.Aq;go_upto_region 4 with fail;rw[← dy.out];clear hF dw dx cm
 go_upto_region 5 with(go_at_call 178;(with_reducible refine(ah.out _).mono ?_);rintro e w1 ⟨v8,rfl,a8,b3⟩;obtain⟨A8,c8,rfl⟩:=E1 a8;have al:=Aa ((H0.out.step b3).get 1 _ rfl))
 have H1:=Hq (H0.out.step b3);have bp:=Hq (On a8 (show w.heap.size+4≤W0.heap.size by omega));have bq:w.heap.size+4≤w1.heap.size:=by have:=b3.size;omega
 clear a8 b3 ah H0 cn;have dz:IntKind.i64.wrap (F+(C.length:Int))=F+(C.length:Int):=IntWalk.i64_in _ (by omega);go_upto_if 35 with fail
 go_cut [8] (fun s8 wc=>∃ A8 c8,s8= .slice A8 all.length c8∧Dt Hn 1 9 (w.heap.size+4) wc (.slice A8 all.length c8) all∧Eg w.heap.size w [(#[.slice A d.sectors.length c,d.left,d.down],28),(#[fr,n,en,G,a],30),(#["s",(),false],28),(#[(),(),(),(),""],30)] wc)
 case first=>
  by_cases bd:F+(C.length:Int)<n
  ·have an:all=C++[z]:=by rw[L.out,if_pos bd]
   have P:=Hq an;clear an
   go_wp2_with(first
    |(go_at_call 177;(with_reducible refine(ak.out _).mono ?_);rintro e w2 ⟨rfl,b4⟩;have H2:=Hq (H1.out.step b4);have e0:=Hq (Bg bp.out b4);have U:=Hq b4;clear b4)
    |(at_builtin;refine Hz Kr (.tmp 36) (.tmp 38) 26 9 V9 Mj rfl (by omega) (by omega) rfl (w.heap.size+4) _ C.length (C.flatMap Hn) rfl (Bg e0.out (Ac _ _)) w2.heap.size (Hn z) 9 rfl (heap_alloc_new w2 _) rfl (by simp[Hn,Value.oneCell']) (by omega) (by have:=U.out.size;simp;omega) ?_;intro v7 w7 ho hg hb;obtain⟨A7,c7,rfl⟩:=E1 ho;have H7:=Hq ((H2.out.step (Ac w2 (.cells #[z] 9))).under (M:=w.heap.size+4) (Nat.le_refl _) hb);have ao:=Hq (Dt.push (enc:=Hn) (x:=z) ho);have b5:=Hq hg;clear ho hg hb))
   go_meet
   case rel=>
    refine⟨A7,c7,?_,?_,H7.out⟩
    ·rw[P.out,List.length_append];rfl
    ·have h7:=ao.out
     have e7:(C++[z]).length=C.length+1:=(by simp);rw[P.out,e7];exact h7
  ·have an:all=C:=by rw[L.out,if_neg bd]
   have P:=Hq an;clear an;go_wp2_with fail;go_meet
   case rel=>
    refine⟨A8,c8,?_,?_,H1.out⟩
    ·rw[P.out]
    ·rw[P.out];exact bp.out
 case rest=>
  obtain⟨A8,c8,rfl,a8,aq⟩:=hcut;obtain⟨wa,rfl⟩:=ex wc;have cq:=Hq a8;have br:=Hq aq;clear a8 aq bp H1 L ak bq dz dt;have cr:IntKind.i64.wrap ((all.length:Int)-1)=(all.length:Int)-1:=IntWalk.i64_in _ (by omega);go_wp2_with fail
  go_loopw [9] (fun i wr=>∃ (x:Int) (d2:Lg.Dk) (T:Option Addr) (c2:Nat),i= .int .i64 x∧-1≤x∧x<all.length∧Lg.Cm (fr+F) all all.length d=Lg.Cm (fr+F) all (x+1).toNat d2∧Eg w.heap.size w [(#[.slice T d2.sectors.length c2,d2.left,d2.down],28),(#[fr,n,en,G,a],30),(#["s",(),false],28),(#[(),(),(),(),""],30)] wr∧Dd wr d2 T c2∧(T=A∨De (w.heap.size+4) wr 9 T)∧(-9223372036854775808≤d2.left∧d2.left≤9223372036854775807)∧d2.sectors.length=d.sectors.length∧Dt Hn 1 9 (w.heap.size+4) wr (.slice A8 all.length c8) all) (fun i _=>(intOf i+1).toNat)
  case atStart=>exact⟨(all.length:Int)-1,d,A,c,rfl,by omega,by omega,by rw[show((all.length:Int)-1+1).toNat=all.length by omega],br.out,⟨HR.out.secs.below br.out.below,HR.out.small⟩,.inl rfl,dv.out,rfl,cq.out⟩
  case round=>
   obtain⟨x,d2,T,c2,rfl,e1,e2,bf,aq,ct,cu,bg,bh,bj⟩:=hrel;have a1:=Hq bf;have aa:=Hq aq;have ar:=Hq ct;have au:=Hq cu;have bs:=Hq bj;have bt:=Hq bh;have bk:=Hq bg;have bl:=Hq (show 0<d2.sectors.length→∀ O,T=some O→O.block<w.heap.size∨w.heap.size+4≤O.block from fun h0 O e=>by
    rcases au.out with h1|h1
    ·rw[h1]at e
     exact .inl (HR.out.secs.By (by rw[← bt.out];exact h0) O e)
    ·exact .inr (h1 O e).1)
   clear bf aq ct cu bj bh bg br cq
   by_cases h0:x= -1
   ·subst h0
    have av:=Hq (ag.out d2 (a1.out.trans rfl));clear e1 e2 cr;obtain⟨m,hm⟩:=Int.eq_ofNat_of_zero_le (show 0≤en%128 by omega);have e4:(m:Int)≤(a.size:Int):=(by omega);have e5:IntKind.i64.wrap ((a.size:Int)-(m:Int))=(a.size:Int)-(m:Int):=IntWalk.i64_in _ (by omega);have e6:(0:Int)≤(a.size:Int)-(m:Int):=(by omega);have e8:(a.size:Int)-(m:Int)≤(a.size:Int):=(by omega);have e9:((a.size:Int)-(m:Int)).toNat=a.size-m:=(by omega);have cv:=Hq (show Lg.J0 ⟨fr,n,en,G,a⟩=⟨fr,n,en,en,a.extract (a.size-m) a.size⟩from by
     unfold Lg.J0;simp only[hm,Int.toNat_natCast])
    have al:=Aa aa.out.Aq;have bu:=Ap aa.out.Aq;go_upto_region 15 with fail;have U:=Hq (show Eg w.heap.size w [(#[.slice T d2.sectors.length c2,d2.left,d2.down],28),(#[fr,n,en,en,a],30),(#["s",(),false],28),(#[(),(),(),(),""],30)] (wr.setCell ⟨w.heap.size+1,3,none⟩ (.int .i64 en))from by have h:=aa.out.set 1 3 (.int .i64 en) _ rfl;simpa using h);have aw:=Hq ((E2.refl w.heap.size (w.heap.size+4) wr).cell (w.heap.size+1) 3 (.int .i64 en) (by omega) (by omega));obtain⟨W2,cw⟩:=ex (wr.setCell ⟨w.heap.size+1,3,none⟩ (.int .i64 en));rw[← cw]at U aw ⊢;clear cw al bu;have al:=Aa U.out.Aq;have bu:=Ap U.out.Aq;go_upto_region 16 with fail;have V:=Hq (show Eg w.heap.size w [(#[.slice T d2.sectors.length c2,d2.left,d2.down],28),(#[fr,n,en,en,.string (a.extract (a.size-m) a.size)],30),(#["s",(),false],28),(#[(),(),(),(),""],30)] (W2.setCell ⟨w.heap.size+1,4,none⟩ (.string (a.extract (a.size-m) a.size)))from by have h:=U.out.set 1 4 (.string (a.extract (a.size-m) a.size)) _ rfl;simpa using h);have ax:=Hq (aw.out.cell (w.heap.size+1) 4 (.string (a.extract (a.size-m) a.size)) (by omega) (by omega));obtain⟨W3,cx⟩:=ex (W2.setCell ⟨w.heap.size+1,4,none⟩ (.string (a.extract (a.size-m) a.size)));rw[← cx]at V ax ⊢;clear cx al bu e4 e5 e6 e8 e9 hm U aw;obtain⟨ay,bm⟩:=ex (a.extract (a.size-m) a.size);rw[← bm]at V cv;clear bm cg;have HD:=Hq V.out.drew;refine G7 (S:=(fun u=>u.heap[w.heap.size]? =some (.cells #[.slice T d2.sectors.length c2,d2.left,d2.down] 28 (0,0))∧u.heap[w.heap.size+1]? =some (.cells #[fr,n,en,en,ay] 30 (0,0)))) (fun f=>?_) ⟨(HD.out.Ao),(HD.out.Aq)⟩;refine Bb 0 ?_;refine Bb 1 ?_;refine Dg 2 fun K B=>?_;refine Cc (by rfl) ?_;refine sW #[.slice T d2.sectors.length c2,d2.left,d2.down] HD.out.Cd ?_;have HE:=Hq (HD.out.row 2 #[.slice T d2.sectors.length c2,d2.left,d2.down] _ rfl);have hSn:=And.intro (HE.out.Ao) (HE.out.Aq);refine Cw B (fun f=>?_);clear B K
    try simp only[Act.put]
    refine Dg 3 fun K B=>?_;refine Cc (by rfl) ?_;refine sW #[fr,n,en,en,ay] HE.out.g3 ?_;have HG:=Hq (HE.out.row 3 #[fr,n,en,en,ay] _ rfl);clear hSn;have hSn:=And.intro (HG.out.Ao) (HG.out.Aq);refine Cw B (fun f=>?_);clear B K
    try simp only[Act.put]
    refine Bb 4 ?_;refine wpAnyH_done Kr ?_ _;clear f hSn;go_wp2_with fail;refine bodyPost_ret (v:=.tuple #[.agg #[.slice T d2.sectors.length c2,d2.left,d2.down],.agg #[fr,n,en,en,ay],()]) (Ex rfl _ _ rfl rfl (Cf HG.out.Cd Fy Kr Kr) (Cf HG.out.g3 Jj Kr Kr) rfl) rfl ?_;exact HO.out T c2 _ (d2,⟨fr,n,en,en,ay⟩,0) (av.out.trans (by rw[cv.out])) ⟨ar.out.secs.apart (((ax.out.drew).row _ _ (by omega) (by omega)).row _ _ (by omega) (by omega)) bl.out,ar.out.small⟩ (au.out.imp id (fun h=>(h.apart (lo:=w.heap.size) (hi:=w.heap.size+4) (((ax.out.drew).row _ _ (by omega) (by omega)).row _ _ (by omega) (by omega)) (Nat.le_refl _)).mono (by omega))) HG.out.below
   ·obtain⟨k,rfl⟩:=Int.eq_ofNat_of_zero_le (show 0≤x by omega)
    have b6:k<all.length:=(by omega);have er:(k:Int)<(all.length:Int):=(by omega);have et:(0:Int)≤(k:Int):=(by omega);obtain⟨g8,cap,hv,eu,b7,eg,I,-,-⟩:=uK bs.out b6
    injection hv with ea ev eb
    subst ea eb;rw[So,List.getElem?_map,List.getElem?_eq_getElem b6]at I;simp only[Option.map_some]at I;have cy:=ds.out all[k] (List.getElem_mem b6);have HY:=Hq (show all[k]?.getD ⟨#[]⟩=all[k] by rw[List.getElem?_eq_getElem b6];rfl);generalize all[k]=y at I cy HY;have r:=Hq I;rw[show((k:Int)+1).toNat=k+1 by omega]at a1;have b8:=Hq (fun W hW=>Sp d2 bk.out T c2 (fr+F+(k:Int)) y W hW);have a6:= @Lg.Zt d2 (fr+F+(k:Int)) y bk.out;have b9:= @Lg.dA d2 (fr+F+(k:Int)) y;rcases hx:Lg.C6 d2 (fr+F+(k:Int)) y with⟨d3,e3⟩;have bw:=Hq (fun(he:e3=0)=>Lg.jL (base:=fr+F) (all:=all) (k:=k) (d:=d2) (d2:=d3) (by rw[HY.out,hx,he]));have az:=Hq (fun(he:e3≠0)=>Lg.Zu (base:=fr+F) (all:=all) (k:=k) (d:=d2) (d2:=d3) he (by rw[HY.out,hx]));rw[hx]at b8 a6 b9;simp only at a6 b9;have bx:=Hq (b9.trans bt.out);have ec:=Hq a6;clear hx a6 b9 I cy h0 cr;have bq:IntKind.i64.wrap (fr+F)=fr+F:=IntWalk.i64_in _ (by omega);have ed:IntKind.i64.wrap (fr+F+(k:Int))=fr+F+(k:Int):=IntWalk.i64_in _ (by omega);go_upto_region 10 with fail
    go_cut [10,11] (fun p q wc=>∃ (g:Nat) (l:Option Addr) (c3:Nat),p= .pointer (some ⟨g,0,none⟩)∧q= .int .i64 e3∧Eg w.heap.size w [(#[.slice T d2.sectors.length c2,d2.left,d2.down],28),(#[fr,n,en,G,a],30),(#["s",(),false],28),(#[(),(),(),(),""],30)] wc∧w.heap.size+4≤g∧wc.heap[g]? =some (.cells #[.slice l d3.sectors.length c3,d3.left,d3.down] 28 (0,0))∧Dd wc d3 l c3∧(l=A∨De (w.heap.size+4) wc 9 l)∧Dt Hn 1 9 (w.heap.size+4) wc (.slice (some ⟨g8,0,none⟩) all.length c8) all)
    case first=>
     have s:=Hq aa.out.drew;have cz:=Hq (Bg bs.out (Below.refl _ wr).drew);have da:=Hq (ar.out.below (Below.refl _ wr).drew);have ew:=aa.out.lt (i:=3) (by simp);have ey:wr.heap.size≤wr.drew.heap.size:=Nat.le_refl _;refine G7 (S:=(fun u=>u.heap[w.heap.size]? =some (.cells #[.slice T d2.sectors.length c2,d2.left,d2.down] 28 (0,0))∧u.heap[w.heap.size+1]? =some (.cells #[fr,n,en,G,a] 30 (0,0))∧u.cell? ⟨g8,k,none⟩=some (.string y))) (fun f=>?_) (by first|exact hSn|exact⟨s.out.Ao,s.out.Aq,r.out⟩);refine Qe 0 (some 48) (v:=?_) rfl ?_ (Qe 1 (some 49) (v:=?_) rfl ?_ (Qe 2 (some 50) (v:=?_) rfl ?_ (Qe 3 (some 51) (v:=?_) rfl ?_ (Qe 4 (some 52) (v:=?_) rfl ?_ (Qe 5 (some 53) (v:=?_) rfl ?_ (Qe 6 (some 54) (v:=?_) rfl ?_ (Qe 7 (some 55) (v:=?_) rfl ?_ (Qe 8 (some 56) (v:=?_) rfl ?_ (Qe 9 (some 57) (v:=?_) rfl ?_ (Qe 10 (some 58) (v:=?_) rfl ?_ ?_))))))))))
     iterate 11 (rotate_left;focus(intro u N;obtain⟨D,E,ba⟩:=N;have D:=Aa D;have E:=Aa E;go_simp;(try with_reducible rfl)))
     try simp only[Act.put,pS]
     refine wpAnyH_ready (rs:=[11,15]) Kr (by simp) ?_;refine(AllReadyH.cons (o:={dst:=some 59,op:=_,type:=_,pos:=_,after:=_,guard:=_}) rfl (fun K B=>?_) (AllReadyH.cons (o:={dst:=some 10,op:=_,type:=_,pos:=_,after:=_,guard:=_}) rfl (fun K B=>?_) AllReadyH.nil))
     ·
      go_simp
      refine(b8.out _ da.out).mono ?_;rintro e t ⟨l,c3,rfl,R,X,H⟩;have Y:=Hq (s.out.step H);have bb:=Hq (Bg cz.out H);have b0:=(H.cell (p:=⟨g8,k,none⟩) (by first|exact b7|(simp;omega))).trans r.out;have hSn:=And.intro Y.out.Ao (And.intro Y.out.Aq b0);refine Cw B (fun f=>?_) (by first|exact hSn|exact⟨s.out.Ao,s.out.Aq,r.out⟩);clear B K;refine Qe 12 (some 47) (v:=?_) rfl ?_ (Qe 13 (some 60) (v:=?_) rfl ?_ (Qe 14 (some 61) (v:=?_) rfl ?_ ?_))
      iterate 3 (rotate_left;focus(intro u N;obtain⟨D,E,ba⟩:=N;have D:=Aa D;have E:=Aa E;go_simp;(try with_reducible rfl)))
      try simp only[Act.put,pS]
      refine Dg 15 fun K B=>?_
      go_simp
      have bz:=Hq (Y.out.step (Ac t (.cells #["s",(),false] 28)));have db:=Hq (Bg bb.out (Ac t (.cells #["s",(),false] 28)));have dc:=R.below (Ac t (.cells #["s",(),false] 28));have dd:=((Ac t (.cells #["s",(),false] 28)).cell (p:=⟨g8,k,none⟩) (Nat.lt_of_lt_of_le b7 H.size)).trans b0;have J:=heap_alloc_new t (.cells #["s",(),false] 28);clear hSn;have hSn:=And.intro bz.out.Ao (And.intro bz.out.Aq dd);refine Cw B (fun f=>?_) (by first|exact hSn|exact⟨s.out.Ao,s.out.Aq,r.out⟩);clear B K;refine Dg 16 fun K B=>?_;refine Cc (by rfl) ?_;refine sW #[.slice l d3.sectors.length c3,d3.left,d3.down] J ?_;have ae:w.heap.size+4≤t.heap.size:=(by have:=H.size;omega);have b1:=Hq ((E2.refl t.heap.size (t.heap.size+1) (t.alloc (.cells #["s",(),false] 28))).row t.heap.size #[.slice l d3.sectors.length c3,d3.left,d3.down] (Nat.le_refl _) (Nat.lt_succ_self _));have Z:=Hq (bz.out.under (M:=t.heap.size) (by show w.heap.size+4≤_;exact ae) (show Below t.heap.size (t.alloc (.cells #["s",(),false] 28)) ((t.alloc (.cells #["s",(),false] 28)).setRow t.heap.size #[.slice l d3.sectors.length c3,d3.left,d3.down])from⟨rfl,rfl,rfl,b1.out.size,fun j hj=>Ae (t.alloc (.cells #["s",(),false] 28)) t.heap.size #[.slice l d3.sectors.length c3,d3.left,d3.down] j (by omega)⟩));have c1:Dd ((t.alloc (.cells #["s",(),false] 28)).setRow t.heap.size #[.slice l d3.sectors.length c3,d3.left,d3.down]) d3 l c3:=⟨dc.secs.apart b1.out (fun h0 O e=>.inl (R.secs.By h0 O e)),dc.small⟩;have b5:((t.alloc (.cells #["s",(),false] 28)).setRow t.heap.size #[.slice l d3.sectors.length c3,d3.left,d3.down]).heap[t.heap.size]? =some (.cells #[.slice l d3.sectors.length c3,d3.left,d3.down] 28 (0,0)):=setRow_heap _ _ _ _ _ _ J;have ao:=Yg db.out J (by decide) #[.slice l d3.sectors.length c3,d3.left,d3.down];have c6:=(Pk (cs:=#[.slice l d3.sectors.length c3,d3.left,d3.down]) dd J (fD db.out J (by decide)));clear hSn;have hSn:=And.intro Z.out.Ao (And.intro Z.out.Aq c6);refine Cw B (fun f=>?_) (by first|exact hSn|exact⟨s.out.Ao,s.out.Aq,r.out⟩);clear B K
      try simp only[Act.put]
      refine Bb 17 ?_ (hy:=by intro u N;obtain⟨D,E,ba⟩:=N;have D:=Aa D;have E:=Aa E;go_simp;(try with_reducible rfl));refine wpAnyH_done Kr ?_ _;clear f hSn;go_wp2_with fail;go_meet
      case rel=>exact⟨_,l,c3,rfl,rfl,Z.out,ae,b5,c1,(X.elim (fun h1=>by rw[h1];exact au.out.imp id (fun h2=>(((h2.below (Below.refl _ wr).drew).below H).below (Ac t (.cells #["s",(),false] 28))).row _ _)) (fun h1=>.inr (((h1.below (Ac t (.cells #["s",(),false] 28))).row _ _).mono (by first|(simp;omega)|omega)))),ao⟩
     ·
      go_simp
      have ca:=Hq (s.out.step (Ac wr.drew (.cells #["s",(),false] 28)));have ee:=Hq (Bg cz.out (Ac wr.drew (.cells #["s",(),false] 28)));have ef:=Hq (da.out.below (Ac wr.drew (.cells #["s",(),false] 28)));have de:=Hq (((Ac wr.drew (.cells #["s",(),false] 28)).cell (p:=⟨g8,k,none⟩) b7).trans r.out);have hSn:=And.intro ca.out.Ao (And.intro ca.out.Aq de.out);refine Cw B (fun f=>?_) (by first|exact hSn|exact⟨s.out.Ao,s.out.Aq,r.out⟩);clear B K;refine Dg 11 fun K B=>?_
      go_simp
      refine(b8.out _ ef.out).mono ?_;rintro e t ⟨l,c3,rfl,R,X,H⟩;have Y:=Hq (ca.out.step H);have bb:=Hq (Bg ee.out H);have b0:=(H.cell (p:=⟨g8,k,none⟩) (by first|exact b7|(simp;omega))).trans de.out;have hSn:=And.intro Y.out.Ao (And.intro Y.out.Aq b0);have J:=Bv H;refine Cw B (fun f=>?_) (by first|exact hSn|exact⟨s.out.Ao,s.out.Aq,r.out⟩);clear B K;refine Qe 12 (some 47) (v:=?_) rfl ?_ (Qe 13 (some 60) (v:=?_) rfl ?_ (Qe 14 (some 61) (v:=?_) rfl ?_ ?_))
      iterate 3 (rotate_left;focus(intro u N;obtain⟨D,E,ba⟩:=N;have D:=Aa D;have E:=Aa E;go_simp;(try with_reducible rfl)))
      try simp only[Act.put,pS]
      refine Dg 16 fun K B=>?_;refine Cc (by rfl) ?_;refine sW #[.slice l d3.sectors.length c3,d3.left,d3.down] J ?_;have ae:w.heap.size+4≤wr.drew.heap.size:=(by omega);have b1:=Hq ((E2.refl wr.drew.heap.size (wr.drew.heap.size+1) t).row wr.drew.heap.size #[.slice l d3.sectors.length c3,d3.left,d3.down] (Nat.le_refl _) (Nat.lt_succ_self _));have Z:=Hq (Y.out.under (M:=wr.drew.heap.size) (by show w.heap.size+4≤_;exact ae) (show Below wr.drew.heap.size t (t.setRow wr.drew.heap.size #[.slice l d3.sectors.length c3,d3.left,d3.down])from⟨rfl,rfl,rfl,b1.out.size,fun j hj=>Ae t wr.drew.heap.size #[.slice l d3.sectors.length c3,d3.left,d3.down] j (by omega)⟩));have c1:Dd (t.setRow wr.drew.heap.size #[.slice l d3.sectors.length c3,d3.left,d3.down]) d3 l c3:=⟨R.secs.apart b1.out (fun h0 O e=>X.elim (fun h1=>by rw[h1]at e;have:=ar.out.secs.By (by rw[bt.out,← bx.out];exact h0) O e;left;exact this) (fun h1=>by have:=h1 O e;right;have:=this.1;simp at this ⊢;omega)),R.small⟩;have b5:(t.setRow wr.drew.heap.size #[.slice l d3.sectors.length c3,d3.left,d3.down]).heap[wr.drew.heap.size]? =some (.cells #[.slice l d3.sectors.length c3,d3.left,d3.down] 28 (0,0)):=setRow_heap _ _ _ _ _ _ J;have ao:=Yg bb.out J (by decide) #[.slice l d3.sectors.length c3,d3.left,d3.down];have c6:=(Pk (cs:=#[.slice l d3.sectors.length c3,d3.left,d3.down]) b0 J (fD bb.out J (by decide)));clear hSn;have hSn:=And.intro Z.out.Ao (And.intro Z.out.Aq c6);refine Cw B (fun f=>?_) (by first|exact hSn|exact⟨s.out.Ao,s.out.Aq,r.out⟩);clear B K
      try simp only[Act.put]
      refine Bb 17 ?_ (hy:=by intro u N;obtain⟨D,E,ba⟩:=N;have D:=Aa D;have E:=Aa E;go_simp;(try with_reducible rfl));refine wpAnyH_done Kr ?_ _;clear f hSn;go_wp2_with fail;go_meet
      case rel=>exact⟨_,l,c3,rfl,rfl,Z.out,ae,b5,c1,(X.elim (fun h1=>by rw[h1];exact au.out.imp id (fun h2=>(((h2.below (Below.refl _ wr).drew).below (Ac wr.drew (.cells #["s",(),false] 28))).below H).row _ _)) (fun h1=>.inr ((h1.row _ _).mono (by first|(simp;omega)|omega)))),ao⟩
    case rest=>
     obtain⟨g,l,c3,rfl,rfl,df,ae,dh,R,X,di⟩:=hcut;obtain⟨wb,rfl⟩:=ex wc;have V:=Hq df;have dj:=Hq dh;have cb:=Hq R;have dk:=Hq di;have dm:=Hq X;have dn:=Hq (show 0<d3.sectors.length→∀ O,l=some O→O.block<w.heap.size∨w.heap.size+4≤O.block from fun h0 O e=>dm.out.elim (fun h1=>by rw[h1]at e;exact .inl (HR.out.secs.By (by rw[← bx.out];exact h0) O e)) (fun h1=>.inr (h1 O e).1));clear df dh R di X aa bs ar au bl b8 r bq ed
     go_upto_region 12 with(first
      |with_reducible refine lL dj.out Fy ?_
      |with_reducible refine lS #[.slice l d3.sectors.length c3,d3.left,d3.down] V.out.Ao ?_)
     have cc:=Hq (show Eg w.heap.size w [(#[.slice l d3.sectors.length c3,d3.left,d3.down],28),(#[fr,n,en,G,a],30),(#["s",(),false],28),(#[(),(),(),(),""],30)] (wb.setRow w.heap.size #[.slice l d3.sectors.length c3,d3.left,d3.down])from by have h:=V.out.row 0 #[.slice l d3.sectors.length c3,d3.left,d3.down] _ rfl;simpa using h);have a7:=Hq ((E2.refl w.heap.size (w.heap.size+4) wb).row w.heap.size #[.slice l d3.sectors.length c3,d3.left,d3.down] (Nat.le_refl _) (by omega));have dp:=Hq (nI dk.out (Nat.le_refl _) a7.out);have bc:=Hq (show Dd (wb.setRow w.heap.size #[.slice l d3.sectors.length c3,d3.left,d3.down]) d3 l c3 from⟨cb.out.secs.apart a7.out dn.out,cb.out.small⟩);have cd:=Hq (dm.out.imp id (fun h=>h.row w.heap.size #[.slice l d3.sectors.length c3,d3.left,d3.down]));obtain⟨W4,dq⟩:=ex (wb.setRow w.heap.size #[.slice l d3.sectors.length c3,d3.left,d3.down]);rw[← dq]at cc a7 dp bc cd ⊢;clear dq V dj cb dk a7
     by_cases he:e3=0
     ·have HG:=Hq (a1.out.trans (bw.out he))
      subst he;clear bw az;have ez:IntKind.i64.wrap ((k:Int)-1)=(k:Int)-1:=IntWalk.i64_in _ (by omega);go_wp2_with fail;go_roundw
      case rel=>exact⟨(k:Int)-1,d3,l,c3,rfl,by omega,by omega,by rw[show((k:Int)-1+1).toNat=k by omega];exact HG.out,cc.out,bc.out,cd.out,ec.out,bx.out,dp.out⟩
      case measure=>first|(simp[intOf];done)|(simp[intOf];omega)
     ·have av:=Hq (af.out d3 e3 he (a1.out.trans (az.out he)))
      have dr:(e3==0)=false:=(by simpa using he);have fa:(e3 != 0)=true:=(by simpa using he);clear bw az he;go_upto_region 13 with fail;have HD:=Hq cc.out.drew;refine G7 (S:=(fun u=>u.heap[w.heap.size]? =some (.cells #[.slice l d3.sectors.length c3,d3.left,d3.down] 28 (0,0))∧u.heap[w.heap.size+1]? =some (.cells #[fr,n,en,G,a] 30 (0,0)))) (fun f=>?_) ⟨(HD.out.Ao),(HD.out.Aq)⟩;refine Bb 0 ?_;refine Bb 1 ?_;refine Bb 2 ?_;refine Dg 3 fun K B=>?_;refine Cc (by rfl) ?_;refine sW #[.slice l d3.sectors.length c3,d3.left,d3.down] HD.out.Cd ?_;have HE:=Hq (HD.out.row 2 #[.slice l d3.sectors.length c3,d3.left,d3.down] _ rfl);have hSn:=And.intro (HE.out.Ao) (HE.out.Aq);refine Cw B (fun f=>?_);clear B K
      try simp only[Act.put]
      refine Dg 4 fun K B=>?_;refine Cc (by rfl) ?_;refine sW #[fr,n,en,G,a] HE.out.g3 ?_;have HG:=Hq (HE.out.row 3 #[fr,n,en,G,a] _ rfl);clear hSn;have hSn:=And.intro (HG.out.Ao) (HG.out.Aq);refine Cw B (fun f=>?_);clear B K
      try simp only[Act.put]
      refine Bb 5 ?_;refine wpAnyH_done Kr ?_ _;clear f hSn;go_wp2_with fail;refine bodyPost_ret (v:=.tuple #[.agg #[.slice l d3.sectors.length c3,d3.left,d3.down],.agg #[fr,n,en,G,a],e3]) (Ex rfl _ _ rfl rfl (Cf HG.out.Cd Fy Kr Kr) (Cf HG.out.g3 Jj Kr Kr) rfl) rfl ?_;exact HO.out l c3 _ (d3,⟨fr,n,en,G,a⟩,e3) av.out ⟨bc.out.secs.apart (((E2.refl _ _ _).drew.row _ _ (by omega) (by omega)).row _ _ (by omega) (by omega)) dn.out,bc.out.small⟩ (cd.out.imp id (fun h=>(h.apart (lo:=w.heap.size) (hi:=w.heap.size+4) (((E2.refl _ _ _).drew.row _ _ (by omega) (by omega)).row _ _ (by omega) (by omega)) (Nat.le_refl _)).mono (by omega))) HG.out.below
theorem jN (d:Lg.Dk)(e: -9223372036854775808≤d.left∧d.left≤9223372036854775807)(A:Option Addr)(c:Nat)(l:Lg.Lo)(f:0≤l.end_)(g:l.end_≤1000000000)(i: -1000000000≤l.n)(j:l.n≤1000000000)(k: -1000000000≤l.from_)(m:l.from_≤1000000000)(t:l.tail.size≤1000000)(o:(l.tail.size:Int)≤l.end_)(a:l.end_%128≤(l.tail.size:Int))(w:World)(h:Dd w d A c):
 Cq 129 #[D1 d A c,Nq l] w (Kq (Lg.Bi d l) A w):=by
 obtain⟨q,n,r,p,s⟩:=l
 by_cases b:p=r
 ·subst b
  exact dD d.sectors d.left d.down A c q n p s _ (Lg.dB rfl) w h
 ·exact oX d e A c q n r p s b f g i j k m t o a w h
end Go.Proofs.YtmfkhdhnbkambaaGreatDoor
