import Derived.Test.YtmldoihahndcgaaGreatDoorHs00
import Derived.Test.YtmldoihahndcgaaGreatDoorHs03
import Derived.Test.YtmldoihahndcgaaGreatDoorHs01
import Derived.BigRegion
import Derived.Test.YtmldoihahndcgaaGreatDoorHs04
import Derived.Deep.RegionWith
set_option maxRecDepth 100000
set_option maxHeartbeats 16000000
set_option linter.unusedSimpArgs false
namespace Rc
theorem Rw (s:ByteArray):(t s).length=2+s.size:=by
 unfold t;rw[List.length_append,A6];simp
theorem Mb {o:Op}(h:Ij o):(Mn o).length≤1031:=by
 obtain⟨_,_,_,a,b⟩:=h;unfold Mn;simp only[List.length_append,A6,Rw];omega
theorem Cc {α:Type}(f:α→List UInt8)(k:Nat)(a:∀ x,(f x).length=k):∀ l:List α,(l.flatMap f).length=l.length*k:=by
 intro l
 induction l with
 |nil=>simp
 |cons x l ih=>rw[List.flatMap_cons,List.length_append,a,ih,List.length_cons,Nat.add_mul];omega
theorem mJ (x:A9):(Nx x).length=19:=by
 unfold Nx;simp only[List.length_append,A6]
theorem bQ (x:Bp):(G8 x).length=9:=by
 unfold G8;simp only[List.length_append,A6]
theorem Ud (r:Rec):(Ga r).length=19:=by
 unfold Ga;simp only[List.length_append,A6]
theorem bR {r:Rec}(h:Rl r):(Rm r).length≤37010:=by
 obtain⟨a,b,_⟩:=h;unfold Rm;simp only[List.length_append,A6,Cc Nx 19 mJ,Cc G8 9 bQ];omega
theorem Mc {r:Rec}(h:Bs r):19≤(Dj r).length∧(Dj r).length≤40000:=by
 unfold Dj;rw[List.length_append,Ud];refine⟨by omega,?_⟩
 cases h with
 |small kind a prev b hk d f g=>
  have k:F4 (bare kind a prev b)=[]:=by
   unfold F4 bare;simp only;rw[if_neg (by omega),if_neg (by omega),if_neg (by omega),if_neg (by omega),if_neg (by omega)]
  rw[k];simp
 |change a prev b Ac op i root e d f g l c m=>
  rw[Ny rfl];have p:=Mb c;have s:(Mt ⟨a,prev,b,2,Ac,0,0,op,i,root,e,[],[]⟩).length≤200:=by
   unfold Mt;rcases m with⟨j,_⟩|⟨j,t,u,q,o⟩
   ·simp only at j;subst j;simp
   ·simp only at j o
    rw[if_neg (show ¬ i=1 by omega)];simp only[List.length_append,A6,Rw];omega
  simp only[List.length_append,A6];omega
 |clr a prev b Ac op next d f g l c m=>
  rw[Ql rfl];have p:=Mb c;simp only[List.length_append,A6];omega
 |nest a prev b next d f g m=>
  rw[Vu rfl];simp only[A6];omega
 |image a prev b Ac op d f g l c=>
  rw[Qm rfl];have p:=Mb c;simp only[List.length_append,A6];omega
 |check a prev b n ts ds d f g l c=>
  rw[eG rfl];have:=bR c;omega
end Rc
namespace Lg
open Rc
def D8 (r:Rec):List UInt8:=Oct.Bi (Dj r).length 4++(Oct.Bi (Oct.Gm (Dj r)) 4++Dj r)
theorem Lk (r:Rec):(D8 r).length=8+(Dj r).length:=by
 unfold D8;simp only[List.length_append,Oct.A5];omega
def Vy (s:List UInt8)(a:Nat):List UInt8:=(s.drop (a+8)).take (Oct.Dl s a 4)
def Is (s:List UInt8)(a:Nat):Prop:=
 a+8+Oct.Dl s a 4≤s.length∧Oct.Dl s (a+4) 4=Oct.Gm (Vy s a)∧Bs (qY true (Vy s a))∧Dj (qY true (Vy s a))=Vy s a
def Row (a:Nat):List Rec→Prop
 |[]=>True
 |r::l=>Bs r∧r.lsn=(a:Int)+1∧Row (a+(D8 r).length) l
def bytes (l:List Rec):List UInt8:=l.flatMap D8
theorem Rx (r:Rec)(l:List Rec):bytes (r::l)=D8 r++bytes l:=rfl
theorem Kt (l m:List Rec):bytes (l++m)=bytes l++bytes m:=List.flatMap_append
theorem bS {a:Nat}{l m:List Rec}:Row a (l++m)↔Row a l∧Row (a+(bytes l).length) m:=by
 induction l generalizing a with
 |nil=>simp[Row,bytes]
 |cons r l ih=>
  show(Bs r∧r.lsn=(a:Int)+1∧Row (a+(D8 r).length) (l++m))↔(Bs r∧r.lsn=(a:Int)+1∧Row (a+(D8 r).length) l)∧_
  rw[ih,Rx,List.length_append,Nat.add_assoc]
  constructor
  ·rintro⟨b,c,d,e⟩;exact⟨⟨b,c,d⟩,e⟩
  ·rintro⟨⟨b,c,d⟩,e⟩;exact⟨b,c,d,e⟩
def sS (s:List UInt8)(a k:Nat):Prop:=∀ i,a≤i→i<a+k→i<s.length→s[i]? =some 0
structure gW (s:List UInt8) (l:List Rec):Prop where
 row:Row 0 l
 pre:s.take (bytes l).length=bytes l
 room:(bytes l).length≤s.length
 zero:sS s (bytes l).length 128
def mix (s n:List UInt8)(q:Nat):List UInt8:=s.take q++n.drop q
theorem Vz {s n:List UInt8}{q:Nat}(h:s.length=n.length)(i:Nat):(mix s n q)[i]? =if i<q then s[i]? else n[i]? :=by
 unfold mix
 by_cases c:q≤s.length
 ·have b:(s.take q).length=q:=by rw[List.length_take];omega
  by_cases a:i<q
  ·rw[if_pos a,List.getElem?_append_left (by omega),List.getElem?_take,if_pos a]
  ·rw[if_neg a,List.getElem?_append_right (by omega),b,List.getElem?_drop]
   congr 1;omega
 ·rw[List.take_of_length_le (by omega),List.drop_of_length_le (by omega),List.append_nil]
  split
  ·rfl
  ·rw[List.getElem?_eq_none (by omega),List.getElem?_eq_none (by omega)]
theorem rM {s n:List UInt8}{q:Nat}(h:s.length=n.length)(a:∀ i,i<q→s[i]? =n[i]?):mix s n q=n:=by
 refine List.ext_getElem? fun i=>?_;rw[Vz h]
 split
 ·rename_i b;exact a i b
 ·rfl
def flat (L:List ByteArray):List UInt8:=L.flatMap (·.data.toList)
def Whole (L:List ByteArray):Prop:=∀ b∈L,b.size=128
theorem mK:flat []=[]:=rfl
theorem Fk (b:ByteArray)(L:List ByteArray):flat (b::L)=b.data.toList++flat L:=rfl
theorem P2 (L M:List ByteArray):flat (L++M)=flat L++flat M:=List.flatMap_append
theorem Whole.tail {b:ByteArray}{L:List ByteArray}(h:Whole (b::L)):b.data.toList.length=128∧Whole L:=
 ⟨by have:=h b (List.mem_cons_self ..);simpa using this,fun x a=>h x (List.mem_cons_of_mem _ a)⟩
theorem Whole.set {L:List ByteArray}(h:Whole L)(k:Nat){b:ByteArray}(a:b.size=128):Whole (L.set k b):=fun x c=>by
 rcases List.mem_or_eq_of_mem_set c with h1|h1
 ·exact h x h1
 ·rw[h1];exact a
theorem Whole.take {L:List ByteArray}(h:Whole L)(k:Nat):Whole (L.take k):=fun x a=>h x (List.mem_of_mem_take a)
theorem Whole.drop {L:List ByteArray}(h:Whole L)(k:Nat):Whole (L.drop k):=fun x a=>h x (List.mem_of_mem_drop a)
theorem Cc {L:List ByteArray}(h:Whole L):(flat L).length=L.length*128:=by
 induction L with
 |nil=>rfl
 |cons b L ih=>
  obtain⟨a,c⟩:=h.tail;rw[Fk,List.length_append,a,ih c,List.length_cons];omega
theorem Ry {L:List ByteArray}(h:Whole L){b:ByteArray}(f:b.size=128):∀ (k:Nat),k<L.length→∀ i,(flat (L.set k b))[i]? =if k*128≤i∧i<k*128+128 then b.data.toList[i-k*128]? else(flat L)[i]? :=by
 have a:b.data.toList.length=128:=by simpa using f
 induction L with
 |nil=>intro k hk;simp at hk
 |cons c L ih=>
  obtain⟨d,g⟩:=h.tail;intro k hk i
  cases k with
  |zero=>
   rw[List.set_cons_zero,Fk,Fk]
   by_cases j:i<128
   ·rw[if_pos (by omega),List.getElem?_append_left (by omega),Nat.zero_mul,Nat.sub_zero]
   ·rw[if_neg (by omega),List.getElem?_append_right (by omega),List.getElem?_append_right (by omega),a,d]
  |succ k=>
   rw[List.set_cons_succ,Fk,Fk]
   by_cases j:i<128
   ·rw[if_neg (by omega),List.getElem?_append_left (by omega),List.getElem?_append_left (by omega)]
   ·rw[List.getElem?_append_right (by omega),d,ih g k (by simpa using hk) (i-128)]
    by_cases e:(k+1)*128≤i∧i<(k+1)*128+128
    ·rw[if_pos e,if_pos (by omega),show i-128-k*128=i-(k+1)*128 by omega]
    ·rw[if_neg e,if_neg (by omega),List.getElem?_append_right (by omega),d]
theorem mL {L:List ByteArray}{s n:List UInt8}{k:Nat}{b:ByteArray}(c:Whole L)(d:b.size=128)(hk:k<L.length)(hlen:s.length=n.length)(h:flat L=mix s n ((k+1)*128))
 (e:b.data.toList=(n.drop (k*128)).take 128):flat (L.set k b)=mix s n (k*128):=by
 refine List.ext_getElem? fun i=>?_;rw[Ry c d k hk,h,Vz hlen,Vz hlen]
 by_cases a:i<k*128
 ·rw[if_neg (by omega),if_pos (by omega),if_pos a]
 ·rw[if_neg a]
  by_cases f:i<k*128+128
  ·rw[if_pos (by omega),e,List.getElem?_take,if_pos (by omega),List.getElem?_drop];congr 1;omega
  ·rw[if_neg (by omega),if_neg (by omega)]
theorem gX {L:List ByteArray}(h:Whole L)(k:Nat):flat (L.drop k)=(flat L).drop (k*128):=by
 induction k generalizing L with
 |zero=>simp
 |succ k ih=>
  cases L with
  |nil=>simp[flat]
  |cons b L=>
   obtain⟨a,c⟩:=h.tail;rw[List.drop_succ_cons,ih c,Fk,show(k+1)*128=128+k*128 by omega,← List.drop_drop,List.drop_left' a]
theorem gY {L:List ByteArray}(h:Whole L)(k:Nat):flat (L.take k)=(flat L).take (k*128):=by
 induction k generalizing L with
 |zero=>simp[flat]
 |succ k ih=>
  cases L with
  |nil=>simp[flat]
  |cons b L=>
   obtain⟨a,c⟩:=h.tail;rw[List.take_succ_cons,Fk,ih c,Fk,show(k+1)*128=128+k*128 by omega,List.take_append,a,Nat.add_sub_cancel_left,List.take_of_length_le (l:=b.data.toList) (by omega)]
structure Dk where
 sectors:List ByteArray
 left:Int
 down:Bool
structure Lo where
 from_:Int
 n:Int
 end_:Int
 safe:Int
 tail:ByteArray
instance:DecidableEq Lo:=fun a b=>
 if h:a.from_=b.from_∧a.n=b.n∧a.end_=b.end_∧a.safe=b.safe∧a.tail=b.tail then
  .isTrue (by obtain⟨a1,a2,a3,a4,a5⟩:=a;obtain⟨b1,b2,b3,b4,b5⟩:=b;simp only at h;obtain⟨rfl,rfl,rfl,rfl,rfl⟩:=h;rfl)
 else .isFalse (fun e=>h (by subst e;exact⟨rfl,rfl,rfl,rfl,rfl⟩))
def Cf:ByteArray:=⟨(List.replicate 128 0).toArray⟩
theorem Ku:Cf.size=128:=by unfold Cf;show(List.replicate 128 (0:UInt8)).toArray.size=_;simp
def K6 (n:Nat):Dk:=⟨List.replicate n Cf,-1,false⟩
def F6 (d:Dk)(at_:Int):Prop:=0≤at_∧at_<(d.sectors.length:Int)
instance (d:Dk) (a:Int):Decidable (F6 d a):=by unfold F6;exact inferInstance
def Ic (d:Dk)(at_:Int):ByteArray:=d.sectors[at_.toNat]?.getD ⟨#[]⟩
def K5 (d:Dk)(at_:Int):ByteArray×Int:=if d.down then(⟨#[]⟩,20)else if F6 d at_ then(Ic d at_,0)else(⟨#[]⟩,1)
def Bz (d:Dk)(at_:Int)(b:ByteArray):Dk×Int:=
 if d.down then(d,20)else if ¬ (F6 d at_∧b.size=128)then(d,1)else if d.left=0 then({d with down:=true},20)
 else({d with sectors:=d.sectors.set at_.toNat b,left:=if 0<d.left then d.left-1 else d.left},0)
def E2 (l:List UInt8):ByteArray:=⟨(l++List.replicate (128-l.length) 0).toArray⟩
theorem P3 {l:List UInt8}(h:l.length≤128):(E2 l).size=128:=by
 unfold E2
 show(l++List.replicate (128-l.length) (0:UInt8)).toArray.size=_
 simp;omega
def Nz (l:List UInt8):List ByteArray:=if _h:l=[]then[]else E2 (l.take 128)::Nz (l.drop 128)
termination_by l.length
decreasing_by
 cases l with
 |nil=>contradiction
 |cons a l=>simp;omega
theorem Hw:Nz []=[]:=by rw[Nz];simp
theorem J2 {l:List UInt8}(h:l≠[]):Nz l=E2 (l.take 128)::Nz (l.drop 128):=by
 conv=>lhs;rw[Nz]
 rw[dif_neg h]
def Hb (s:ByteArray):List ByteArray:=Nz s.data.toList
theorem gZ (n:Nat):∀ l:List UInt8,l.length≤n→∀ b∈Nz l,b.size=128:=by
 induction n with
 |zero=>
  intro l d b c;rw[List.eq_nil_of_length_eq_zero (l:=l) (by omega),Hw]at c
  cases c
 |succ n e=>
  intro l d b c
  by_cases h:l=[]
  ·rw[h,Hw]at c;cases c
  ·rw[J2 h]at c
   rcases List.mem_cons.1 c with h1|h1
   ·rw[h1];exact P3 (by rw[List.length_take];omega)
   ·have f:0<l.length:=by cases l with
     |nil=>contradiction
     |cons a l=>simp
    exact e _ (by rw[List.length_drop];omega) b h1
theorem P4 (n:Nat):∀ l:List UInt8,l.length≤n→(Nz l).length=(l.length+127)/128:=by
 induction n with
 |zero=>
  intro l b;rw[List.eq_nil_of_length_eq_zero (l:=l) (by omega),Hw];rfl
 |succ n ih=>
  intro l b
  by_cases h:l=[]
  ·rw[h,Hw];rfl
  ·have c:0<l.length:=by cases l with
    |nil=>contradiction
    |cons a l=>simp
   rw[J2 h,List.length_cons,ih _ (by rw[List.length_drop];omega),List.length_drop];omega
theorem Hz (s:ByteArray):(Hb s).length=(s.size+127)/128:=by
 unfold Hb;rw[P4 _ _ (Nat.le_refl _)];simp
theorem Md (s:ByteArray):∀ b∈Hb s,b.size=128:=gZ _ _ (Nat.le_refl _)
def Cd (base:Int)(all:List ByteArray):Nat→Dk→Dk×Int
 |0,d=>(d,0)
 |i+1,d=>if(Bz d (base+(i:Int)) (all[i]?.getD ⟨#[]⟩)).2=0 then Cd base all i (Bz d (base+(i:Int)) (all[i]?.getD ⟨#[]⟩)).1 else Bz d (base+(i:Int)) (all[i]?.getD ⟨#[]⟩)
def Fe (l:Lo):Int:=(l.end_-(l.tail.size:Int))/128
def F7 (l:Lo):List ByteArray:=if Fe l+(Hb l.tail).length<l.n then Hb l.tail++[Cf]else Hb l.tail
def Il (l:Lo):Lo:={l with safe:=l.end_,tail:=l.tail.extract (l.tail.size-(l.end_%128).toNat) l.tail.size}
def Az (d:Dk)(l:Lo):Dk×Lo×Int:=
 if l.safe=l.end_ then(d,l,0)else
 let x:=Cd (l.from_+Fe l) (F7 l) (F7 l).length d
 if x.2=0 then(x.1,Il l,0)else(x.1,l,x.2)
open Classical in
noncomputable def Aw (l:Lo) (r:Rc.Rec):Lo×Int×Int:=
 let r':Rc.Rec:={r with lsn:=l.end_+1}
 if ¬ Rc.Bs r' then(l,0,1)else
 if l.n*128-((D8 r').length:Int)<l.end_ then(l,0,18)else
 ({l with end_:=l.end_+((D8 r').length:Int),tail:=l.tail++⟨(D8 r').toArray⟩},l.end_+1,0)
end Lg
namespace Go.Proofs.YtmldoihahndcgaaGreatDoor
open Go.RowKit
def I1 (b:ByteArray):List Value:=[.string b]
theorem N5 (b:ByteArray):(I1 b).length=1:=rfl
theorem J3 (l:List ByteArray):l.flatMap I1=l.map Value.string:=by
 induction l with
 |nil=>rfl
 |cons b l ih=>rw[List.flatMap_cons,ih];rfl
abbrev Cv (d:Lg.Dk)(A:Option Addr)(c:Nat):Value:=.agg #[.slice A d.sectors.length c,d.left,d.down]
structure Ca (w:World) (d:Lg.Dk) (A:Option Addr) (c:Nat):Prop where
 secs:Reads w A c d.sectors.length (d.sectors.flatMap I1)
 small:d.sectors.length≤1000000
theorem Ca.below {w w':World}{d:Lg.Dk}{A:Option Addr}{c:Nat}(h:Ca w d A c)(a:Bw w w'):Ca w' d A c:=⟨h.secs.below a,h.small⟩
theorem Qo (d:Lg.Dk)(A:Option Addr)(c:Nat)(a:Int)(w:World):
 Cr 305 #[Cv d A c,a] w (.bool (decide (Lg.F6 d a))):=by
 obtain⟨L,left,down⟩:=d
 by_cases b:0≤a
 ·by_cases e:a<(L.length:Int)
  ·rw[decide_eq_true (show Lg.F6 ⟨L,left,down⟩ a from And.intro b e)]
   go_enter Tryz.func305,Tryz.ntmps305;go_wp2_with fail;go_ret;exact⟨by simp,Ab _ _⟩
  ·rw[decide_eq_false (show ¬ Lg.F6 ⟨L,left,down⟩ a from fun h=>e h.2)]
   go_enter Tryz.func305,Tryz.ntmps305;go_wp2_with fail;go_ret;exact⟨by simp,Ab _ _⟩
 ·rw[decide_eq_false (show ¬ Lg.F6 ⟨L,left,down⟩ a from fun h=>b h.1)]
  go_enter Tryz.func305,Tryz.ntmps305;go_wp2_with fail;go_ret;exact⟨by simp,Ab _ _⟩
theorem hJ (d:Lg.Dk)(A:Option Addr)(c:Nat)(a:Int)(w:World)(h:Ca w d A c):
 Cr 259 #[Cv d A c,a] w (.tuple #[.string (Lg.K5 d a).1,.int .i64 (Lg.K5 d a).2]):=by
 have j:=Hq (fun W=>Qo d A c a W);have q:=Hq h.secs;clear h;unfold Lg.K5
 cases l:d.down with
 |true=>
  obtain⟨L,left,down⟩:=d;simp only at l;subst l;rw[if_pos rfl];dsimp only[Cv];go_enter Tryz.func259,Tryz.ntmps259;go_wp2_with fail;go_ret2;exact⟨rfl,Ab _ _⟩
 |false=>
  rw[if_neg (by simp)]
  by_cases i:Lg.F6 d a
  ·rw[if_pos i]
   rw[decide_eq_true i]at j;obtain⟨L,left,down⟩:=d;simp only at l;subst l;unfold Lg.F6 at i;unfold Lg.Ic;dsimp only[Cv]at i j q ⊢;obtain⟨r,v⟩:=i;obtain⟨k,rfl⟩:=Int.eq_ofNat_of_zero_le r;have hk:k<L.length:=(by omega);obtain⟨b,off,rfl,y,n,g⟩:=Bu N5 q.out hk;have m:=g 0 _ rfl;simp only[Nat.mul_one,Nat.add_zero]at m;rw[Int.toNat_natCast,List.getElem?_eq_getElem hk,Option.getD_some];generalize L[k]=x at m ⊢;have t:=Hq m;clear m g r;go_enter Tryz.func259,Tryz.ntmps259
   go_upto_region 5 with(go_at_call 305;(with_reducible refine(j.out _).mono ?_);rintro e s ⟨rfl,f⟩;have u:=Aa (Bo f))
   have z:s.cell? ⟨b,off+k,none⟩=some (.string x):=(Ad (Ab w _) f).cell (p:=⟨b,off+k,none⟩) n|>.trans t.out
   have o:=Hq (Ad (Ab w _) f);clear f;go_wp2_with fail;go_ret2;exact⟨rfl,o.out⟩
  ·rw[if_neg i]
   rw[decide_eq_false i]at j;clear i;obtain⟨L,left,down⟩:=d;simp only at l;subst l;dsimp only[Cv]at j ⊢;go_enter Tryz.func259,Tryz.ntmps259
   go_wp2_with(go_at_call 305;(with_reducible refine(j.out _).mono ?_);rintro e s ⟨rfl,f⟩)
   go_ret2;exact⟨rfl,Ad (Ab _ _) f⟩
def D4 (x:Lg.Dk×Int)(A:Option Addr)(w:World)(e:Ending)(w':World):Prop:=
 ∃ A' c',e= .returned (.tuple #[Cv x.1 A' c',x.2])∧Ca w' x.1 A' c'∧(A'=A∨Cp w.heap.size w' 9 A')∧Bw w w'
theorem hU (l:List ByteArray)(A:Option Addr)(c:Nat)(g:0<l.length)(k:l.length≤1000000)(w:World)(h:Reads w A c l.length (l.flatMap I1)):
 Cq 320 #[.slice A l.length c] w fun e w'=>∃ v,e= .returned v∧w'.ownsRow w.heap.size 9 1 v l.length (l.map Value.string)∧Bw w w':=by
 obtain⟨b,off,rfl,_,_,a⟩:=h g;refine(Tryz.slices_Clone_string b off l.length c l w (Nat.le_refl _) (by omega) (fun j f=>?_)).mono ?_
 ·have d:=a j (.string l[j]) (by rw[J3];simp[f])
  rw[d,List.getD_eq_getElem?_getD,List.getElem?_eq_getElem f]
  rfl
 ·rintro e w' ⟨v,rfl,d,_,i⟩
  rw[List.take_length]at d;exact⟨v,rfl,d,i⟩
theorem Hc {d:Lg.Dk}{A:Option Addr}{c:Nat}{w w':World}{dn:Bool}{k:Int}{x:Lg.Dk×Int}(b:x=(⟨d.sectors,d.left,dn⟩,k))(h:Ca w d A c)(a:Bw w w'):D4 x A w (.returned (.tuple #[.agg #[.slice A d.sectors.length c,d.left,dn],k])) w':=by
 subst b;exact⟨A,c,rfl,⟨h.secs.below a,h.small⟩,.inl rfl,a⟩
theorem Me {L:List ByteArray}{A a:Option Addr}{n c:Nat}{w w':World}{left:Int}{x:Lg.Dk×Int}(f:x=(⟨L,left,false⟩,0))(g:L.length=n){d:List Value}(h:Reads w' a c n d){M:List ByteArray}{k:Nat}{b:ByteArray}(i:d=(M.map Value.string).set k (.string b))(e:L=M.set k b)(j:L.length≤1000000)(l:Cp w.heap.size w' 9 a)(m:Bw w w'):
 D4 x A w (.returned (.tuple #[.agg #[.slice a n c,left,false],()])) w':=by
 subst f g;refine⟨a,c,rfl,⟨?_,j⟩,.inr l,m⟩;rw[J3]
 show Reads w' a c L.length (L.map Value.string)
 rw[i]at h;rw[e,List.map_set];rw[e]at h;exact h
theorem Yy (L:List ByteArray)(left:Int)(A:Option Addr)(c:Nat)(a:Int)(b:ByteArray)(x:Lg.Dk×Int)(i:x=(⟨L,left,true⟩,20))(w:World)(h:Ca w ⟨L,left,true⟩ A c):
 Cq 284 #[.agg #[.slice A L.length c,left,true],a,b] w (D4 x A w):=by
 have j:=Hq (fun w' k=>Hc (dn:=true) i h (w':=w') k);dsimp only at j;clear i h;go_enter Tryz.func284,Tryz.ntmps284;go_upto_region 1 with fail;have d:=Hp w #[.slice A L.length c,left,true] 28 #['s',(),false] 28;have f:=Aa d.out.Ai;obtain⟨l,e⟩:=Ee d;rw[← e]at d f ⊢;clear e;have g:=Hq (show l.heap[w.heap.size]? =some (.cells #[.slice A L.length c,left,true] 28 (0,0))from(by have h:=d.out.Ai;simpa using h))
 go_wp2_with(first|with_reducible refine lL g.out Cu ?_|with_reducible refine lS #[.slice A L.length c,left,true] d.out.Am ?_)
 refine rT2 (.int .i64 20) d.out.Am Cu ?_;exact j.out _ ((d.out.row 1 _ _ rfl).below)
theorem bT (L:List ByteArray)(left:Int)(A:Option Addr)(c:Nat)(a:Int)(b:ByteArray)(i:¬ (Lg.F6 ⟨L,left,false⟩ a∧b.size=128))(x:Lg.Dk×Int)(y:x=(⟨L,left,false⟩,1))(w:World)(h:Ca w ⟨L,left,false⟩ A c):
 Cq 284 #[.agg #[.slice A L.length c,left,false],a,b] w (D4 x A w):=by
 have o:=Hq (fun w' z=>Hc (dn:=false) y h (w':=w') z);dsimp only at o;have m:=Hq (fun W=>Qo ⟨L,left,false⟩ A c a W);clear y h
 by_cases n:Lg.F6 ⟨L,left,false⟩ a
 ·rw[decide_eq_true n]at m
  have B:¬ b.size=128:=fun e=>i ⟨n,e⟩;have p:((b.size:Int)==128)=false:=by simp;omega
  have q:((b.size:Int) != 128)=true:=by simp;omega
  have r:(b.size==128)=false:=by simp;omega
  have s:(b.size != 128)=true:=by simp;omega
  clear i n;dsimp only[Cv]at m;go_enter Tryz.func284,Tryz.ntmps284;go_upto_region 1 with fail;have d:=Hp w #[.slice A L.length c,left,false] 28 #['s',(),false] 28;have j:=Aa d.out.Ai;obtain⟨t,f⟩:=Ee d;rw[← f]at d j ⊢;clear f;have k:=Hq (show t.heap[w.heap.size]? =some (.cells #[.slice A L.length c,left,false] 28 (0,0))from(by have h:=d.out.Ai;simpa using h))
  go_upto_region 4 with(first|with_reducible refine lL k.out Cu ?_|(go_at_call 305;(with_reducible refine(m.out _).mono ?_);rintro e u ⟨rfl,g⟩;have H1:=Hq (d.out.step g);clear g;have v:=Aa H1.out.Ai))
  have l:=Hq (show u.heap[w.heap.size]? =some (.cells #[.slice A L.length c,left,false] 28 (0,0))from(by have h:=H1.out.Ai;simpa using h));clear B p q r s
  go_wp2_with(first|with_reducible refine lL l.out Cu ?_|with_reducible refine lS #[.slice A L.length c,left,false] H1.out.Am ?_)
  refine rT2 (.int .i64 1) H1.out.Am Cu ?_;exact o.out _ ((H1.out.row 1 _ _ rfl).below)
 ·rw[decide_eq_false n]at m
  clear i n;dsimp only[Cv]at m;go_enter Tryz.func284,Tryz.ntmps284;go_upto_region 1 with fail;have d:=Hp w #[.slice A L.length c,left,false] 28 #['s',(),false] 28;have j:=Aa d.out.Ai;obtain⟨t,f⟩:=Ee d;rw[← f]at d j ⊢;clear f;have k:=Hq (show t.heap[w.heap.size]? =some (.cells #[.slice A L.length c,left,false] 28 (0,0))from(by have h:=d.out.Ai;simpa using h))
  go_upto_region 4 with(first|with_reducible refine lL k.out Cu ?_|(go_at_call 305;(with_reducible refine(m.out _).mono ?_);rintro e u ⟨rfl,g⟩;have H1:=Hq (d.out.step g);clear g;have v:=Aa H1.out.Ai))
  have l:=Hq (show u.heap[w.heap.size]? =some (.cells #[.slice A L.length c,left,false] 28 (0,0))from(by have h:=H1.out.Ai;simpa using h))
  go_wp2_with(first|with_reducible refine lL l.out Cu ?_|with_reducible refine lS #[.slice A L.length c,left,false] H1.out.Am ?_)
  refine rT2 (.int .i64 1) H1.out.Am Cu ?_;exact o.out _ ((H1.out.row 1 _ _ rfl).below)
theorem bU (L:List ByteArray)(A:Option Addr)(c:Nat)(a:Int)(b:ByteArray)(r:Lg.F6 ⟨L,0,false⟩ a)(u:b.size=128)(x:Lg.Dk×Int)(s:x=(⟨L,0,true⟩,20))(w:World)(h:Ca w ⟨L,0,false⟩ A c):
 Cq 284 #[.agg #[.slice A L.length c,(),false],a,b] w (D4 x A w):=by
 have t:=Hq (fun w' v=>Hc (dn:=true) s h (w':=w') v);dsimp only at t;have i:=Hq (fun W=>Qo ⟨L,0,false⟩ A c a W);rw[decide_eq_true r]at i;have j:((b.size:Int)==128)=true:=by simp;omega
 have k:((b.size:Int) != 128)=false:=by simp;omega
 have l:(b.size==128)=true:=by simp;omega
 have m:(b.size != 128)=false:=by simp;omega
 clear s h u r;dsimp only[Cv]at i;go_enter Tryz.func284,Tryz.ntmps284;go_upto_region 1 with fail;have d:=Hp w #[.slice A L.length c,(),false] 28 #['s',(),false] 28;have n:=Aa d.out.Ai;obtain⟨y,f⟩:=Ee d;rw[← f]at d n ⊢;clear f;have o:=Hq (show y.heap[w.heap.size]? =some (.cells #[.slice A L.length c,(),false] 28 (0,0))from(by have h:=d.out.Ai;simpa using h))
 go_upto_region 5 with(first|with_reducible refine lL o.out Cu ?_|(go_at_call 305;(with_reducible refine(i.out _).mono ?_);rintro e z ⟨rfl,g⟩;have H1:=Hq (d.out.step g);clear g;have B:=Aa H1.out.Ai))
 clear j k l m;have C:=Ap H1.out.Ai;go_upto_region 7 with fail;have p:=Hq (show(z.setCell ⟨w.heap.size,2,none⟩ (.bool true)).heap[w.heap.size]? =some (.cells #[.slice A L.length c,(),true] 28 (0,0))from by have h:=(H1.out.set 0 2 (.bool true) _ rfl).get 0 _ rfl;simpa using h);have q:=Hq (H1.out.set 0 2 (.bool true) _ rfl)
 go_wp2_with(first|with_reducible refine lL p.out Cu ?_|with_reducible refine lS #[.slice A L.length c,(),true] q.out.Am ?_)
 refine rT2 (.int .i64 20) q.out.Am Cu ?_;exact t.out _ ((q.out.row 1 _ _ rfl).below)
theorem iA (L:List ByteArray)(left:Int)(H:left≠0)(a7: -9223372036854775808≤left∧left≤9223372036854775807)(A:Option Addr)(c:Nat)(k:Nat)(b:ByteArray)(hk:k<L.length)(hs:b.size=128)(x:Lg.Dk×Int)(hx:x=(⟨L.set k b,if 0<left then left-1 else left,false⟩,0))(w:World)(h:Ca w ⟨L,left,false⟩ A c):
 Cq 284 #[.agg #[.slice A L.length c,left,false],.int .i64 (k:Int),b] w (D4 x A w):=by
 have C:=Hq (fun W=>Qo ⟨L,left,false⟩ A c k W);rw[decide_eq_true (show Lg.F6 ⟨L,left,false⟩ (k:Int)from⟨by omega,by show(k:Int)<(L.length:Int);omega⟩)]at C;have I:((b.size:Int)==128)=true:=by simp;omega
 have J:((b.size:Int) != 128)=false:=by simp;omega
 have K:(b.size==128)=true:=by simp;omega
 have N:(b.size != 128)=false:=by simp;omega
 have O:(left==0)=false:=by simpa using H
 have hlen:L.length≤1000000:=h.small;have HC:=Hq (fun W (hb:Bw w W)=>hU L A c (by omega) hlen W (h.secs.below hb));have D:=Hq hx;have a8:(k:Int)<(L.length:Int):=by omega
 clear hx h hs;dsimp only[Cv]at C;go_enter Tryz.func284,Tryz.ntmps284;go_upto_region 1 with fail;have m:=Hp w #[.slice A L.length c,left,false] 28 #['s',(),false] 28;have n:=Aa m.out.Ai;obtain⟨W0,o⟩:=Ee m;rw[← o]at m n ⊢;clear o;have q:=Hq (show W0.heap[w.heap.size]? =some (.cells #[.slice A L.length c,left,false] 28 (0,0))from(by have h:=m.out.Ai;simpa using h))
 go_upto_region 8 with(first|with_reducible refine lL q.out Cu ?_|(go_at_call 305;(with_reducible refine(C.out _).mono ?_);rintro e w1 ⟨rfl,r⟩;have H1:=Hq (m.out.step r);clear r;have P:=Aa H1.out.Ai))
 clear I J K N O C n q m
 go_upto_region 9 with(first|(go_at_call 320;(with_reducible refine(HC.out _ H1.out.below).mono ?_);rintro e w2 ⟨v,rfl,Q,s⟩;obtain⟨A2,c2,rfl⟩:=Kh Q;have E:=Hq (H1.out.step s);have R:=Ap E.out.Ai;have S:=Aa E.out.Ai;clear s P))
 clear S R;have aa:=H1.out.lt (i:=1) (by simp);have t:=Jm Q ⟨w.heap.size,0,none⟩ (.slice A2 L.length c2) (by show w.heap.size<_;omega);obtain⟨g,cap,hv,hg,T,a6,d,u,a⟩:=lD t hk
 injection hv with U ae V
 subst U V;have F:=Hq (E.out.set 0 0 (.slice (some ⟨g,0,none⟩) L.length c2) _ rfl);simp only[Nat.add_zero]at F;obtain⟨W3,y⟩:=ex (w2.setCell ⟨w.heap.size,0,none⟩ (.slice (some ⟨g,0,none⟩) L.length c2));rw[← y]at F d u a T ⊢;have X:=Aa F.out.Ai;rw[List.getElem?_eq_getElem (by simpa using hk)]at d;simp only[List.getElem_map]at d;have j:=Hq a;clear y E Q t a;go_upto_region 10 with fail;have Y:w.heap.size+2≤g:=by omega
 have l:=Hq (F.out.under (M:=g) (by show w.heap.size+2≤g;exact Y) ((Below.refl g W3).setCell (p:=⟨g,k,none⟩) (Nat.le_refl g) (.string b)));have f:=Hq (j.out (.string b));obtain⟨W4,z⟩:=ex (W3.setCell ⟨g,k,none⟩ (.string b));rw[← z]at l f ⊢;have af:=Aa l.out.Ai;have ag:=Ap l.out.Ai;clear z X d u j
 by_cases hp:0<left
 ·rw[if_pos hp]at D
  have ah:IntKind.i64.wrap (left-1)=left-1:=IntWalk.i64_in _ (by omega);go_upto_region 12 with fail;have G:=Hq (l.out.set 0 1 (.int .i64 (left-1)) _ rfl);have Z:=Hq (show(W4.setCell ⟨w.heap.size,1,none⟩ (.int .i64 (left-1))).heap[w.heap.size]? =some (.cells #[.slice (some ⟨g,0,none⟩) L.length c2,.int .i64 (left-1),false] 28 (0,0))from by have h:=G.out.Ai;simpa using h);have B:=Hq (Jm f.out ⟨w.heap.size,1,none⟩ (.int .i64 (left-1)) (by show w.heap.size<_;omega))
  go_wp2_with(first|with_reducible refine lL Z.out Cu ?_|with_reducible refine lS #[.slice (some ⟨g,0,none⟩) L.length c2,.int .i64 (left-1),false] G.out.Am ?_)
  refine rT2 () G.out.Am Cu ?_;exact Me D.out (by rw[List.length_set]) ((Dr B.out).Vi _ _ (fun _ ad e=>(by injection e with e;rw[← e];show g≠w.heap.size+1;omega))) rfl rfl (by rw[List.length_set];exact hlen) (((Cp.own B.out).row _ _).mono (by omega)) ((G.out.row 1 _ _ rfl).below)
 ·rw[if_neg hp]at D
  have a1:=Hq (show W4.heap[w.heap.size]? =some (.cells #[.slice (some ⟨g,0,none⟩) L.length c2,left,false] 28 (0,0))from(by have h:=l.out.Ai;simpa using h))
  go_wp2_with(first|with_reducible refine lL a1.out Cu ?_|with_reducible refine lS #[.slice (some ⟨g,0,none⟩) L.length c2,left,false] l.out.Am ?_)
  refine rT2 () l.out.Am Cu ?_;exact Me D.out (by rw[List.length_set]) ((Dr f.out).Vi _ _ (fun _ ad e=>(by injection e with e;rw[← e];show g≠w.heap.size+1;omega))) rfl rfl (by rw[List.length_set];exact hlen) (((Cp.own f.out).row _ _).mono (by omega)) ((l.out.row 1 _ _ rfl).below)
theorem Rz (d:Lg.Dk)(f: -9223372036854775808≤d.left∧d.left≤9223372036854775807)(A:Option Addr)(c:Nat)(a:Int)(b:ByteArray)(w:World)(h:Ca w d A c):
 Cq 284 #[Cv d A c,a,b] w (D4 (Lg.Bz d a b) A w):=by
 obtain⟨L,left,down⟩:=d
 cases down with
 |true=>exact Yy L left A c a b _ (by unfold Lg.Bz;rw[if_pos rfl]) w h
 |false=>
  by_cases e:Lg.F6 ⟨L,left,false⟩ a∧b.size=128
  ·by_cases g:left=0
   ·subst g
    exact bU L A c a b e.1 e.2 _ (by unfold Lg.Bz;rw[if_neg (by simp),if_neg (fun i=>i e),if_pos rfl]) w h
   ·obtain⟨k,rfl⟩:=Int.eq_ofNat_of_zero_le e.1.1
    have hk:k<L.length:=(by have j:=e.1.2;simp only at j;omega);exact iA L left g f A c k b hk e.2 _ (by unfold Lg.Bz;rw[if_neg (by simp),if_neg (fun i=>i e),if_neg g];simp) w h
  ·exact bT L left A c a b e _ (by unfold Lg.Bz;rw[if_neg (by simp),if_pos e]) w h
theorem bV (n:Nat)(e:n≤4096)(W:World):(Instr.makeSlice 104 (.int .i64 (n:Int)) (.int .i64 (n:Int))).run Tryz.prog W= .ok (.slice (some ⟨W.heap.size,0,none⟩) n n) (W.alloc (.cells (madeCells #[Value.int .u8 0] n) 5)):=by
 obtain⟨i0,d,a,b,c⟩:=info_parts Ot;have h:=run_make (P:=Tryz.prog) W 104 5 i0 (.int .u8 0) Jb d a .i64 .i64 n n (by omega) (by omega) (by rw[c];omega) (by omega);rw[b,Int.toNat_natCast,Nat.mul_one]at h;exact h
theorem bW (n:Nat)(W:World):(convert 104 9 (.slice (some ⟨W.heap.size,0,none⟩) n n)).run Tryz.prog (W.alloc (.cells (madeCells #[Value.int .u8 0] n) 5))= .ok (.string ⟨(List.replicate n 0).toArray⟩) (W.alloc (.cells (madeCells #[Value.int .u8 0] n) 5)):=by
 have h:=run_convert_bytes_back (P:=Tryz.prog) (W.alloc (.cells (madeCells #[Value.int .u8 0] n) 5)) 104 9 5 ⟨W.heap.size,0,none⟩ n (List.replicate n 0) Jb oQ kR (fun j b=>by
  have a:j<n:=by simpa using b
  have c:(⟨W.heap.size,0,none⟩:Addr).add j=⟨W.heap.size,j,none⟩:=by
   unfold Addr.add;split
   ·rename_i h;rw[h]
   ·simp
  rw[c,World.cell?_alloc_new]
  simp[madeCells,a,Nat.mod_one])
 rw[List.length_replicate]at h;exact h
theorem Ll:(Tryz.prog.info? 9).map (fun i=>(i.zero,i.size,i.bytes))=some (some (.string ⟨#[]⟩),1,16):=by kernel_rfl
end Go.Proofs.YtmldoihahndcgaaGreatDoor
namespace Lg
theorem Jg (n:Nat):(⟨(Go.Lib.repeatL [(0:UInt8)] n).toArray⟩:ByteArray)=⟨(List.replicate n 0).toArray⟩:=by
 congr 2
 induction n with
 |zero=>rfl
 |succ n ih=>
  rw[List.replicate_succ,← ih]
  rfl
theorem mM (t:ByteArray)(m:Nat)(b:m=min t.size 128):t.extract 0 m++(⟨(Go.Lib.repeatL [(0:UInt8)] (128-m)).toArray⟩:ByteArray)=E2 (t.data.toList.take 128):=by
 rw[Jg];unfold E2
 apply ByteArray.ext
 rw[ByteArray.data_append]
 apply Array.toList_inj.1
 rw[Array.toList_append];have e:(t.extract 0 m).data.toList=t.data.toList.take 128:=by
  simp only[ByteArray.data_extract,Array.toList_extract,List.extract_eq_take_drop,Nat.sub_zero,List.drop_zero];have a:t.data.toList.length=t.size:=by simp
  by_cases h:t.size≤128
  ·rw[List.take_of_length_le (by omega),List.take_of_length_le (by omega)]
  ·rw[show m=128 by omega]
 have a:(t.data.toList.take 128).length=m:=by rw[List.length_take];simp;omega
 rw[e,a]
theorem mN (t:ByteArray)(m:Nat)(c:m=min t.size 128)(d:0<t.size):Hb t=E2 (t.data.toList.take 128)::Hb (t.extract m t.size):=by
 unfold Hb;have b:t.data.toList≠[]:=fun e=>by
  have a:t.data.toList.length=t.size:=by simp
  rw[e,List.length_nil]at a;omega
 rw[J2 b]
 congr 2
 simp only[ByteArray.data_extract,Array.toList_extract,List.extract_eq_take_drop];have a:t.data.toList.length=t.size:=by simp
 rw[List.take_of_length_le (by rw[List.length_drop];omega)]
 by_cases h:t.size≤128
 ·rw[List.drop_of_length_le (i:=128) (by omega),List.drop_of_length_le (i:=m) (by omega)]
 ·rw[show m=128 by omega]
theorem mO (t:ByteArray)(a:t.size=0):Hb t=[]:=by
 unfold Hb;have b:t.data.toList=[]:=List.eq_nil_of_length_eq_zero (by simpa using a);rw[b,Hw]
end Lg
namespace Go.Proofs.YtmldoihahndcgaaGreatDoor
open Go.RowKit
abbrev Kv (l:Lg.Lo):Value:=.agg #[l.from_,l.n,l.end_,l.safe,l.tail]
theorem mP (a n:Int)(w:World):
 Cr 58 #[a,n] w (Kv ⟨a,n,0,0,⟨#[]⟩⟩):=by
 have b:=Hq (heap_alloc_new w (.cells #[(),(),(),(),""] 30));go_enter Tryz.func58,Tryz.ntmps58
 go_wp2_with(with_reducible refine lS #[a,n,(),(),""] b.out ?_)
 refine rT1 b.out Fi ?_;exact⟨rfl,((D6.nil (Below.refl w.heap.size w)).new (by simp) #[(),(),(),(),""] 30).row 0 _ _ rfl|>.below⟩
def bX (l:List ByteArray)(w:World)(e:Ending)(w':World):Prop:=∃ v,e= .returned v∧En I1 1 9 w.heap.size w' v l∧Bw w w'
theorem pL (s:ByteArray)(hs:s.size≤1000000)(w:World):
 Cq 283 #[s] w (bX (Lg.Hb s) w):=by
 have N:=Hq (fun v w' (L:En I1 1 9 w.heap.size w' v (Lg.Hb s)) (M:Bw w w')=>show bX (Lg.Hb s) w (.returned v) w' from⟨v,rfl,L,M⟩);generalize bX (Lg.Hb s) w=Q at N ⊢;obtain⟨C,hC⟩:=ex (Lg.Hb s);have a8:C.length≤8000:=by rw[hC,Lg.Hz];omega
 rw[← hC]at N;have HC:=Hq hC;have HR:=Hq (fun(c:Nat) (hc:c≤128) W=>Tryz.strings_Repeat ⟨#[0]⟩ c W (by omega) (show(⟨#[0]⟩:ByteArray).size*c≤140737488355328 from(by show 1*c≤_;have:c≤128:=hc;omega)));clear hC;go_enter Tryz.func283,Tryz.ntmps283;go_wp2_with fail
 go_loopw [0,3] (fun O v wr=>∃ (t:ByteArray) (ls:List ByteArray),O= .string t∧t.size≤1000000∧ls++Lg.Hb t=C∧En I1 1 9 w.heap.size wr v ls∧Bw w wr) (fun O _ _=>(match O with| .string t=>t.size|_=>0))
 case atStart=>exact⟨s,[],rfl,hs,HC.out.symm,Q5 _ _ _ _,Below.refl _ _⟩
 case round=>
  obtain⟨t,ls,rfl,aa,g,hO,hB⟩:=hrel;have P:=Hq hB;have ad:ls.length≤8000:=by have:=congrArg List.length g;rw[List.length_append]at this;omega
  have n:=Hq g;clear hB g
  by_cases h0:0<t.size
  ·obtain⟨m,R⟩:=ex (min t.size 128)
   have ae:min (t.size:Int) 128=(m:Int):=(by omega);have af:m≤t.size:=(by omega);have ag:m≤128:=(by omega);have ah:(0:Int)≤(m:Int):=(by omega);have ai:(m:Int)≤(t.size:Int):=(by omega);have d:(128:Int)-(m:Int)=((128-m:Nat):Int):=(by omega);have T:IntKind.i64.wrap ((128:Int)-(m:Int))=((128-m:Nat):Int):=(by rw[d];exact IntWalk.i64_in _ (by omega));have o:IntKind.i64.wrap ((128-m:Nat):Int)=((128-m:Nat):Int):=IntWalk.i64_in _ (by omega);have U:=Hq (Lg.mM t m R);have HN:=Hq (Lg.mN t m R h0);have p:=Lg.P3 (l:=t.data.toList.take 128) (by rw[List.length_take];omega);have q:(t.extract m t.size).size<t.size:=(by rw[ByteArray.size_extract];omega);have u:=Hq q;have V:=HR.out (128-m) (show 128-m≤128 by omega);have b:(t.extract 0 m).size+(⟨(Lib.repeatL [(0:UInt8)] (128-m)).toArray⟩:ByteArray).size≤9223372036854775807:=by
    rw[Lg.Jg,ByteArray.size_extract]
    show _+(List.replicate (128-m) (0:UInt8)).toArray.size≤_
    simp
    omega
   have X:=Hq V;obtain⟨z,Y⟩:=ex (⟨(Lib.repeatL [(0:UInt8)] (128-m)).toArray⟩:ByteArray);obtain⟨y,hy⟩:=ex (Lg.E2 (t.data.toList.take 128):ByteArray);have B:Hid (∀ W,Cr 132 #[.string ⟨#[0]⟩,.int .i64 ((128-m:Nat):Int)] W (.string z)):=Hq (by rw[Y];exact V);rw[← Y]at U b;rw[← hy]at U HN p;have D:∀ W:World,(Op.stringOp .add (t.extract 0 m) z).run Tryz.prog W= .ok (.string y) W:=fun W=>by rw[← U.out];exact run_string_add_sum W _ _ b
   obtain⟨r,hr⟩:=ex (128-m:Nat);rw[← hr]at d T o B;clear V HR X R Y hy q hr b;obtain⟨A,c,rfl⟩:=Kh hO;go_upto_region 4 with fail;have E:=Db hO (Below.refl _ wr).drew;have i:=P.out.drew;refine Gd (S:=(fun _=>True)) (fun a=>?_) (by trivial);refine Au 0 ?_;refine Au 1 ?_;refine Au 2 ?_;refine Au 3 ?_;refine Au 4 ?_;refine Au 5 ?_;refine Ch 6 fun K f=>?_
   go_simp
   refine(B.out _).mono ?_;rintro e Z ⟨rfl,F⟩;have G:=Db E F;have j:=i.trans (F.mono i.size);try go_simp
   refine Bq f (fun a=>?_) (by trivial);clear f K;refine Au 7 ?_;refine Ch 8 fun K f=>?_
   go_simp
   have H:=Db G (Ab Z (.cells #[y] 9));have k:=j.alloc j.size (.cells #[y] 9);have hG:=heap_alloc_new Z (.cells #[y] 9);refine Bq f (fun a=>?_) (by trivial);clear f K;refine Ch 9 fun K f=>?_;refine Ay (by rfl) ?_;refine dZ _ (.tmp 11) (.tmp 19) 26 9 Q3 Ll rfl (by omega) (by omega) rfl w.heap.size _ ls.length (ls.flatMap I1) rfl H Z.heap.size (I1 y) 9 rfl hG rfl (by simp[I1,Value.oneCell']) (by omega) k.size ?_;intro v7 w7 L hg M;have I:=k.trans M;refine Bq f (fun a=>?_) (by trivial);clear f K;refine Au 10 ?_;refine wpAnyH_done Kr ?_ _;have a1:=Hq (En.push (enc:=I1) (x:=y) L);have a6:=Hq I;clear hO E G H i j k I L hg M hG a P D p;go_wp2_with fail;go_roundw
   case rel=>exact⟨_,ls++[y],rfl,by have:=u.out;omega,by rw[List.append_assoc];have h:=n.out;rw[HN.out]at h;exact h,a1.out,a6.out⟩
   case measure=>exact u.out
  ·have a7:t.size=0:=by omega
   have J:ls=C:=(by have h:=n.out;rwa[Lg.mO t a7,List.append_nil]at h);subst J;go_wp2_with fail;exact N.out _ _ hO P.out
end Go.Proofs.YtmldoihahndcgaaGreatDoor
namespace Rc
end Rc
namespace Go.Proofs.YtmldoihahndcgaaGreatDoor
open Go.RowKit
abbrev sT:Array Value:=#[(),(),(),(),(),(),(),(),(),"","",(),(),"",(),(),'s','s']
end Go.Proofs.YtmldoihahndcgaaGreatDoor
namespace Rc
end Rc
namespace Go.Proofs.YtmldoihahndcgaaGreatDoor
open Go.RowKit
theorem Yz:(Tryz.prog.info? 134).map (fun i=>(i.zero,i.size,i.bytes))=some (some (.agg #[(),(),(),false]),4,32):=by kernel_rfl
end Go.Proofs.YtmldoihahndcgaaGreatDoor
namespace Lg
end Lg
namespace Go.Proofs.YtmldoihahndcgaaGreatDoor
open Go.RowKit
end Go.Proofs.YtmldoihahndcgaaGreatDoor
namespace Lg
end Lg
namespace Go.Proofs.YtmldoihahndcgaaGreatDoor
open Go.RowKit
theorem sU (n:Nat)(h:n<18446744073709551616)(size:Nat)(a:size≤8):(Oct.Ba (n:Int) size).data.toList=Oct.Bi n size:=by
 rw[Oct.Bt _ _ a]
 congr 1
 unfold Oct.word;omega
theorem mQ (s:ByteArray)(j:s.size≤1000000)(w:World):
 Cq 260 #[s] w fun e w'=>∃ x:ByteArray,e= .returned (.string x)∧x.data.toList=Oct.Bi (Oct.Gm s.data.toList) 4++s.data.toList∧Bw w w':=by
 have h:=Hq (fun W=>dY s (by omega) W);have c:Oct.Gm s.data.toList<18446744073709551616:=by have:=Oct.dX s.data.toList;omega
 have a:(Oct.Ba ((Oct.Gm s.data.toList:Nat):Int) 4).data.toList=Oct.Bi (Oct.Gm s.data.toList) 4:=sU _ c 4 (by omega);generalize Oct.Gm s.data.toList=n at h a ⊢;have i:=Hq (fun W=>Hh (n:Int) 4 (by omega) (by omega) W);have f:(Oct.Ba (n:Int) 4).size=4:=Oct.Bh _ 4 (by omega);have d:(Oct.Ba (n:Int) 4).size+s.size≤281474976710656:=by omega
 have b:(Oct.Ba (n:Int) 4++s).data.toList=Oct.Bi n 4++s.data.toList:=by
  rw[ByteArray.data_append,Array.toList_append,a]
 clear c a;generalize Oct.Ba (n:Int) 4=x at i f d b;go_enter Tryz.func260,Tryz.ntmps260
 go_wp2_with(first|(go_at_call 306;refine(h.out _).mono ?_;rintro e k ⟨rfl,rfl⟩)|(go_at_call 151;refine(i.out _).mono ?_;rintro e l ⟨rfl,g⟩))
 go_ret;exact⟨_,rfl,b,g⟩
def R0 (r:Rc.Rec)(w:World)(e:Ending)(w':World):Prop:=
 (∃ x:ByteArray,Rc.Bs r∧e= .returned (.tuple #[x,()])∧x.data.toList=Lg.D8 r∨¬ Rc.Bs r∧e= .returned (.tuple #["",.int .i64 1]))∧Bw w w'
theorem R1 (r:Rc.Rec)(A D:Option Addr)(c d:Nat)(w:World)(s:Hv w r A c D d):
 Cq 254 #[D7 r (.slice A r.txns.length c) (.slice D r.dirty.length d)] w (R0 r w):=by
 have f:=Hq (fun W (h:Bw w W)=>bL r A D c d W (s.below h));have l:=Hq (heap_alloc_new w (.cells (Dz r (.slice A r.txns.length c) (.slice D r.dirty.length d)) 88))
 cases g:Rc.Dy r with
 |false=>
  rw[g]at f;have m:¬ Rc.Bs r:=fun h=>by rw[Rc.Fv h]at g;cases g
  have n:=Hq (fun w' (h:Bw w w')=>show R0 r w (.returned (.tuple #["",.int .i64 1])) w' from⟨⟨⟨#[]⟩,.inr ⟨m,rfl⟩⟩,h⟩);clear m g s;generalize R0 r w=Q at n ⊢;obtain⟨v,prev,B,kind,Ac,next,M,⟨ok,os,N,on⟩,C,root,⟨O,P,es⟩,R,S⟩:=r;dsimp only[D7,Dz]at f l ⊢;go_enter Tryz.func254,Tryz.ntmps254
  go_wp2_with(first
   |with_reducible refine lL l.out Da ?_
   |(go_at_call 301;(with_reducible refine(f.out _ (Ab _ _)).mono ?_);rintro e T ⟨rfl,b⟩))
  exact n.out _ (Ad (Ab _ _) b)
 |true=>
  rw[g]at f;have t:Rc.Bs r:=Rc.Rr.1 g;have u:=Hq (fun W (h:Bw w W)=>mI r t A D c d W (s.below h));obtain⟨y,E⟩:=ex (⟨(Rc.Dj r).toArray⟩:ByteArray);rw[← E]at u;have i:y.data.toList=Rc.Dj r:=by rw[E]
  have hlen:=Rc.Mc t;have o:y.size=(Rc.Dj r).length:=by rw[← i];simp
  have F:y.size≤1000000:=by omega
  have U:=Hq (fun W=>mQ y F W);have K:=Hq (fun W=>Hh (y.size:Int) 4 (by omega) (by omega) W);have j:(Oct.Ba (y.size:Int) 4).data.toList=Oct.Bi y.size 4:=sU _ (by omega) 4 (by omega);have G:(Oct.Ba (y.size:Int) 4).size=4:=Oct.Bh _ 4 (by omega);generalize Oct.Ba (y.size:Int) 4=z at K j G;have n:=Hq (fun w' (x:ByteArray) (a:x.data.toList=Oct.Bi (Oct.Gm y.data.toList) 4++y.data.toList) (h:Bw w w')=>show R0 r w (.returned (.tuple #[.string (z++x),()])) w' from⟨⟨z++x,.inl ⟨t,rfl,by rw[ByteArray.data_append,Array.toList_append,j,a,i,o];rfl⟩⟩,h⟩);have V:=Hq (fun(x:ByteArray) (a:x.data.toList=Oct.Bi (Oct.Gm y.data.toList) 4++y.data.toList)=>show x.size≤1000004 from by
   have e:x.size=x.data.toList.length:=(by simp);rw[e,a,List.length_append,Oct.A5];have Y:y.data.toList.length=y.size:=(by simp);omega)
  clear t g s E i hlen o j;generalize R0 r w=Q at n ⊢;obtain⟨v,prev,B,kind,Ac,next,M,⟨ok,os,N,on⟩,C,root,⟨O,P,es⟩,R,S⟩:=r;dsimp only[D7,Dz]at f l u ⊢;go_enter Tryz.func254,Tryz.ntmps254
  go_upto_region 3 with(first
   |with_reducible refine lL l.out Da ?_
   |(go_at_call 301;(with_reducible refine(f.out _ (Ab _ _)).mono ?_);rintro e T ⟨rfl,b⟩))
  have p:=Hq (Ae l.out b);have k:=Hq (Ad (Ab w _) b);clear b l f
  go_upto_region 4 with(first
   |with_reducible refine lL p.out Da ?_
   |(go_at_call 302;(with_reducible refine(u.out _ k.out).mono ?_);rintro e Z ⟨rfl,q⟩))
  have H:=Hq (Ad k.out q);clear q k p u
  go_wp2_with(first|(go_at_call 151;refine(K.out _).mono ?_;rintro e w3 ⟨rfl,I⟩)|(go_at_call 260;refine(U.out _).mono ?_;rintro e w4 ⟨x,rfl,a,J⟩;have X:=V.out x a;have L:z.size+x.size≤281474976710656:=(by omega)))
  exact n.out _ x a (Ad (Ad H.out I) J)
end Go.Proofs.YtmldoihahndcgaaGreatDoor
namespace Lg
theorem N6 {l:Lo}{r:Rc.Rec}(h:¬ Rc.Bs {r with lsn:=l.end_+1}):Aw l r=(l,0,1):=by
 unfold Aw;simp only;rw[if_pos h]
theorem P5 {l:Lo}{r:Rc.Rec}(h:Rc.Bs {r with lsn:=l.end_+1})(a:l.n*128-((D8 {r with lsn:=l.end_+1}).length:Int)<l.end_):Aw l r=(l,0,18):=by
 unfold Aw;simp only;rw[if_neg (fun b=>b h),if_pos a]
theorem Ue {l:Lo}{r:Rc.Rec}(h:Rc.Bs {r with lsn:=l.end_+1})(a:¬ l.n*128-((D8 {r with lsn:=l.end_+1}).length:Int)<l.end_):Aw l r=({l with end_:=l.end_+((D8 {r with lsn:=l.end_+1}).length:Int),tail:=l.tail++⟨(D8 {r with lsn:=l.end_+1}).toArray⟩},l.end_+1,0):=by
 unfold Aw;simp only;rw[if_neg (fun b=>b h),if_neg a]
end Lg
namespace Go.Proofs.YtmldoihahndcgaaGreatDoor
open Go.RowKit
theorem bY (r:Rc.Rec)(a:Rc.Bs r)(A D:Option Addr)(c d:Nat)(w:World)(b:Hv w r A c D d):
 Cr 254 #[D7 r (.slice A r.txns.length c) (.slice D r.dirty.length d)] w (.tuple #[.string ⟨(Lg.D8 r).toArray⟩,()]):=by
 refine(R1 r A D c d w b).mono ?_;rintro e w' ⟨⟨x,h⟩,f⟩;rcases h with⟨_,rfl,g⟩|⟨h,_⟩
 ·exact⟨by rw[← g],f⟩
 ·exact absurd a h
theorem iB (r:Rc.Rec)(a:¬ Rc.Bs r)(A D:Option Addr)(c d:Nat)(w:World)(b:Hv w r A c D d):
 Cr 254 #[D7 r (.slice A r.txns.length c) (.slice D r.dirty.length d)] w (.tuple #["",.int .i64 1]):=by
 refine(R1 r A D c d w b).mono ?_;rintro e w' ⟨⟨x,h⟩,f⟩;rcases h with⟨h,_⟩|⟨_,rfl⟩
 ·exact absurd h a
 ·exact⟨rfl,f⟩
def V1 (x:Lg.Lo×Int×Int)(w:World)(e:Ending)(w':World):Prop:=e= .returned (.tuple #[Kv x.1,x.2.1,x.2.2])∧Bw w w'
theorem R2 (l:Lg.Lo)(ae:0≤l.end_)(af:l.end_≤1000000000)(ag: -1000000000≤l.n)(ah:l.n≤1000000000)(ht:l.tail.size≤1000000000)(r:Rc.Rec)(A D:Option Addr)(c d:Nat)(w:World)(R:Hv w r A c D d):
 Cq 201 #[Kv l,D7 r (.slice A r.txns.length c) (.slice D r.dirty.length d)] w (V1 (Lg.Aw l r) w):=by
 have P:=Hq (fun v W (hb:Bw w W)=>bY {r with lsn:=l.end_+1} v A D c d W ⟨R.txns.below hb,R.dirty.below hb,R.small⟩);have Q:=Hq (fun v W (hb:Bw w W)=>iB {r with lsn:=l.end_+1} v A D c d W ⟨R.txns.below hb,R.dirty.below hb,R.small⟩);have HN:=Hq (@Lg.N6 l r);have H:=Hq (@Lg.P5 l r);have I:=Hq (@Lg.Ue l r);generalize Lg.Aw l r=o at HN H I ⊢;clear R;obtain⟨k,n,a,m,g⟩:=l;obtain⟨lsn,prev,b,kind,Ac,next,y,⟨ok,os,z,on⟩,f,root,⟨B,C,es⟩,E,F⟩:=r;dsimp only[D7,Dz,Kv]at P Q HN H I ae af ag ah ht ⊢;have an:IntKind.i64.wrap (a+1)=a+1:=IntWalk.i64_in _ (by omega)
 by_cases v:Rc.Bs ⟨a+1,prev,b,kind,Ac,next,y,⟨ok,os,z,on⟩,f,root,⟨B,C,es⟩,E,F⟩
 ·have HP:=Hq (P.out v)
  have t:=Hq (H.out v);have i:=Hq (I.out v);have J:(Lg.D8 ⟨a+1,prev,b,kind,Ac,next,y,⟨ok,os,z,on⟩,f,root,⟨B,C,es⟩,E,F⟩).length≤40008:=by rw[Lg.Lk];have:=(Rc.Mc v).2;omega
  obtain⟨x,hx⟩:=ex (⟨(Lg.D8 ⟨a+1,prev,b,kind,Ac,next,y,⟨ok,os,z,on⟩,f,root,⟨B,C,es⟩,E,F⟩).toArray⟩:ByteArray);have a6:(Lg.D8 ⟨a+1,prev,b,kind,Ac,next,y,⟨ok,os,z,on⟩,f,root,⟨B,C,es⟩,E,F⟩).length=x.size:=by rw[hx];show _=((Lg.D8 ⟨a+1,prev,b,kind,Ac,next,y,⟨ok,os,z,on⟩,f,root,⟨B,C,es⟩,E,F⟩).toArray).size;simp
  rw[a6]at t i J;rw[← hx]at HP i;have ao:=J;clear P Q HN H I v hx a6 J;go_enter Tryz.func201,Tryz.ntmps201;go_upto_region 1 with fail;have p:=Q6 w #[k,n,a,m,g] 30 (Ct lsn prev b kind Ac next y ok os z on f root B C es (.slice A E.length c) (.slice D F.length d)) 88 #[(),(),(),(),""] 30;obtain⟨T,q⟩:=Ee p;have U:T.heap.size=w.heap.size+3:=by rw[q];simp
  rw[← q]at p ⊢;have V:=Aa p.out.Ai;have X:=Aa p.out.Am;have Y:=Ap p.out.Am;clear q;go_upto_region 2 with fail;have H1:=Hq (show D6 w.heap.size w [(#[k,n,a,m,g],30),((Ct (a+1) prev b kind Ac next y ok os z on f root B C es (.slice A E.length c) (.slice D F.length d)),88),(#[(),(),(),(),""],30)] (T.setCell ⟨w.heap.size+1,0,none⟩ (.int .i64 (a+1)))from by have h:=p.out.set 1 0 (.int .i64 (a+1)) _ rfl;simpa using h);obtain⟨W1,L⟩:=ex (T.setCell ⟨w.heap.size+1,0,none⟩ (.int .i64 (a+1)));rw[← L]at H1 ⊢;clear L V X Y p U;have M:=Hq H1.out.Am
  go_upto_region 3 with(first
   |with_reducible refine lL M.out Da ?_
   |(go_at_call 254;(with_reducible refine(HP.out _ H1.out.below).mono ?_);rintro e w2 ⟨rfl,N⟩))
  have G:=Hq (H1.out.step N);clear N H1 M HP;have hm:IntKind.i64.wrap (n*128)=n*128:=IntWalk.i64_in _ (by omega);have aq:IntKind.i64.wrap (n*128-(x.size:Int))=n*128-(x.size:Int):=IntWalk.i64_in _ (by omega);have ar:IntKind.i64.wrap (a+(x.size:Int))=a+(x.size:Int):=IntWalk.i64_in _ (by omega)
  by_cases Z:n*128-(x.size:Int)<a
  ·have HO:=Hq (t.out Z)
   have j:=Hq (show w2.heap[w.heap.size]? =some (.cells #[k,n,a,m,g] 30 (0,0))from by have h:=G.out.Ai;simpa using h);have a7:=Aa j.out;clear t i
   go_wp2_with(first
    |with_reducible refine lL j.out Fi ?_
    |with_reducible refine lS #[k,n,a,m,g] G.out.Cj ?_)
   refine rT3 () (.int .i64 18) G.out.Cj Fi ?_;rw[HO.out];exact⟨rfl,(G.out.row 2 _ _ rfl).below⟩
  ·have HO:=Hq (i.out (by omega))
   have a8:∀ W:World,(Op.stringOp .add g x).run Tryz.prog W= .ok (.string (g++x)) W:=fun W=>run_string_add_sum W _ _ (by omega);have j:=Hq (show w2.heap[w.heap.size]? =some (.cells #[k,n,a,m,g] 30 (0,0))from by have h:=G.out.Ai;simpa using h);have a7:=Aa j.out;have ai:=Ap j.out;clear t i;go_upto_region 8 with fail;have H3:=Hq (show D6 w.heap.size w [(#[k,n,.int .i64 (a+(x.size:Int)),m,g],30),((Ct (a+1) prev b kind Ac next y ok os z on f root B C es (.slice A E.length c) (.slice D F.length d)),88),(#[(),(),(),(),""],30)] (w2.setCell ⟨w.heap.size,2,none⟩ (.int .i64 (a+(x.size:Int))))from by have h:=G.out.set 0 2 (.int .i64 (a+(x.size:Int))) _ rfl;simpa using h);obtain⟨W3,aa⟩:=ex (w2.setCell ⟨w.heap.size,2,none⟩ (.int .i64 (a+(x.size:Int))));rw[← aa]at H3 ⊢;clear aa a7 ai j G;have aj:=Aa H3.out.Ai;have ak:=Ap H3.out.Ai;go_upto_region 9 with fail;have H4:=Hq (show D6 w.heap.size w [(#[k,n,.int .i64 (a+(x.size:Int)),m,.string (g++x)],30),((Ct (a+1) prev b kind Ac next y ok os z on f root B C es (.slice A E.length c) (.slice D F.length d)),88),(#[(),(),(),(),""],30)] (W3.setCell ⟨w.heap.size,4,none⟩ (.string (g++x)))from by have h:=H3.out.set 0 4 (.string (g++x)) _ rfl;simpa using h);obtain⟨W4,ad⟩:=ex (W3.setCell ⟨w.heap.size,4,none⟩ (.string (g++x)));rw[← ad]at H4 ⊢;clear ad aj ak H3 a8;have s:=Hq H4.out.drew;refine Gd (S:=(fun u=>u.heap[w.heap.size]? =some (.cells #[k,n,.int .i64 (a+(x.size:Int)),m,.string (g++x)] 30 (0,0))∧u.heap[w.heap.size+1]? =some (.cells (Ct (a+1) prev b kind Ac next y ok os z on f root B C es (.slice A E.length c) (.slice D F.length d)) 88 (0,0)))) (fun O=>?_) (by first|exact hSn|exact⟨(by have h:=s.out.Ai;simpa using h),s.out.Am⟩);refine Au 0 ?_;refine Au 1 ?_;refine Au 2 ?_;refine Ch 3 fun K hK=>?_;refine Ay (by rfl) ?_;refine sW #[k,n,.int .i64 (a+(x.size:Int)),m,.string (g++x)] s.out.Cj ?_;have a1:=s.out.row 2 #[k,n,.int .i64 (a+(x.size:Int)),m,.string (g++x)] _ rfl;have hSn:=And.intro (show _=some (Obj.cells #[k,n,.int .i64 (a+(x.size:Int)),m,.string (g++x)] 30 (0,0))from by have h:=a1.get 0 _ rfl;simpa using h) (a1.get 1 _ rfl);refine Bq hK (fun O=>?_) (by first|exact hSn|exact⟨(by have h:=s.out.Ai;simpa using h),s.out.Am⟩);clear hK K
   try simp only[Act.put]
   refine Au 4 ?_;refine Au 5 ?_;refine wpAnyH_done Kr ?_ _;clear O;go_wp2_with fail;refine rT3 (.int .i64 (a+1)) () s.out.Cj Fi ?_;rw[HO.out];exact⟨rfl,a1.below⟩
 ·have HO:=Hq (HN.out v)
  have HP:=Hq (Q.out v);clear P Q HN H I v;go_enter Tryz.func201,Tryz.ntmps201;go_upto_region 1 with fail;have p:=Q6 w #[k,n,a,m,g] 30 (Ct lsn prev b kind Ac next y ok os z on f root B C es (.slice A E.length c) (.slice D F.length d)) 88 #[(),(),(),(),""] 30;obtain⟨T,q⟩:=Ee p;have U:T.heap.size=w.heap.size+3:=by rw[q];simp
  rw[← q]at p ⊢;have V:=Aa p.out.Ai;have X:=Aa p.out.Am;have Y:=Ap p.out.Am;clear q;go_upto_region 2 with fail;have H1:=Hq (show D6 w.heap.size w [(#[k,n,a,m,g],30),((Ct (a+1) prev b kind Ac next y ok os z on f root B C es (.slice A E.length c) (.slice D F.length d)),88),(#[(),(),(),(),""],30)] (T.setCell ⟨w.heap.size+1,0,none⟩ (.int .i64 (a+1)))from by have h:=p.out.set 1 0 (.int .i64 (a+1)) _ rfl;simpa using h);obtain⟨W1,L⟩:=ex (T.setCell ⟨w.heap.size+1,0,none⟩ (.int .i64 (a+1)));rw[← L]at H1 ⊢;clear L V X Y p U;have M:=Hq H1.out.Am
  go_upto_region 3 with(first
   |with_reducible refine lL M.out Da ?_
   |(go_at_call 254;(with_reducible refine(HP.out _ H1.out.below).mono ?_);rintro e w2 ⟨rfl,N⟩))
  have G:=Hq (H1.out.step N);clear N H1 M HP;have j:=Hq (show w2.heap[w.heap.size]? =some (.cells #[k,n,a,m,g] 30 (0,0))from by have h:=G.out.Ai;simpa using h)
  go_wp2_with(first
   |with_reducible refine lL j.out Fi ?_
   |with_reducible refine lS #[k,n,a,m,g] G.out.Cj ?_)
  refine rT3 () (.int .i64 1) G.out.Cj Fi ?_;rw[HO.out];exact⟨rfl,(G.out.row 2 _ _ rfl).below⟩
end Go.Proofs.YtmldoihahndcgaaGreatDoor
namespace Lg
theorem Lm {d:Dk}{a:Int}{b:ByteArray}(h: -9223372036854775808≤d.left∧d.left≤9223372036854775807): -9223372036854775808≤(Bz d a b).1.left∧(Bz d a b).1.left≤9223372036854775807:=by
 unfold Bz
 split
 ·exact h
 split
 ·exact h
 split
 ·exact h
 ·show _≤(if 0<d.left then d.left-1 else d.left)∧(if 0<d.left then d.left-1 else d.left)≤_
  split<;>omega
theorem bZ {d:Dk}{a:Int}{b:ByteArray}:(Bz d a b).1.sectors.length=d.sectors.length:=by
 unfold Bz
 split
 ·rfl
 split
 ·rfl
 split
 ·rfl
 ·simp
theorem O4 {base:Int}{all:List ByteArray}{k:Nat}{d d2:Dk}(a:Bz d (base+(k:Int)) (all[k]?.getD ⟨#[]⟩)=(d2,0)):Cd base all (k+1) d=Cd base all k d2:=by
 conv=>lhs;unfold Cd
 rw[a,if_pos rfl]
theorem Ln {base:Int}{all:List ByteArray}{k:Nat}{d d2:Dk}{e:Int}(a:e≠0)(b:Bz d (base+(k:Int)) (all[k]?.getD ⟨#[]⟩)=(d2,e)):Cd base all (k+1) d=(d2,e):=by
 unfold Cd;rw[b,if_neg a]
theorem R3 {d:Dk}{l:Lo}(h:l.safe=l.end_):Az d l=(d,l,0):=by unfold Az;rw[if_pos h]
theorem R4 {d d2:Dk}{l:Lo}{e:Int}(h:¬ l.safe=l.end_)(a:e≠0)(b:Cd (l.from_+Fe l) (F7 l) (F7 l).length d=(d2,e)):Az d l=(d2,l,e):=by
 unfold Az;rw[if_neg h];simp only[b];rw[if_neg a]
theorem Uf {d d2:Dk}{l:Lo}(h:¬ l.safe=l.end_)(a:Cd (l.from_+Fe l) (F7 l) (F7 l).length d=(d2,0)):Az d l=(d2,Il l,0):=by
 unfold Az;rw[if_neg h];simp only[a];rw[if_pos trivial]
theorem mR (l:Lo):(F7 l).length≤l.tail.size/128+2:=by
 unfold F7;have:=Hz l.tail
 split
 ·rw[List.length_append,List.length_singleton];omega
 ·omega
end Lg
namespace Go.Proofs.YtmldoihahndcgaaGreatDoor
open Go.RowKit
def Fj (x:Lg.Dk×Lg.Lo×Int)(A:Option Addr)(w:World)(e:Ending)(w':World):Prop:=
 ∃ A' c',e= .returned (.tuple #[Cv x.1 A' c',Kv x.2.1,x.2.2])∧Ca w' x.1 A' c'∧(A'=A∨Cp w.heap.size w' 9 A')∧Bw w w'
theorem cA (L:List ByteArray)(left:Int)(down:Bool)(A:Option Addr)(c:Nat)(fr n a:Int)(d:ByteArray)(o:Lg.Dk×Lg.Lo×Int)(q:o=(⟨L,left,down⟩,⟨fr,n,a,a,d⟩,0))(w:World)(h:Ca w ⟨L,left,down⟩ A c):
 Cq 230 #[.agg #[.slice A L.length c,left,down],.agg #[fr,n,a,a,d]] w (Fj o A w):=by
 have s:=Hq (fun w' (r:Bw w w')=>show Fj o A w (.returned (.tuple #[.agg #[.slice A L.length c,left,down],.agg #[fr,n,a,a,d],()])) w' from by
  subst q;exact⟨A,c,rfl,⟨h.secs.below r,h.small⟩,.inl rfl,r⟩)
 have e:(a==a)=true:=by simp
 clear q h;go_enter Tryz.func230,Tryz.ntmps230;go_upto_region 1 with fail;have j:=tU w #[.slice A L.length c,left,down] 28 #[fr,n,a,a,d] 30 #['s',(),false] 28 #[(),(),(),(),""] 30;have m:((((w.alloc (.cells #[.slice A L.length c,left,down] 28)).alloc (.cells #[fr,n,a,a,d] 30)).alloc (.cells #['s',(),false] 28)).alloc (.cells #[(),(),(),(),""] 30)).heap.size=w.heap.size+4:=by simp
 obtain⟨t,f⟩:=Ee j;rw[← f]at j m ⊢;clear f;have p:=Aa j.out.Am;go_upto_region 2 with fail;clear p e;have k:=Hq j.out.drew;refine Gd (S:=(fun u=>u.heap[w.heap.size]? =some (.cells #[.slice A L.length c,left,down] 28 (0,0))∧u.heap[w.heap.size+1]? =some (.cells #[fr,n,a,a,d] 30 (0,0)))) (fun b=>?_) ⟨(k.out.Ai),(k.out.Am)⟩;refine Au 0 ?_;refine Au 1 ?_;refine Ch 2 fun K g=>?_;refine Ay (by rfl) ?_;refine sW #[.slice A L.length c,left,down] k.out.Cj ?_;have l:=Hq (k.out.row 2 #[.slice A L.length c,left,down] _ rfl);have hSn:=And.intro (l.out.Ai) (l.out.Am);refine Bq g (fun b=>?_);clear g K
 try simp only[Act.put]
 refine Ch 3 fun K g=>?_;refine Ay (by rfl) ?_;refine sW #[fr,n,a,a,d] l.out.g3 ?_;have i:=Hq (l.out.row 3 #[fr,n,a,a,d] _ rfl);clear hSn;have hSn:=And.intro (i.out.Ai) (i.out.Am);refine Bq g (fun b=>?_);clear g K
 try simp only[Act.put]
 refine Au 4 ?_;refine wpAnyH_done Kr ?_ _;clear b hSn;go_wp2_with fail;refine bodyPost_ret (v:=.tuple #[.agg #[.slice A L.length c,left,down],.agg #[fr,n,a,a,d],()]) (Et rfl _ _ rfl rfl (Ci i.out.Cj Cu Kr Kr) (Ci i.out.g3 Fi Kr Kr) rfl) rfl ?_;exact s.out _ i.out.below
theorem mS (d:Lg.Dk)(ck: -9223372036854775808≤d.left∧d.left≤9223372036854775807)(A:Option Addr)(c:Nat)(fr n l H:Int)(a:ByteArray)(b4:¬ H=l)(ek:0≤l)(du:l≤1000000000)(_hn0: -1000000000≤n)(_hn1:n≤1000000000)(eo: -1000000000≤fr)(ep:fr≤1000000000)(ht:a.size≤1000000)(er:(a.size:Int)≤l)(cm:l%128≤(a.size:Int))(w:World)(h:Ca w d A c):
 Cq 230 #[.agg #[.slice A d.sectors.length c,d.left,d.down],.agg #[fr,n,l,H,a]] w (Fj (Lg.Az d ⟨fr,n,l,H,a⟩) A w):=by
 have ag:=Hq (fun d2 e (he:e≠0) hp=> @Lg.R4 d d2 ⟨fr,n,l,H,a⟩ e b4 he hp);have ah:=Hq (fun d2 hp=> @Lg.Uf d d2 ⟨fr,n,l,H,a⟩ b4 hp);have HO:=Hq (fun A' c' w' x (hx:Lg.Az d ⟨fr,n,l,H,a⟩=x) (h1:Ca w' x.1 A' c') (h2:A'=A∨Cp w.heap.size w' 9 A') (h3:Bw w w')=>show Fj (Lg.Az d ⟨fr,n,l,H,a⟩) A w (.returned (.tuple #[Cv x.1 A' c',Kv x.2.1,x.2.2])) w' from⟨A',c',by rw[hx],by rw[hx];exact h1,h2,h3⟩);have bp:=Lg.mR ⟨fr,n,l,H,a⟩;have cn:=Lg.Hz a;have ai:=Hq (fun W=>pL a ht W);obtain⟨C,hC⟩:=ex (Lg.Hb a);obtain⟨all,aj⟩:=ex (Lg.F7 ⟨fr,n,l,H,a⟩);have N:=Hq (show all=if(l-(a.size:Int))/128+(C.length:Int)<n then C++[Lg.Cf]else C from by rw[aj,hC];rfl);rw[← aj]at ag ah bp;rw[← hC]at ai cn;have ak:Lg.Fe ⟨fr,n,l,H,a⟩=(l-(a.size:Int))/128:=rfl;rw[ak]at ag ah;generalize Lg.Az d ⟨fr,n,l,H,a⟩=o at ag ah HO ⊢;generalize Fj o A w=Q at HO ⊢;have an:Hid (∀ W,Cr 132 #[.string ⟨#[0]⟩,.int .i64 128] W (.string Lg.Cf)):=Hq (fun W=>by
  have h1:=Tryz.strings_Repeat ⟨#[0]⟩ 128 W (by omega) (by show 1*128≤_;omega);have e:(⟨(Lib.repeatL (⟨#[0]⟩:ByteArray).data.toList 128).toArray⟩:ByteArray)=Lg.Cf:=Lg.Jg 128;rw[e]at h1;exact h1)
 have bq:=Lg.Ku;have cp:∀ b∈all,b.size=128:=by
  rw[N.out,hC];intro b hb
  split at hb
  ·rcases List.mem_append.1 hb with h1|h1
   ·exact Lg.Md a b h1
   ·rw[List.mem_singleton.1 h1];exact bq
  ·exact Lg.Md a b hb
 have dv:=Hq cp;generalize Lg.Cf=z at an N bq;have HR:=Hq h;have cq:(H==l)=false:=by simpa using b4
 have dw:C.length≤10000:=by omega
 have dx:all.length≤10000:=by simp only at bp;omega
 have dy:=Hq ck;obtain⟨F,hF⟩:=ex ((l-(a.size:Int))/128:Int);have et:0≤F:=by omega
 have eu:F≤10000000:=by omega
 have dz:0≤l-(a.size:Int):=by omega
 have e0:IntKind.i64.wrap (l-(a.size:Int))=l-(a.size:Int):=IntWalk.i64_in _ (by omega);have e1:=Hq hF;rw[← hF]at ag ah N;clear h b4 hC aj bp cn ak cp bq ck;go_enter Tryz.func230,Tryz.ntmps230;go_upto_region 1 with fail;have H0:=tU w #[.slice A d.sectors.length c,d.left,d.down] 28 #[fr,n,l,H,a] 30 #['s',(),false] 28 #[(),(),(),(),""] 30;have cr:((((w.alloc (.cells #[.slice A d.sectors.length c,d.left,d.down] 28)).alloc (.cells #[fr,n,l,H,a] 30)).alloc (.cells #['s',(),false] 28)).alloc (.cells #[(),(),(),(),""] 30)).heap.size=w.heap.size+4:=by simp
 obtain⟨W0,ct⟩:=Ee H0;rw[← ct]at H0 cr ⊢;clear ct;have ao:=Aa H0.out.Am;go_upto_region 4 with fail;rw[← e1.out];clear hF dz e0 cq
 go_upto_region 5 with(go_at_call 283;(with_reducible refine(ai.out _).mono ?_);rintro e w1 ⟨v8,rfl,aa,b5⟩;obtain⟨A8,c8,rfl⟩:=Kh aa;have ao:=Aa ((H0.out.step b5).get 1 _ rfl))
 have H1:=Hq (H0.out.step b5);have br:=Hq (Nn aa (show w.heap.size+4≤W0.heap.size by omega));have bs:w.heap.size+4≤w1.heap.size:=by have:=b5.size;omega
 clear aa b5 ai H0 cr;have e2:IntKind.i64.wrap (F+(C.length:Int))=F+(C.length:Int):=IntWalk.i64_in _ (by omega);go_upto_if 35 with fail
 go_cut [8] (fun s8 wc=>∃ A8 c8,s8= .slice A8 all.length c8∧En I1 1 9 (w.heap.size+4) wc (.slice A8 all.length c8) all∧D6 w.heap.size w [(#[.slice A d.sectors.length c,d.left,d.down],28),(#[fr,n,l,H,a],30),(#['s',(),false],28),(#[(),(),(),(),""],30)] wc)
 case first=>
  by_cases bg:F+(C.length:Int)<n
  ·have aq:all=C++[z]:=by rw[N.out,if_pos bg]
   have R:=Hq aq;clear aq
   go_wp2_with(first
    |(go_at_call 132;(with_reducible refine(an.out _).mono ?_);rintro e w2 ⟨rfl,b6⟩;have H2:=Hq (H1.out.step b6);have e4:=Hq (Db br.out b6);have V:=Hq b6;clear b6)
    |(at_builtin;refine Jc Kr (.tmp 36) (.tmp 38) 26 9 Q3 Ll rfl (by omega) (by omega) rfl (w.heap.size+4) _ C.length (C.flatMap I1) rfl (Db e4.out (Ab _ _)) w2.heap.size (I1 z) 9 rfl (heap_alloc_new w2 _) rfl (by simp[I1,Value.oneCell']) (by omega) (by have:=V.out.size;simp;omega) ?_;intro v7 w7 ho hg hb;obtain⟨A7,c7,rfl⟩:=Kh ho;have H7:=Hq ((H2.out.step (Ab w2 (.cells #[z] 9))).under (M:=w.heap.size+4) (Nat.le_refl _) hb);have ar:=Hq (En.push (enc:=I1) (x:=z) ho);have b7:=Hq hg;clear ho hg hb))
   go_meet
   case rel=>
    refine⟨A7,c7,?_,?_,H7.out⟩
    ·rw[R.out,List.length_append];rfl
    ·have h7:=ar.out
     have e7:(C++[z]).length=C.length+1:=(by simp);rw[R.out,e7];exact h7
  ·have aq:all=C:=by rw[N.out,if_neg bg]
   have R:=Hq aq;clear aq;go_wp2_with fail;go_meet
   case rel=>
    refine⟨A8,c8,?_,?_,H1.out⟩
    ·rw[R.out]
    ·rw[R.out];exact br.out
 case rest=>
  obtain⟨A8,c8,rfl,aa,au⟩:=hcut;obtain⟨wa,rfl⟩:=ex wc;have cu:=Hq aa;have bt:=Hq au;clear aa au br H1 N an bs e2 dw;have cv:IntKind.i64.wrap ((all.length:Int)-1)=(all.length:Int)-1:=IntWalk.i64_in _ (by omega);go_wp2_with fail
  go_loopw [9] (fun i wr=>∃ (x:Int) (d2:Lg.Dk) (U:Option Addr) (c2:Nat),i= .int .i64 x∧-1≤x∧x<all.length∧Lg.Cd (fr+F) all all.length d=Lg.Cd (fr+F) all (x+1).toNat d2∧D6 w.heap.size w [(#[.slice U d2.sectors.length c2,d2.left,d2.down],28),(#[fr,n,l,H,a],30),(#['s',(),false],28),(#[(),(),(),(),""],30)] wr∧Ca wr d2 U c2∧(U=A∨Cp (w.heap.size+4) wr 9 U)∧(-9223372036854775808≤d2.left∧d2.left≤9223372036854775807)∧d2.sectors.length=d.sectors.length∧En I1 1 9 (w.heap.size+4) wr (.slice A8 all.length c8) all) (fun i _=>(intOf i+1).toNat)
  case atStart=>exact⟨(all.length:Int)-1,d,A,c,rfl,by omega,by omega,by rw[show((all.length:Int)-1+1).toNat=all.length by omega],bt.out,⟨HR.out.secs.below bt.out.below,HR.out.small⟩,.inl rfl,dy.out,rfl,cu.out⟩
  case round=>
   obtain⟨x,d2,U,c2,rfl,e5,e6,bh,au,cw,cx,bj,bk,bl⟩:=hrel;have a6:=Hq bh;have ae:=Hq au;have av:=Hq cw;have aw:=Hq cx;have bu:=Hq bl;have bw:=Hq bk;have bm:=Hq bj;have bn:=Hq (show 0<d2.sectors.length→∀ P,U=some P→P.block<w.heap.size∨w.heap.size+4≤P.block from fun h0 P e=>by
    rcases aw.out with h1|h1
    ·rw[h1]at e
     exact .inl (HR.out.secs.Cs (by rw[← bw.out];exact h0) P e)
    ·exact .inr (h1 P e).1)
   clear bh au cw cx bl bk bj bt cu
   by_cases h0:x= -1
   ·subst h0
    have ax:=Hq (ah.out d2 (a6.out.trans rfl));clear e5 e6 cv;obtain⟨m,hm⟩:=Int.eq_ofNat_of_zero_le (show 0≤l%128 by omega);have e8:(m:Int)≤(a.size:Int):=(by omega);have e9:IntKind.i64.wrap ((a.size:Int)-(m:Int))=(a.size:Int)-(m:Int):=IntWalk.i64_in _ (by omega);have ea:(0:Int)≤(a.size:Int)-(m:Int):=(by omega);have eb:(a.size:Int)-(m:Int)≤(a.size:Int):=(by omega);have ec:((a.size:Int)-(m:Int)).toNat=a.size-m:=(by omega);have cy:=Hq (show Lg.Il ⟨fr,n,l,H,a⟩=⟨fr,n,l,l,a.extract (a.size-m) a.size⟩from by
     unfold Lg.Il;simp only[hm,Int.toNat_natCast])
    have ao:=Aa ae.out.Am;have bx:=Ap ae.out.Am;go_upto_region 15 with fail;have V:=Hq (show D6 w.heap.size w [(#[.slice U d2.sectors.length c2,d2.left,d2.down],28),(#[fr,n,l,l,a],30),(#['s',(),false],28),(#[(),(),(),(),""],30)] (wr.setCell ⟨w.heap.size+1,3,none⟩ (.int .i64 l))from by have h:=ae.out.set 1 3 (.int .i64 l) _ rfl;simpa using h);have ay:=Hq ((Ev.refl w.heap.size (w.heap.size+4) wr).cell (w.heap.size+1) 3 (.int .i64 l) (by omega) (by omega));obtain⟨W2,cz⟩:=ex (wr.setCell ⟨w.heap.size+1,3,none⟩ (.int .i64 l));rw[← cz]at V ay ⊢;clear cz ao bx;have ao:=Aa V.out.Am;have bx:=Ap V.out.Am;go_upto_region 16 with fail;have X:=Hq (show D6 w.heap.size w [(#[.slice U d2.sectors.length c2,d2.left,d2.down],28),(#[fr,n,l,l,.string (a.extract (a.size-m) a.size)],30),(#['s',(),false],28),(#[(),(),(),(),""],30)] (W2.setCell ⟨w.heap.size+1,4,none⟩ (.string (a.extract (a.size-m) a.size)))from by have h:=V.out.set 1 4 (.string (a.extract (a.size-m) a.size)) _ rfl;simpa using h);have az:=Hq (ay.out.cell (w.heap.size+1) 4 (.string (a.extract (a.size-m) a.size)) (by omega) (by omega));obtain⟨W3,da⟩:=ex (W2.setCell ⟨w.heap.size+1,4,none⟩ (.string (a.extract (a.size-m) a.size)));rw[← da]at X az ⊢;clear da ao bx e8 e9 ea eb ec hm V ay;obtain⟨b0,bo⟩:=ex (a.extract (a.size-m) a.size);rw[← bo]at X cy;clear bo cm;have HD:=Hq X.out.drew;refine Gd (S:=(fun u=>u.heap[w.heap.size]? =some (.cells #[.slice U d2.sectors.length c2,d2.left,d2.down] 28 (0,0))∧u.heap[w.heap.size+1]? =some (.cells #[fr,n,l,l,b0] 30 (0,0)))) (fun f=>?_) ⟨(HD.out.Ai),(HD.out.Am)⟩;refine Au 0 ?_;refine Au 1 ?_;refine Ch 2 fun K D=>?_;refine Ay (by rfl) ?_;refine sW #[.slice U d2.sectors.length c2,d2.left,d2.down] HD.out.Cj ?_;have HE:=Hq (HD.out.row 2 #[.slice U d2.sectors.length c2,d2.left,d2.down] _ rfl);have hSn:=And.intro (HE.out.Ai) (HE.out.Am);refine Bq D (fun f=>?_);clear D K
    try simp only[Act.put]
    refine Ch 3 fun K D=>?_;refine Ay (by rfl) ?_;refine sW #[fr,n,l,l,b0] HE.out.g3 ?_;have HG:=Hq (HE.out.row 3 #[fr,n,l,l,b0] _ rfl);clear hSn;have hSn:=And.intro (HG.out.Ai) (HG.out.Am);refine Bq D (fun f=>?_);clear D K
    try simp only[Act.put]
    refine Au 4 ?_;refine wpAnyH_done Kr ?_ _;clear f hSn;go_wp2_with fail;refine bodyPost_ret (v:=.tuple #[.agg #[.slice U d2.sectors.length c2,d2.left,d2.down],.agg #[fr,n,l,l,b0],()]) (Et rfl _ _ rfl rfl (Ci HG.out.Cj Cu Kr Kr) (Ci HG.out.g3 Fi Kr Kr) rfl) rfl ?_;exact HO.out U c2 _ (d2,⟨fr,n,l,l,b0⟩,0) (ax.out.trans (by rw[cy.out])) ⟨av.out.secs.apart (((az.out.drew).row _ _ (by omega) (by omega)).row _ _ (by omega) (by omega)) bn.out,av.out.small⟩ (aw.out.imp id (fun h=>(h.apart (lo:=w.heap.size) (hi:=w.heap.size+4) (((az.out.drew).row _ _ (by omega) (by omega)).row _ _ (by omega) (by omega)) (Nat.le_refl _)).mono (by omega))) HG.out.below
   ·obtain⟨k,rfl⟩:=Int.eq_ofNat_of_zero_le (show 0≤x by omega)
    have b8:k<all.length:=(by omega);have ew:(k:Int)<(all.length:Int):=(by omega);have ey:(0:Int)≤(k:Int):=(by omega);obtain⟨g8,cap,hv,ez,b9,ej,J,-,-⟩:=lD bu.out b8
    injection hv with ed fa ee
    subst ed ee;rw[J3,List.getElem?_map,List.getElem?_eq_getElem b8]at J;simp only[Option.map_some]at J;have db:=dv.out all[k] (List.getElem_mem b8);have HY:=Hq (show all[k]?.getD ⟨#[]⟩=all[k] by rw[List.getElem?_eq_getElem b8];rfl);generalize all[k]=y at J db HY;have s:=Hq J;rw[show((k:Int)+1).toNat=k+1 by omega]at a6;have ba:=Hq (fun W hW=>Rz d2 bm.out U c2 (fr+F+(k:Int)) y W hW);have a7:= @Lg.Lm d2 (fr+F+(k:Int)) y bm.out;have bb:= @Lg.bZ d2 (fr+F+(k:Int)) y;rcases hx:Lg.Bz d2 (fr+F+(k:Int)) y with⟨d3,e3⟩;have bz:=Hq (fun(he:e3=0)=>Lg.O4 (base:=fr+F) (all:=all) (k:=k) (d:=d2) (d2:=d3) (by rw[HY.out,hx,he]));have b1:=Hq (fun(he:e3≠0)=>Lg.Ln (base:=fr+F) (all:=all) (k:=k) (d:=d2) (d2:=d3) he (by rw[HY.out,hx]));rw[hx]at ba a7 bb;simp only at a7 bb;have c6:=Hq (bb.trans bw.out);have ef:=Hq a7;clear hx a7 bb J db h0 cv;have bs:IntKind.i64.wrap (fr+F)=fr+F:=IntWalk.i64_in _ (by omega);have eg:IntKind.i64.wrap (fr+F+(k:Int))=fr+F+(k:Int):=IntWalk.i64_in _ (by omega);go_upto_region 10 with fail
    go_cut [10,11] (fun p q wc=>∃ (g:Nat) (r:Option Addr) (c3:Nat),p= .pointer (some ⟨g,0,none⟩)∧q= .int .i64 e3∧D6 w.heap.size w [(#[.slice U d2.sectors.length c2,d2.left,d2.down],28),(#[fr,n,l,H,a],30),(#['s',(),false],28),(#[(),(),(),(),""],30)] wc∧w.heap.size+4≤g∧wc.heap[g]? =some (.cells #[.slice r d3.sectors.length c3,d3.left,d3.down] 28 (0,0))∧Ca wc d3 r c3∧(r=A∨Cp (w.heap.size+4) wc 9 r)∧En I1 1 9 (w.heap.size+4) wc (.slice (some ⟨g8,0,none⟩) all.length c8) all)
    case first=>
     have t:=Hq ae.out.drew;have dc:=Hq (Db bu.out (Below.refl _ wr).drew);have dd:=Hq (av.out.below (Below.refl _ wr).drew);have fb:=ae.out.lt (i:=3) (by simp);have fc:wr.heap.size≤wr.drew.heap.size:=Nat.le_refl _;refine Gd (S:=(fun u=>u.heap[w.heap.size]? =some (.cells #[.slice U d2.sectors.length c2,d2.left,d2.down] 28 (0,0))∧u.heap[w.heap.size+1]? =some (.cells #[fr,n,l,H,a] 30 (0,0))∧u.cell? ⟨g8,k,none⟩=some (.string y))) (fun f=>?_) (by first|exact hSn|exact⟨t.out.Ai,t.out.Am,s.out⟩);refine Nj 0 (some 48) (v:=?_) rfl ?_ (Nj 1 (some 49) (v:=?_) rfl ?_ (Nj 2 (some 50) (v:=?_) rfl ?_ (Nj 3 (some 51) (v:=?_) rfl ?_ (Nj 4 (some 52) (v:=?_) rfl ?_ (Nj 5 (some 53) (v:=?_) rfl ?_ (Nj 6 (some 54) (v:=?_) rfl ?_ (Nj 7 (some 55) (v:=?_) rfl ?_ (Nj 8 (some 56) (v:=?_) rfl ?_ (Nj 9 (some 57) (v:=?_) rfl ?_ (Nj 10 (some 58) (v:=?_) rfl ?_ ?_))))))))))
     iterate 11 (rotate_left;focus(intro u O;obtain⟨E,G,bc⟩:=O;have E:=Aa E;have G:=Aa G;go_simp;(try with_reducible rfl)))
     try simp only[Act.put,pS]
     refine wpAnyH_ready (rs:=[11,15]) Kr (by simp) ?_;refine(AllReadyH.cons (o:={dst:=some 59,op:=_,type:=_,pos:=_,after:=_,guard:=_}) rfl (fun K D=>?_) (AllReadyH.cons (o:={dst:=some 10,op:=_,type:=_,pos:=_,after:=_,guard:=_}) rfl (fun K D=>?_) AllReadyH.nil))
     ·
      go_simp
      refine(ba.out _ dd.out).mono ?_;rintro e B ⟨r,c3,rfl,T,Y,I⟩;have Z:=Hq (t.out.step I);have bd:=Hq (Db dc.out I);have b2:=(I.cell (p:=⟨g8,k,none⟩) (by first|exact b9|(simp;omega))).trans s.out;have hSn:=And.intro Z.out.Ai (And.intro Z.out.Am b2);refine Bq D (fun f=>?_) (by first|exact hSn|exact⟨t.out.Ai,t.out.Am,s.out⟩);clear D K;refine Nj 12 (some 47) (v:=?_) rfl ?_ (Nj 13 (some 60) (v:=?_) rfl ?_ (Nj 14 (some 61) (v:=?_) rfl ?_ ?_))
      iterate 3 (rotate_left;focus(intro u O;obtain⟨E,G,bc⟩:=O;have E:=Aa E;have G:=Aa G;go_simp;(try with_reducible rfl)))
      try simp only[Act.put,pS]
      refine Ch 15 fun K D=>?_
      go_simp
      have ca:=Hq (Z.out.step (Ab B (.cells #['s',(),false] 28)));have de:=Hq (Db bd.out (Ab B (.cells #['s',(),false] 28)));have df:=T.below (Ab B (.cells #['s',(),false] 28));have dh:=((Ab B (.cells #['s',(),false] 28)).cell (p:=⟨g8,k,none⟩) (Nat.lt_of_lt_of_le b9 I.size)).trans b2;have L:=heap_alloc_new B (.cells #['s',(),false] 28);clear hSn;have hSn:=And.intro ca.out.Ai (And.intro ca.out.Am dh);refine Bq D (fun f=>?_) (by first|exact hSn|exact⟨t.out.Ai,t.out.Am,s.out⟩);clear D K;refine Ch 16 fun K D=>?_;refine Ay (by rfl) ?_;refine sW #[.slice r d3.sectors.length c3,d3.left,d3.down] L ?_;have af:w.heap.size+4≤B.heap.size:=(by have:=I.size;omega);have b3:=Hq ((Ev.refl B.heap.size (B.heap.size+1) (B.alloc (.cells #['s',(),false] 28))).row B.heap.size #[.slice r d3.sectors.length c3,d3.left,d3.down] (Nat.le_refl _) (Nat.lt_succ_self _));have a1:=Hq (ca.out.under (M:=B.heap.size) (by show w.heap.size+4≤_;exact af) (show Below B.heap.size (B.alloc (.cells #['s',(),false] 28)) ((B.alloc (.cells #['s',(),false] 28)).setRow B.heap.size #[.slice r d3.sectors.length c3,d3.left,d3.down])from⟨rfl,rfl,rfl,b3.out.size,fun j hj=>Ah (B.alloc (.cells #['s',(),false] 28)) B.heap.size #[.slice r d3.sectors.length c3,d3.left,d3.down] j (by omega)⟩));have cb:Ca ((B.alloc (.cells #['s',(),false] 28)).setRow B.heap.size #[.slice r d3.sectors.length c3,d3.left,d3.down]) d3 r c3:=⟨df.secs.apart b3.out (fun h0 P e=>.inl (T.secs.Cs h0 P e)),df.small⟩;have b7:((B.alloc (.cells #['s',(),false] 28)).setRow B.heap.size #[.slice r d3.sectors.length c3,d3.left,d3.down]).heap[B.heap.size]? =some (.cells #[.slice r d3.sectors.length c3,d3.left,d3.down] 28 (0,0)):=setRow_heap _ _ _ _ _ _ L;have ar:=Xh de.out L (by decide) #[.slice r d3.sectors.length c3,d3.left,d3.down];have cc:=(Ou (cs:=#[.slice r d3.sectors.length c3,d3.left,d3.down]) dh L (eA de.out L (by decide)));clear hSn;have hSn:=And.intro a1.out.Ai (And.intro a1.out.Am cc);refine Bq D (fun f=>?_) (by first|exact hSn|exact⟨t.out.Ai,t.out.Am,s.out⟩);clear D K
      try simp only[Act.put]
      refine Au 17 ?_ (hy:=by intro u O;obtain⟨E,G,bc⟩:=O;have E:=Aa E;have G:=Aa G;go_simp;(try with_reducible rfl));refine wpAnyH_done Kr ?_ _;clear f hSn;go_wp2_with fail;go_meet
      case rel=>exact⟨_,r,c3,rfl,rfl,a1.out,af,b7,cb,(Y.elim (fun h1=>by rw[h1];exact aw.out.imp id (fun h2=>(((h2.below (Below.refl _ wr).drew).below I).below (Ab B (.cells #['s',(),false] 28))).row _ _)) (fun h1=>.inr (((h1.below (Ab B (.cells #['s',(),false] 28))).row _ _).mono (by first|(simp;omega)|omega)))),ar⟩
     ·
      go_simp
      have cd:=Hq (t.out.step (Ab wr.drew (.cells #['s',(),false] 28)));have eh:=Hq (Db dc.out (Ab wr.drew (.cells #['s',(),false] 28)));have ei:=Hq (dd.out.below (Ab wr.drew (.cells #['s',(),false] 28)));have di:=Hq (((Ab wr.drew (.cells #['s',(),false] 28)).cell (p:=⟨g8,k,none⟩) b9).trans s.out);have hSn:=And.intro cd.out.Ai (And.intro cd.out.Am di.out);refine Bq D (fun f=>?_) (by first|exact hSn|exact⟨t.out.Ai,t.out.Am,s.out⟩);clear D K;refine Ch 11 fun K D=>?_
      go_simp
      refine(ba.out _ ei.out).mono ?_;rintro e B ⟨r,c3,rfl,T,Y,I⟩;have Z:=Hq (cd.out.step I);have bd:=Hq (Db eh.out I);have b2:=(I.cell (p:=⟨g8,k,none⟩) (by first|exact b9|(simp;omega))).trans di.out;have hSn:=And.intro Z.out.Ai (And.intro Z.out.Am b2);have L:=Bo I;refine Bq D (fun f=>?_) (by first|exact hSn|exact⟨t.out.Ai,t.out.Am,s.out⟩);clear D K;refine Nj 12 (some 47) (v:=?_) rfl ?_ (Nj 13 (some 60) (v:=?_) rfl ?_ (Nj 14 (some 61) (v:=?_) rfl ?_ ?_))
      iterate 3 (rotate_left;focus(intro u O;obtain⟨E,G,bc⟩:=O;have E:=Aa E;have G:=Aa G;go_simp;(try with_reducible rfl)))
      try simp only[Act.put,pS]
      refine Ch 16 fun K D=>?_;refine Ay (by rfl) ?_;refine sW #[.slice r d3.sectors.length c3,d3.left,d3.down] L ?_;have af:w.heap.size+4≤wr.drew.heap.size:=(by omega);have b3:=Hq ((Ev.refl wr.drew.heap.size (wr.drew.heap.size+1) B).row wr.drew.heap.size #[.slice r d3.sectors.length c3,d3.left,d3.down] (Nat.le_refl _) (Nat.lt_succ_self _));have a1:=Hq (Z.out.under (M:=wr.drew.heap.size) (by show w.heap.size+4≤_;exact af) (show Below wr.drew.heap.size B (B.setRow wr.drew.heap.size #[.slice r d3.sectors.length c3,d3.left,d3.down])from⟨rfl,rfl,rfl,b3.out.size,fun j hj=>Ah B wr.drew.heap.size #[.slice r d3.sectors.length c3,d3.left,d3.down] j (by omega)⟩));have cb:Ca (B.setRow wr.drew.heap.size #[.slice r d3.sectors.length c3,d3.left,d3.down]) d3 r c3:=⟨T.secs.apart b3.out (fun h0 P e=>Y.elim (fun h1=>by rw[h1]at e;have:=av.out.secs.Cs (by rw[bw.out,← c6.out];exact h0) P e;left;exact this) (fun h1=>by have:=h1 P e;right;have:=this.1;simp at this ⊢;omega)),T.small⟩;have b7:(B.setRow wr.drew.heap.size #[.slice r d3.sectors.length c3,d3.left,d3.down]).heap[wr.drew.heap.size]? =some (.cells #[.slice r d3.sectors.length c3,d3.left,d3.down] 28 (0,0)):=setRow_heap _ _ _ _ _ _ L;have ar:=Xh bd.out L (by decide) #[.slice r d3.sectors.length c3,d3.left,d3.down];have cc:=(Ou (cs:=#[.slice r d3.sectors.length c3,d3.left,d3.down]) b2 L (eA bd.out L (by decide)));clear hSn;have hSn:=And.intro a1.out.Ai (And.intro a1.out.Am cc);refine Bq D (fun f=>?_) (by first|exact hSn|exact⟨t.out.Ai,t.out.Am,s.out⟩);clear D K
      try simp only[Act.put]
      refine Au 17 ?_ (hy:=by intro u O;obtain⟨E,G,bc⟩:=O;have E:=Aa E;have G:=Aa G;go_simp;(try with_reducible rfl));refine wpAnyH_done Kr ?_ _;clear f hSn;go_wp2_with fail;go_meet
      case rel=>exact⟨_,r,c3,rfl,rfl,a1.out,af,b7,cb,(Y.elim (fun h1=>by rw[h1];exact aw.out.imp id (fun h2=>(((h2.below (Below.refl _ wr).drew).below (Ab wr.drew (.cells #['s',(),false] 28))).below I).row _ _)) (fun h1=>.inr ((h1.row _ _).mono (by first|(simp;omega)|omega)))),ar⟩
    case rest=>
     obtain⟨g,r,c3,rfl,rfl,dj,af,dk,T,Y,dm⟩:=hcut;obtain⟨wb,rfl⟩:=ex wc;have X:=Hq dj;have dn:=Hq dk;have cf:=Hq T;have dp:=Hq dm;have dq:=Hq Y;have dr:=Hq (show 0<d3.sectors.length→∀ P,r=some P→P.block<w.heap.size∨w.heap.size+4≤P.block from fun h0 P e=>dq.out.elim (fun h1=>by rw[h1]at e;exact .inl (HR.out.secs.Cs (by rw[← c6.out];exact h0) P e)) (fun h1=>.inr (h1 P e).1));clear dj dk T dm Y ae bu av aw bn ba s bs eg
     go_upto_region 12 with(first
      |with_reducible refine lL dn.out Cu ?_
      |with_reducible refine lS #[.slice r d3.sectors.length c3,d3.left,d3.down] X.out.Ai ?_)
     have cg:=Hq (show D6 w.heap.size w [(#[.slice r d3.sectors.length c3,d3.left,d3.down],28),(#[fr,n,l,H,a],30),(#['s',(),false],28),(#[(),(),(),(),""],30)] (wb.setRow w.heap.size #[.slice r d3.sectors.length c3,d3.left,d3.down])from by have h:=X.out.row 0 #[.slice r d3.sectors.length c3,d3.left,d3.down] _ rfl;simpa using h);have a8:=Hq ((Ev.refl w.heap.size (w.heap.size+4) wb).row w.heap.size #[.slice r d3.sectors.length c3,d3.left,d3.down] (Nat.le_refl _) (by omega));have ds:=Hq (lC dp.out (Nat.le_refl _) a8.out);have bf:=Hq (show Ca (wb.setRow w.heap.size #[.slice r d3.sectors.length c3,d3.left,d3.down]) d3 r c3 from⟨cf.out.secs.apart a8.out dr.out,cf.out.small⟩);have cj:=Hq (dq.out.imp id (fun h=>h.row w.heap.size #[.slice r d3.sectors.length c3,d3.left,d3.down]));obtain⟨W4,dt⟩:=ex (wb.setRow w.heap.size #[.slice r d3.sectors.length c3,d3.left,d3.down]);rw[← dt]at cg a8 ds bf cj ⊢;clear dt X dn cf dp a8
     by_cases he:e3=0
     ·have HG:=Hq (a6.out.trans (bz.out he))
      subst he;clear bz b1;have fe:IntKind.i64.wrap ((k:Int)-1)=(k:Int)-1:=IntWalk.i64_in _ (by omega);go_wp2_with fail;go_roundw
      case rel=>exact⟨(k:Int)-1,d3,r,c3,rfl,by omega,by omega,by rw[show((k:Int)-1+1).toNat=k by omega];exact HG.out,cg.out,bf.out,cj.out,ef.out,c6.out,ds.out⟩
      case measure=>first|(simp[intOf];done)|(simp[intOf];omega)
     ·have ax:=Hq (ag.out d3 e3 he (a6.out.trans (b1.out he)))
      have du:(e3==0)=false:=(by simpa using he);have ff:(e3 != 0)=true:=(by simpa using he);clear bz b1 he;go_upto_region 13 with fail;have HD:=Hq cg.out.drew;refine Gd (S:=(fun u=>u.heap[w.heap.size]? =some (.cells #[.slice r d3.sectors.length c3,d3.left,d3.down] 28 (0,0))∧u.heap[w.heap.size+1]? =some (.cells #[fr,n,l,H,a] 30 (0,0)))) (fun f=>?_) ⟨(HD.out.Ai),(HD.out.Am)⟩;refine Au 0 ?_;refine Au 1 ?_;refine Au 2 ?_;refine Ch 3 fun K D=>?_;refine Ay (by rfl) ?_;refine sW #[.slice r d3.sectors.length c3,d3.left,d3.down] HD.out.Cj ?_;have HE:=Hq (HD.out.row 2 #[.slice r d3.sectors.length c3,d3.left,d3.down] _ rfl);have hSn:=And.intro (HE.out.Ai) (HE.out.Am);refine Bq D (fun f=>?_);clear D K
      try simp only[Act.put]
      refine Ch 4 fun K D=>?_;refine Ay (by rfl) ?_;refine sW #[fr,n,l,H,a] HE.out.g3 ?_;have HG:=Hq (HE.out.row 3 #[fr,n,l,H,a] _ rfl);clear hSn;have hSn:=And.intro (HG.out.Ai) (HG.out.Am);refine Bq D (fun f=>?_);clear D K
      try simp only[Act.put]
      refine Au 5 ?_;refine wpAnyH_done Kr ?_ _;clear f hSn;go_wp2_with fail;refine bodyPost_ret (v:=.tuple #[.agg #[.slice r d3.sectors.length c3,d3.left,d3.down],.agg #[fr,n,l,H,a],e3]) (Et rfl _ _ rfl rfl (Ci HG.out.Cj Cu Kr Kr) (Ci HG.out.g3 Fi Kr Kr) rfl) rfl ?_;exact HO.out r c3 _ (d3,⟨fr,n,l,H,a⟩,e3) ax.out ⟨bf.out.secs.apart (((Ev.refl _ _ _).drew.row _ _ (by omega) (by omega)).row _ _ (by omega) (by omega)) dr.out,bf.out.small⟩ (cj.out.imp id (fun h=>(h.apart (lo:=w.heap.size) (hi:=w.heap.size+4) (((Ev.refl _ _ _).drew.row _ _ (by omega) (by omega)).row _ _ (by omega) (by omega)) (Nat.le_refl _)).mono (by omega))) HG.out.below
theorem iC (d:Lg.Dk)(e: -9223372036854775808≤d.left∧d.left≤9223372036854775807)(A:Option Addr)(c:Nat)(l:Lg.Lo)(f:0≤l.end_)(g:l.end_≤1000000000)(i: -1000000000≤l.n)(j:l.n≤1000000000)(k: -1000000000≤l.from_)(m:l.from_≤1000000000)(t:l.tail.size≤1000000)(o:(l.tail.size:Int)≤l.end_)(a:l.end_%128≤(l.tail.size:Int))(w:World)(h:Ca w d A c):
 Cq 230 #[Cv d A c,Kv l] w (Fj (Lg.Az d l) A w):=by
 obtain⟨q,n,r,p,s⟩:=l
 by_cases b:p=r
 ·subst b
  exact cA d.sectors d.left d.down A c q n p s _ (Lg.R3 rfl) w h
 ·exact mS d e A c q n r p s b f g i j k m t o a w h
end Go.Proofs.YtmldoihahndcgaaGreatDoor
