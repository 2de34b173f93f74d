import Derived.Test.YtmldoihahndcgaaGreatDoorHq00
import Derived.Test.YtmldoihahndcgaaGreatDoorHq04
import Derived.Test.YtmldoihahndcgaaGreatDoorHq01
import Derived.BigRegion
import Derived.Test.YtmldoihahndcgaaGreatDoorHq05
import Derived.Deep.RegionWith
set_option maxRecDepth 100000
set_option maxHeartbeats 16000000
set_option linter.unusedSimpArgs false
namespace Rc
theorem R8 (s:ByteArray):(t s).length=2+s.size:=by
 unfold t;rw[List.length_append,Bf];simp
theorem Mh {o:Op}(h:Iv o):(Mw o).length≤1031:=by
 obtain⟨_,_,_,a,b⟩:=h;unfold Mw;simp only[List.length_append,Bf,R8];omega
theorem Di {α:Type}(f:α→List UInt8)(k:Nat)(a:∀ x,(f x).length=k):∀ l:List α,(l.flatMap f).length=l.length*k:=by
 intro l
 induction l with
 |nil=>simp
 |cons x l ih=>rw[List.flatMap_cons,List.length_append,a,ih,List.length_cons,Nat.add_mul];omega
theorem mF (x:Ci):(pU x).length=19:=by
 unfold pU;simp only[List.length_append,Bf]
theorem bJ (x:C9):(Vw x).length=9:=by
 unfold Vw;simp only[List.length_append,Bf]
theorem Ul (r:Rec):(Ji r).length=19:=by
 unfold Ji;simp only[List.length_append,Bf]
theorem bK {r:Rec}(h:Rz r):(Vx r).length≤37010:=by
 obtain⟨a,b,_⟩:=h;unfold Vx;simp only[List.length_append,Bf,Di pU 19 mF,Di Vw 9 bJ];omega
theorem Mi {r:Rec}(h:Cv r):19≤(Eu r).length∧(Eu r).length≤40000:=by
 unfold Eu;rw[List.length_append,Ul];refine⟨by omega,?_⟩
 cases h with
 |small kind a prev b t f g i=>
  have l:G7 (bare kind a prev b)=[]:=by
   unfold G7 bare;simp only;rw[if_neg (by omega),if_neg (by omega),if_neg (by omega),if_neg (by omega),if_neg (by omega)]
  rw[l];simp
 |change a prev b c op j root e f g i m d o=>
  rw[Oa rfl];have q:=Mh d;have u:(M4 ⟨a,prev,b,2,c,0,0,op,j,root,e,[],[]⟩).length≤200:=by
   unfold M4;rcases o with⟨k,_⟩|⟨k,v,w,s,p⟩
   ·simp only at k;subst k;simp
   ·simp only at k p
    rw[if_neg (show ¬ j=1 by omega)];simp only[List.length_append,Bf,R8];omega
  simp only[List.length_append,Bf];omega
 |clr a prev b c op next f g i m d o=>
  rw[Q8 rfl];have q:=Mh d;simp only[List.length_append,Bf];omega
 |nest a prev b next f g i o=>
  rw[eF rfl];simp only[Bf];omega
 |image a prev b c op f g i m d=>
  rw[Q9 rfl];have q:=Mh d;simp only[List.length_append,Bf];omega
 |check a prev b n ts ds f g i m d=>
  rw[pV rfl];have:=bK d;omega
end Rc
namespace Lg
open Rc
def Ei (r:Rec):List UInt8:=Oct.Bn (Eu r).length 4++(Oct.Bn (Oct.Gy (Eu r)) 4++Eu r)
theorem Lt (r:Rec):(Ei r).length=8+(Eu r).length:=by
 unfold Ei;simp only[List.length_append,Oct.Be];omega
def V1 (s:List UInt8)(a:Nat):List UInt8:=(s.drop (a+8)).take (Oct.Dv s a 4)
def Is (s:List UInt8)(a:Nat):Prop:=
 a+8+Oct.Dv s a 4≤s.length∧Oct.Dv s (a+4) 4=Oct.Gy (V1 s a)∧Cv (sQ true (V1 s a))∧Eu (sQ true (V1 s a))=V1 s a
def Row (a:Nat):List Rec→Prop
 |[]=>True
 |r::l=>Cv r∧r.lsn=(a:Int)+1∧Row (a+(Ei r).length) l
def bytes (l:List Rec):List UInt8:=l.flatMap Ei
theorem R9 (r:Rec)(l:List Rec):bytes (r::l)=Ei r++bytes l:=rfl
theorem Ob (l m:List Rec):bytes (l++m)=bytes l++bytes m:=List.flatMap_append
theorem bL {a:Nat}{l m:List Rec}:Row a (l++m)↔Row a l∧Row (a+(bytes l).length) m:=by
 induction l generalizing a with
 |nil=>simp[Row,bytes]
 |cons r l ih=>
  show(Cv r∧r.lsn=(a:Int)+1∧Row (a+(Ei r).length) (l++m))↔(Cv r∧r.lsn=(a:Int)+1∧Row (a+(Ei r).length) l)∧_
  rw[ih,R9,List.length_append,Nat.add_assoc]
  constructor
  ·rintro⟨b,c,d,e⟩;exact⟨⟨b,c,d⟩,e⟩
  ·rintro⟨⟨b,c,d⟩,e⟩;exact⟨b,c,d,e⟩
def vD (s:List UInt8)(a k:Nat):Prop:=∀ i,a≤i→i<a+k→i<s.length→s[i]? =some 0
structure wG (s:List UInt8) (l:List Rec):Prop where
 row:Row 0 l
 pre:s.take (bytes l).length=bytes l
 room:(bytes l).length≤s.length
 zero:vD s (bytes l).length 128
def flat (L:List ByteArray):List UInt8:=L.flatMap (·.data.toList)
def Whole (L:List ByteArray):Prop:=∀ b∈L,b.size=128
theorem mG:flat []=[]:=rfl
theorem Hl (b:ByteArray)(L:List ByteArray):flat (b::L)=b.data.toList++flat L:=rfl
theorem Yo (L M:List ByteArray):flat (L++M)=flat L++flat M:=List.flatMap_append
theorem Whole.tail {b:ByteArray}{L:List ByteArray}(h:Whole (b::L)):b.data.toList.length=128∧Whole L:=
 ⟨by have:=h b (List.mem_cons_self ..);simpa using this,fun x a=>h x (List.mem_cons_of_mem _ a)⟩
theorem Di {L:List ByteArray}(h:Whole L):(flat L).length=L.length*128:=by
 induction L with
 |nil=>rfl
 |cons b L ih=>
  obtain⟨a,c⟩:=h.tail;rw[Hl,List.length_append,a,ih c,List.length_cons];omega
theorem Yp {L:List ByteArray}(h:Whole L){b:ByteArray}(g:b.size=128):∀ (k:Nat),k<L.length→∀ i,(flat (L.set k b))[i]? =if k*128≤i∧i<k*128+128 then b.data.toList[i-k*128]? else(flat L)[i]? :=by
 have a:b.data.toList.length=128:=by simpa using g
 induction L with
 |nil=>intro k d;simp at d
 |cons c L ih=>
  obtain⟨e,j⟩:=h.tail;intro k d i
  cases k with
  |zero=>
   rw[List.set_cons_zero,Hl,Hl]
   by_cases l:i<128
   ·rw[if_pos (by omega),List.getElem?_append_left (by omega),Nat.zero_mul,Nat.sub_zero]
   ·rw[if_neg (by omega),List.getElem?_append_right (by omega),List.getElem?_append_right (by omega),a,e]
  |succ k=>
   rw[List.set_cons_succ,Hl,Hl]
   by_cases l:i<128
   ·rw[if_neg (by omega),List.getElem?_append_left (by omega),List.getElem?_append_left (by omega)]
   ·rw[List.getElem?_append_right (by omega),e,ih j k (by simpa using d) (i-128)]
    by_cases f:(k+1)*128≤i∧i<(k+1)*128+128
    ·rw[if_pos f,if_pos (by omega),show i-128-k*128=i-(k+1)*128 by omega]
    ·rw[if_neg f,if_neg (by omega),List.getElem?_append_right (by omega),e]
theorem gL {L:List ByteArray}(h:Whole L)(k:Nat):flat (L.take k)=(flat L).take (k*128):=by
 induction k generalizing L with
 |zero=>simp[flat]
 |succ k ih=>
  cases L with
  |nil=>simp[flat]
  |cons b L=>
   obtain⟨a,c⟩:=h.tail;rw[List.take_succ_cons,Hl,ih c,Hl,show(k+1)*128=128+k*128 by omega,List.take_append,a,Nat.add_sub_cancel_left,List.take_of_length_le (l:=b.data.toList) (by omega)]
structure Dk where
 sectors:List ByteArray
 left:Int
 down:Bool
structure Lo where
 from_:Int
 n:Int
 end_:Int
 safe:Int
 tail:ByteArray
instance:DecidableEq Lo:=fun a b=>
 if h:a.from_=b.from_∧a.n=b.n∧a.end_=b.end_∧a.safe=b.safe∧a.tail=b.tail then
  .isTrue (by obtain⟨a1,a2,a3,a4,a5⟩:=a;obtain⟨b1,b2,b3,b4,b5⟩:=b;simp only at h;obtain⟨rfl,rfl,rfl,rfl,rfl⟩:=h;rfl)
 else .isFalse (fun e=>h (by subst e;exact⟨rfl,rfl,rfl,rfl,rfl⟩))
def Cs:ByteArray:=⟨(List.replicate 128 0).toArray⟩
theorem Iz:Cs.size=128:=by unfold Cs;show(List.replicate 128 (0:UInt8)).toArray.size=_;simp
def Ky (n:Nat):Dk:=⟨List.replicate n Cs,-1,false⟩
def Gz (d:Dk)(n:Int):Dk:={d with left:=if n<0 then -1 else n}
def Bp (d:Dk):Dk:={d with left:= -1,down:=false}
def G8 (d:Dk)(at_:Int):Prop:=0≤at_∧at_<(d.sectors.length:Int)
instance (d:Dk) (a:Int):Decidable (G8 d a):=by unfold G8;exact inferInstance
def Io (d:Dk)(at_:Int):ByteArray:=d.sectors[at_.toNat]?.getD ⟨#[]⟩
def Jy (d:Dk)(at_:Int):ByteArray×Int:=if d.down then(⟨#[]⟩,20)else if G8 d at_ then(Io d at_,0)else(⟨#[]⟩,1)
def Cl (d:Dk)(at_:Int)(b:ByteArray):Dk×Int:=
 if d.down then(d,20)else if ¬ (G8 d at_∧b.size=128)then(d,1)else if d.left=0 then({d with down:=true},20)
 else({d with sectors:=d.sectors.set at_.toNat b,left:=if 0<d.left then d.left-1 else d.left},0)
def Fy (l:List UInt8):ByteArray:=⟨(l++List.replicate (128-l.length) 0).toArray⟩
theorem Qe {l:List UInt8}(h:l.length≤128):(Fy l).size=128:=by
 unfold Fy
 show(l++List.replicate (128-l.length) (0:UInt8)).toArray.size=_
 simp;omega
def Tv (l:List UInt8):List ByteArray:=if _h:l=[]then[]else Fy (l.take 128)::Tv (l.drop 128)
termination_by l.length
decreasing_by
 cases l with
 |nil=>contradiction
 |cons a l=>simp;omega
theorem Lu:Tv []=[]:=by rw[Tv];simp
theorem Mj {l:List UInt8}(h:l≠[]):Tv l=Fy (l.take 128)::Tv (l.drop 128):=by
 conv=>lhs;rw[Tv]
 rw[dif_neg h]
def Kc (s:ByteArray):List ByteArray:=Tv s.data.toList
theorem gM (n:Nat):∀ l:List UInt8,l.length≤n→∀ b∈Tv l,b.size=128:=by
 induction n with
 |zero=>
  intro l d b c;rw[List.eq_nil_of_length_eq_zero (l:=l) (by omega),Lu]at c
  cases c
 |succ n e=>
  intro l d b c
  by_cases h:l=[]
  ·rw[h,Lu]at c;cases c
  ·rw[Mj h]at c
   rcases List.mem_cons.1 c with h1|h1
   ·rw[h1];exact Qe (by rw[List.length_take];omega)
   ·have f:0<l.length:=by cases l with
     |nil=>contradiction
     |cons a l=>simp
    exact e _ (by rw[List.length_drop];omega) b h1
theorem Yq (n:Nat):∀ l:List UInt8,l.length≤n→(Tv l).length=(l.length+127)/128:=by
 induction n with
 |zero=>
  intro l b;rw[List.eq_nil_of_length_eq_zero (l:=l) (by omega),Lu];rfl
 |succ n ih=>
  intro l b
  by_cases h:l=[]
  ·rw[h,Lu];rfl
  ·have c:0<l.length:=by cases l with
    |nil=>contradiction
    |cons a l=>simp
   rw[Mj h,List.length_cons,ih _ (by rw[List.length_drop];omega),List.length_drop];omega
theorem Ii (s:ByteArray):(Kc s).length=(s.size+127)/128:=by
 unfold Kc;rw[Yq _ _ (Nat.le_refl _)];simp
theorem Mk (s:ByteArray):∀ b∈Kc s,b.size=128:=gM _ _ (Nat.le_refl _)
def Ej (base:Int)(all:List ByteArray):Nat→Dk→Dk×Int
 |0,d=>(d,0)
 |i+1,d=>if(Cl d (base+(i:Int)) (all[i]?.getD ⟨#[]⟩)).2=0 then Ej base all i (Cl d (base+(i:Int)) (all[i]?.getD ⟨#[]⟩)).1 else Cl d (base+(i:Int)) (all[i]?.getD ⟨#[]⟩)
def Im (l:Lo):Int:=(l.end_-(l.tail.size:Int))/128
def Mx (l:Lo):List ByteArray:=if Im l+(Kc l.tail).length<l.n then Kc l.tail++[Cs]else Kc l.tail
def Jz (l:Lo):Lo:={l with safe:=l.end_,tail:=l.tail.extract (l.tail.size-(l.end_%128).toNat) l.tail.size}
def Bo (d:Dk)(l:Lo):Dk×Lo×Int:=
 if l.safe=l.end_ then(d,l,0)else
 let x:=Ej (l.from_+Im l) (Mx l) (Mx l).length d
 if x.2=0 then(x.1,Jz l,0)else(x.1,l,x.2)
open Classical in
noncomputable def Ay (l:Lo) (r:Rc.Rec):Lo×Int×Int:=
 let r':Rc.Rec:={r with lsn:=l.end_+1}
 if ¬ Rc.Cv r' then(l,0,1)else
 if l.n*128-((Ei r').length:Int)<l.end_ then(l,0,18)else
 ({l with end_:=l.end_+((Ei r').length:Int),tail:=l.tail++⟨(Ei r').toArray⟩},l.end_+1,0)
end Lg
namespace Go.Proofs.YtmldoihahndcgaaGreatDoor
open Go.RowKit
def G9 (b:ByteArray):List Value:=[.string b]
theorem Lv (b:ByteArray):(G9 b).length=1:=rfl
theorem Lw (l:List ByteArray):l.flatMap G9=l.map Value.string:=by
 induction l with
 |nil=>rfl
 |cons b l ih=>rw[List.flatMap_cons,ih];rfl
abbrev Cd (d:Lg.Dk)(A:Option Addr)(c:Nat):Value:=.agg #[.slice A d.sectors.length c,d.left,d.down]
structure By (w:World) (d:Lg.Dk) (A:Option Addr) (c:Nat):Prop where
 secs:Reads w A c d.sectors.length (d.sectors.flatMap G9)
 small:d.sectors.length≤1000000
theorem By.below {w w':World}{d:Lg.Dk}{A:Option Addr}{c:Nat}(h:By w d A c)(a:Bw w w'):By w' d A c:=⟨h.secs.below a,h.small⟩
theorem Rb (d:Lg.Dk)(A:Option Addr)(c:Nat)(a:Int)(w:World):
 Cr 305 #[Cd d A c,a] w (.bool (decide (Lg.G8 d a))):=by
 obtain⟨L,left,down⟩:=d
 by_cases b:0≤a
 ·by_cases e:a<(L.length:Int)
  ·rw[decide_eq_true (show Lg.G8 ⟨L,left,down⟩ a from And.intro b e)]
   go_enter Tryz.func305,Tryz.ntmps305;go_wp2_with fail;go_ret;exact⟨by simp,Ad _ _⟩
  ·rw[decide_eq_false (show ¬ Lg.G8 ⟨L,left,down⟩ a from fun h=>e h.2)]
   go_enter Tryz.func305,Tryz.ntmps305;go_wp2_with fail;go_ret;exact⟨by simp,Ad _ _⟩
 ·rw[decide_eq_false (show ¬ Lg.G8 ⟨L,left,down⟩ a from fun h=>b h.1)]
  go_enter Tryz.func305,Tryz.ntmps305;go_wp2_with fail;go_ret;exact⟨by simp,Ad _ _⟩
theorem Um (d:Lg.Dk)(A:Option Addr)(c:Nat)(a:Int)(w:World)(h:By w d A c):
 Cr 259 #[Cd d A c,a] w (.tuple #[.string (Lg.Jy d a).1,.int .i64 (Lg.Jy d a).2]):=by
 have j:=Hq (fun W=>Rb d A c a W);have q:=Hq h.secs;clear h;unfold Lg.Jy
 cases l:d.down with
 |true=>
  obtain⟨L,left,down⟩:=d;simp only at l;subst l;rw[if_pos rfl];dsimp only[Cd];go_enter Tryz.func259,Tryz.ntmps259;go_wp2_with fail;go_ret2;exact⟨rfl,Ad _ _⟩
 |false=>
  rw[if_neg (by simp)]
  by_cases i:Lg.G8 d a
  ·rw[if_pos i]
   rw[decide_eq_true i]at j;obtain⟨L,left,down⟩:=d;simp only at l;subst l;unfold Lg.G8 at i;unfold Lg.Io;dsimp only[Cd]at i j q ⊢;obtain⟨r,y⟩:=i;obtain⟨k,rfl⟩:=Int.eq_ofNat_of_zero_le r;have s:k<L.length:=(by omega);obtain⟨b,off,rfl,z,n,g⟩:=Bi Lv q.out s;have m:=g 0 _ rfl;simp only[Nat.mul_one,Nat.add_zero]at m;rw[Int.toNat_natCast,List.getElem?_eq_getElem s,Option.getD_some];generalize L[k]=x at m ⊢;have u:=Hq m;clear m g r;go_enter Tryz.func259,Tryz.ntmps259
   go_upto_region 5 with(go_at_call 305;(with_reducible refine(j.out _).mono ?_);rintro e t ⟨rfl,f⟩;have v:=Aa (Cb f))
   have B:t.cell? ⟨b,off+k,none⟩=some (.string x):=(Ae (Ad w _) f).cell (p:=⟨b,off+k,none⟩) n|>.trans u.out
   have o:=Hq (Ae (Ad w _) f);clear f;go_wp2_with fail;go_ret2;exact⟨rfl,o.out⟩
  ·rw[if_neg i]
   rw[decide_eq_false i]at j;clear i;obtain⟨L,left,down⟩:=d;simp only at l;subst l;dsimp only[Cd]at j ⊢;go_enter Tryz.func259,Tryz.ntmps259
   go_wp2_with(go_at_call 305;(with_reducible refine(j.out _).mono ?_);rintro e t ⟨rfl,f⟩)
   go_ret2;exact⟨rfl,Ae (Ad _ _) f⟩
def Eg (x:Lg.Dk×Int)(A:Option Addr)(w:World)(e:Ending)(w':World):Prop:=
 ∃ A' c',e= .returned (.tuple #[Cd x.1 A' c',x.2])∧By w' x.1 A' c'∧(A'=A∨C4 w.heap.size w' 9 A')∧Bw w w'
theorem gN (l:List ByteArray)(A:Option Addr)(c:Nat)(g:0<l.length)(k:l.length≤1000000)(w:World)(h:Reads w A c l.length (l.flatMap G9)):
 Cq 320 #[.slice A l.length c] w fun e w'=>∃ v,e= .returned v∧w'.ownsRow w.heap.size 9 1 v l.length (l.map Value.string)∧Bw w w':=by
 obtain⟨b,off,rfl,_,_,a⟩:=h g;refine(Tryz.slices_Clone_string b off l.length c l w (Nat.le_refl _) (by omega) (fun j f=>?_)).mono ?_
 ·have d:=a j (.string l[j]) (by rw[Lw];simp[f])
  rw[d,List.getD_eq_getElem?_getD,List.getElem?_eq_getElem f]
  rfl
 ·rintro e w' ⟨v,rfl,d,_,i⟩
  rw[List.take_length]at d;exact⟨v,rfl,d,i⟩
theorem Hn {d:Lg.Dk}{A:Option Addr}{c:Nat}{w w':World}{dn:Bool}{k:Int}{x:Lg.Dk×Int}(b:x=(⟨d.sectors,d.left,dn⟩,k))(h:By w d A c)(a:Bw w w'):Eg x A w (.returned (.tuple #[.agg #[.slice A d.sectors.length c,d.left,dn],k])) w':=by
 subst b;exact⟨A,c,rfl,⟨h.secs.below a,h.small⟩,.inl rfl,a⟩
theorem Ml {L:List ByteArray}{A a:Option Addr}{n c:Nat}{w w':World}{left:Int}{x:Lg.Dk×Int}(f:x=(⟨L,left,false⟩,0))(g:L.length=n){d:List Value}(h:Reads w' a c n d){M:List ByteArray}{k:Nat}{b:ByteArray}(i:d=(M.map Value.string).set k (.string b))(e:L=M.set k b)(j:L.length≤1000000)(l:C4 w.heap.size w' 9 a)(m:Bw w w'):
 Eg x A w (.returned (.tuple #[.agg #[.slice a n c,left,false],()])) w':=by
 subst f g;refine⟨a,c,rfl,⟨?_,j⟩,.inr l,m⟩;rw[Lw]
 show Reads w' a c L.length (L.map Value.string)
 rw[i]at h;rw[e,List.map_set];rw[e]at h;exact h
theorem Yr (L:List ByteArray)(left:Int)(A:Option Addr)(c:Nat)(a:Int)(b:ByteArray)(x:Lg.Dk×Int)(i:x=(⟨L,left,true⟩,20))(w:World)(h:By w ⟨L,left,true⟩ A c):
 Cq 284 #[.agg #[.slice A L.length c,left,true],a,b] w (Eg x A w):=by
 have j:=Hq (fun w' k=>Hn (dn:=true) i h (w':=w') k);dsimp only at j;clear i h;go_enter Tryz.func284,Tryz.ntmps284;go_upto_region 1 with fail;have d:=Il w #[.slice A L.length c,left,true] 28 #['s',(),false] 28;have f:=Aa d.out.Ag;obtain⟨l,e⟩:=Dr d;rw[← e]at d f ⊢;clear e;have g:=Hq (show l.heap[w.heap.size]? =some (.cells #[.slice A L.length c,left,true] 28 (0,0))from(by have h:=d.out.Ag;simpa using h))
 go_wp2_with(first|with_reducible refine lL g.out Bz ?_|with_reducible refine lS #[.slice A L.length c,left,true] d.out.Ah ?_)
 refine rT2 (.int .i64 20) d.out.Ah Bz ?_;exact j.out _ ((d.out.row 1 _ _ rfl).below)
theorem bM (L:List ByteArray)(left:Int)(A:Option Addr)(c:Nat)(a:Int)(b:ByteArray)(i:¬ (Lg.G8 ⟨L,left,false⟩ a∧b.size=128))(x:Lg.Dk×Int)(y:x=(⟨L,left,false⟩,1))(w:World)(h:By w ⟨L,left,false⟩ A c):
 Cq 284 #[.agg #[.slice A L.length c,left,false],a,b] w (Eg x A w):=by
 have o:=Hq (fun w' z=>Hn (dn:=false) y h (w':=w') z);dsimp only at o;have m:=Hq (fun W=>Rb ⟨L,left,false⟩ A c a W);clear y h
 by_cases n:Lg.G8 ⟨L,left,false⟩ a
 ·rw[decide_eq_true n]at m
  have B:¬ b.size=128:=fun e=>i ⟨n,e⟩;have p:((b.size:Int)==128)=false:=by simp;omega
  have q:((b.size:Int) != 128)=true:=by simp;omega
  have r:(b.size==128)=false:=by simp;omega
  have s:(b.size != 128)=true:=by simp;omega
  clear i n;dsimp only[Cd]at m;go_enter Tryz.func284,Tryz.ntmps284;go_upto_region 1 with fail;have d:=Il w #[.slice A L.length c,left,false] 28 #['s',(),false] 28;have j:=Aa d.out.Ag;obtain⟨t,f⟩:=Dr d;rw[← f]at d j ⊢;clear f;have k:=Hq (show t.heap[w.heap.size]? =some (.cells #[.slice A L.length c,left,false] 28 (0,0))from(by have h:=d.out.Ag;simpa using h))
  go_upto_region 4 with(first|with_reducible refine lL k.out Bz ?_|(go_at_call 305;(with_reducible refine(m.out _).mono ?_);rintro e u ⟨rfl,g⟩;have H1:=Hq (d.out.step g);clear g;have v:=Aa H1.out.Ag))
  have l:=Hq (show u.heap[w.heap.size]? =some (.cells #[.slice A L.length c,left,false] 28 (0,0))from(by have h:=H1.out.Ag;simpa using h));clear B p q r s
  go_wp2_with(first|with_reducible refine lL l.out Bz ?_|with_reducible refine lS #[.slice A L.length c,left,false] H1.out.Ah ?_)
  refine rT2 (.int .i64 1) H1.out.Ah Bz ?_;exact o.out _ ((H1.out.row 1 _ _ rfl).below)
 ·rw[decide_eq_false n]at m
  clear i n;dsimp only[Cd]at m;go_enter Tryz.func284,Tryz.ntmps284;go_upto_region 1 with fail;have d:=Il w #[.slice A L.length c,left,false] 28 #['s',(),false] 28;have j:=Aa d.out.Ag;obtain⟨t,f⟩:=Dr d;rw[← f]at d j ⊢;clear f;have k:=Hq (show t.heap[w.heap.size]? =some (.cells #[.slice A L.length c,left,false] 28 (0,0))from(by have h:=d.out.Ag;simpa using h))
  go_upto_region 4 with(first|with_reducible refine lL k.out Bz ?_|(go_at_call 305;(with_reducible refine(m.out _).mono ?_);rintro e u ⟨rfl,g⟩;have H1:=Hq (d.out.step g);clear g;have v:=Aa H1.out.Ag))
  have l:=Hq (show u.heap[w.heap.size]? =some (.cells #[.slice A L.length c,left,false] 28 (0,0))from(by have h:=H1.out.Ag;simpa using h))
  go_wp2_with(first|with_reducible refine lL l.out Bz ?_|with_reducible refine lS #[.slice A L.length c,left,false] H1.out.Ah ?_)
  refine rT2 (.int .i64 1) H1.out.Ah Bz ?_;exact o.out _ ((H1.out.row 1 _ _ rfl).below)
theorem bN (L:List ByteArray)(A:Option Addr)(c:Nat)(a:Int)(b:ByteArray)(r:Lg.G8 ⟨L,0,false⟩ a)(u:b.size=128)(x:Lg.Dk×Int)(s:x=(⟨L,0,true⟩,20))(w:World)(h:By w ⟨L,0,false⟩ A c):
 Cq 284 #[.agg #[.slice A L.length c,(),false],a,b] w (Eg x A w):=by
 have t:=Hq (fun w' v=>Hn (dn:=true) s h (w':=w') v);dsimp only at t;have i:=Hq (fun W=>Rb ⟨L,0,false⟩ A c a W);rw[decide_eq_true r]at i;have j:((b.size:Int)==128)=true:=by simp;omega
 have k:((b.size:Int) != 128)=false:=by simp;omega
 have l:(b.size==128)=true:=by simp;omega
 have m:(b.size != 128)=false:=by simp;omega
 clear s h u r;dsimp only[Cd]at i;go_enter Tryz.func284,Tryz.ntmps284;go_upto_region 1 with fail;have d:=Il w #[.slice A L.length c,(),false] 28 #['s',(),false] 28;have n:=Aa d.out.Ag;obtain⟨y,f⟩:=Dr d;rw[← f]at d n ⊢;clear f;have o:=Hq (show y.heap[w.heap.size]? =some (.cells #[.slice A L.length c,(),false] 28 (0,0))from(by have h:=d.out.Ag;simpa using h))
 go_upto_region 5 with(first|with_reducible refine lL o.out Bz ?_|(go_at_call 305;(with_reducible refine(i.out _).mono ?_);rintro e z ⟨rfl,g⟩;have H1:=Hq (d.out.step g);clear g;have B:=Aa H1.out.Ag))
 clear j k l m;have C:=Ao H1.out.Ag;go_upto_region 7 with fail;have p:=Hq (show(z.setCell ⟨w.heap.size,2,none⟩ (.bool true)).heap[w.heap.size]? =some (.cells #[.slice A L.length c,(),true] 28 (0,0))from by have h:=(H1.out.set 0 2 (.bool true) _ rfl).get 0 _ rfl;simpa using h);have q:=Hq (H1.out.set 0 2 (.bool true) _ rfl)
 go_wp2_with(first|with_reducible refine lL p.out Bz ?_|with_reducible refine lS #[.slice A L.length c,(),true] q.out.Ah ?_)
 refine rT2 (.int .i64 20) q.out.Ah Bz ?_;exact t.out _ ((q.out.row 1 _ _ rfl).below)
theorem gO (L:List ByteArray)(left:Int)(H:left≠0)(a7: -9223372036854775808≤left∧left≤9223372036854775807)(A:Option Addr)(c:Nat)(k:Nat)(b:ByteArray)(hk:k<L.length)(hs:b.size=128)(x:Lg.Dk×Int)(hx:x=(⟨L.set k b,if 0<left then left-1 else left,false⟩,0))(w:World)(h:By w ⟨L,left,false⟩ A c):
 Cq 284 #[.agg #[.slice A L.length c,left,false],.int .i64 (k:Int),b] w (Eg x A w):=by
 have C:=Hq (fun W=>Rb ⟨L,left,false⟩ A c k W);rw[decide_eq_true (show Lg.G8 ⟨L,left,false⟩ (k:Int)from⟨by omega,by show(k:Int)<(L.length:Int);omega⟩)]at C;have I:((b.size:Int)==128)=true:=by simp;omega
 have J:((b.size:Int) != 128)=false:=by simp;omega
 have K:(b.size==128)=true:=by simp;omega
 have N:(b.size != 128)=false:=by simp;omega
 have O:(left==0)=false:=by simpa using H
 have hlen:L.length≤1000000:=h.small;have HC:=Hq (fun W (hb:Bw w W)=>gN L A c (by omega) hlen W (h.secs.below hb));have D:=Hq hx;have a8:(k:Int)<(L.length:Int):=by omega
 clear hx h hs;dsimp only[Cd]at C;go_enter Tryz.func284,Tryz.ntmps284;go_upto_region 1 with fail;have m:=Il w #[.slice A L.length c,left,false] 28 #['s',(),false] 28;have n:=Aa m.out.Ag;obtain⟨W0,o⟩:=Dr m;rw[← o]at m n ⊢;clear o;have q:=Hq (show W0.heap[w.heap.size]? =some (.cells #[.slice A L.length c,left,false] 28 (0,0))from(by have h:=m.out.Ag;simpa using h))
 go_upto_region 8 with(first|with_reducible refine lL q.out Bz ?_|(go_at_call 305;(with_reducible refine(C.out _).mono ?_);rintro e w1 ⟨rfl,r⟩;have H1:=Hq (m.out.step r);clear r;have P:=Aa H1.out.Ag))
 clear I J K N O C n q m
 go_upto_region 9 with(first|(go_at_call 320;(with_reducible refine(HC.out _ H1.out.below).mono ?_);rintro e w2 ⟨v,rfl,Q,s⟩;obtain⟨A2,c2,rfl⟩:=Jb Q;have E:=Hq (H1.out.step s);have R:=Ao E.out.Ag;have S:=Aa E.out.Ag;clear s P))
 clear S R;have aa:=H1.out.lt (i:=1) (by simp);have t:=Ja Q ⟨w.heap.size,0,none⟩ (.slice A2 L.length c2) (by show w.heap.size<_;omega);obtain⟨g,cap,hv,hg,T,a6,d,u,a⟩:=kS t hk
 injection hv with U ae V
 subst U V;have F:=Hq (E.out.set 0 0 (.slice (some ⟨g,0,none⟩) L.length c2) _ rfl);simp only[Nat.add_zero]at F;obtain⟨W3,y⟩:=ex (w2.setCell ⟨w.heap.size,0,none⟩ (.slice (some ⟨g,0,none⟩) L.length c2));rw[← y]at F d u a T ⊢;have X:=Aa F.out.Ag;rw[List.getElem?_eq_getElem (by simpa using hk)]at d;simp only[List.getElem_map]at d;have j:=Hq a;clear y E Q t a;go_upto_region 10 with fail;have Y:w.heap.size+2≤g:=by omega
 have l:=Hq (F.out.under (M:=g) (by show w.heap.size+2≤g;exact Y) ((Below.refl g W3).setCell (p:=⟨g,k,none⟩) (Nat.le_refl g) (.string b)));have f:=Hq (j.out (.string b));obtain⟨W4,z⟩:=ex (W3.setCell ⟨g,k,none⟩ (.string b));rw[← z]at l f ⊢;have af:=Aa l.out.Ag;have ag:=Ao l.out.Ag;clear z X d u j
 by_cases hp:0<left
 ·rw[if_pos hp]at D
  have ah:IntKind.i64.wrap (left-1)=left-1:=IntWalk.i64_in _ (by omega);go_upto_region 12 with fail;have G:=Hq (l.out.set 0 1 (.int .i64 (left-1)) _ rfl);have Z:=Hq (show(W4.setCell ⟨w.heap.size,1,none⟩ (.int .i64 (left-1))).heap[w.heap.size]? =some (.cells #[.slice (some ⟨g,0,none⟩) L.length c2,.int .i64 (left-1),false] 28 (0,0))from by have h:=G.out.Ag;simpa using h);have B:=Hq (Ja f.out ⟨w.heap.size,1,none⟩ (.int .i64 (left-1)) (by show w.heap.size<_;omega))
  go_wp2_with(first|with_reducible refine lL Z.out Bz ?_|with_reducible refine lS #[.slice (some ⟨g,0,none⟩) L.length c2,.int .i64 (left-1),false] G.out.Ah ?_)
  refine rT2 () G.out.Ah Bz ?_;exact Ml D.out (by rw[List.length_set]) ((Dq B.out).Vh _ _ (fun _ ad e=>(by injection e with e;rw[← e];show g≠w.heap.size+1;omega))) rfl rfl (by rw[List.length_set];exact hlen) (((C4.own B.out).row _ _).mono (by omega)) ((G.out.row 1 _ _ rfl).below)
 ·rw[if_neg hp]at D
  have a1:=Hq (show W4.heap[w.heap.size]? =some (.cells #[.slice (some ⟨g,0,none⟩) L.length c2,left,false] 28 (0,0))from(by have h:=l.out.Ag;simpa using h))
  go_wp2_with(first|with_reducible refine lL a1.out Bz ?_|with_reducible refine lS #[.slice (some ⟨g,0,none⟩) L.length c2,left,false] l.out.Ah ?_)
  refine rT2 () l.out.Ah Bz ?_;exact Ml D.out (by rw[List.length_set]) ((Dq f.out).Vh _ _ (fun _ ad e=>(by injection e with e;rw[← e];show g≠w.heap.size+1;omega))) rfl rfl (by rw[List.length_set];exact hlen) (((C4.own f.out).row _ _).mono (by omega)) ((l.out.row 1 _ _ rfl).below)
theorem Sa (d:Lg.Dk)(f: -9223372036854775808≤d.left∧d.left≤9223372036854775807)(A:Option Addr)(c:Nat)(a:Int)(b:ByteArray)(w:World)(h:By w d A c):
 Cq 284 #[Cd d A c,a,b] w (Eg (Lg.Cl d a b) A w):=by
 obtain⟨L,left,down⟩:=d
 cases down with
 |true=>exact Yr L left A c a b _ (by unfold Lg.Cl;rw[if_pos rfl]) w h
 |false=>
  by_cases e:Lg.G8 ⟨L,left,false⟩ a∧b.size=128
  ·by_cases g:left=0
   ·subst g
    exact bN L A c a b e.1 e.2 _ (by unfold Lg.Cl;rw[if_neg (by simp),if_neg (fun i=>i e),if_pos rfl]) w h
   ·obtain⟨k,rfl⟩:=Int.eq_ofNat_of_zero_le e.1.1
    have j:k<L.length:=(by have l:=e.1.2;simp only at l;omega);exact gO L left g f A c k b j e.2 _ (by unfold Lg.Cl;rw[if_neg (by simp),if_neg (fun i=>i e),if_neg g];simp) w h
  ·exact bM L left A c a b e _ (by unfold Lg.Cl;rw[if_neg (by simp),if_pos e]) w h
theorem Sb (n:Nat)(e:n≤4096)(W:World):(Instr.makeSlice 104 (.int .i64 (n:Int)) (.int .i64 (n:Int))).run Tryz.prog W= .ok (.slice (some ⟨W.heap.size,0,none⟩) n n) (W.alloc (.cells (madeCells #[Value.int .u8 0] n) 5)):=by
 obtain⟨i0,d,a,b,c⟩:=info_parts O5;have h:=run_make (P:=Tryz.prog) W 104 5 i0 (.int .u8 0) K7 d a .i64 .i64 n n (by omega) (by omega) (by rw[c];omega) (by omega);rw[b,Int.toNat_natCast,Nat.mul_one]at h;exact h
theorem Sd (n:Nat)(W:World):(convert 104 9 (.slice (some ⟨W.heap.size,0,none⟩) n n)).run Tryz.prog (W.alloc (.cells (madeCells #[Value.int .u8 0] n) 5))= .ok (.string ⟨(List.replicate n 0).toArray⟩) (W.alloc (.cells (madeCells #[Value.int .u8 0] n) 5)):=by
 have h:=run_convert_bytes_back (P:=Tryz.prog) (W.alloc (.cells (madeCells #[Value.int .u8 0] n) 5)) 104 9 5 ⟨W.heap.size,0,none⟩ n (List.replicate n 0) K7 pF W9 (fun j b=>by
  have a:j<n:=by simpa using b
  have c:(⟨W.heap.size,0,none⟩:Addr).add j=⟨W.heap.size,j,none⟩:=by
   unfold Addr.add;split
   ·rename_i h;rw[h]
   ·simp
  rw[c,World.cell?_alloc_new]
  simp[madeCells,a,Nat.mod_one])
 rw[List.length_replicate]at h;exact h
theorem J0:(Tryz.prog.info? 9).map (fun i=>(i.zero,i.size,i.bytes))=some (some (.string ⟨#[]⟩),1,16):=by kernel_rfl
theorem gP (w:World):
 Cr 173 #[] w (.string Lg.Cs):=by
 have a:=Sb 128 (by omega);have b:=Sd 128;unfold Lg.Cs;generalize d:(⟨(List.replicate 128 0).toArray⟩:ByteArray)=R at b ⊢;clear d;have c:∀ W:World,(Instr.makeSlice 104 (.int .i64 128) (.int .i64 128)).run Tryz.prog W= .ok (.slice (some ⟨W.heap.size,0,none⟩) 128 128) (W.alloc (.cells (madeCells #[Value.int .u8 0] 128) 5)):=a;clear a;go_enter Tryz.func173,Tryz.ntmps173;go_wp2_with fail;go_ret;exact⟨rfl,Ad _ _⟩
def V2 (d:Lg.Dk)(w:World)(e:Ending)(w':World):Prop:=
 ∃ A c,e= .returned (.tuple #[Cd d A c,()])∧By w' d A c∧C4 w.heap.size w' 9 A∧Bw w w'
theorem mH (n:Nat)(U:1≤n)(h2:n≤65536)(w:World):
 Cq 102 #[.int .i64 (n:Int)] w (V2 (Lg.Ky n) w):=by
 have O:=Hq (fun W=>gP W);have G:=Hq (fun v c A w' (l:E7 G9 1 9 (w.heap.size+2) w' v (List.replicate n Lg.Cs)) (V:v= .slice A n c) (X:Reads w' A c n ((List.replicate n Lg.Cs).flatMap G9)) (E:Bw w w')=>show V2 (Lg.Ky n) w (.returned (.tuple #[.agg #[.slice A n c,.int .i64 (-1),false],()])) w' from by
  refine⟨A,c,?_,⟨?_,?_⟩,?_,E⟩
  ·unfold Cd Lg.Ky;simp
  ·unfold Lg.Ky;simpa using X
  ·unfold Lg.Ky;simp;omega
  ·unfold E7 at l
   rw[List.length_replicate,V]at l;exact(C4.own l).mono (by omega))
 generalize Lg.Cs=z at O G ⊢;generalize V2 (Lg.Ky n) w=Q at G ⊢;have Y:¬ (n:Int)<1:=by omega
 have Z:(n:Int)≤65536:=by omega
 go_enter Tryz.func102,Tryz.ntmps102;go_upto_region 4 with fail;have H:=Il w #['s',(),false] 28 #['s',.int .i64 (-1),false] 28;obtain⟨W0,q⟩:=Dr H;rw[← q]at H ⊢;clear q;go_wp2_with fail
 go_loopw [5] (fun i wr=>∃ (k:Nat) (v:Value),k≤n∧i= .int .i64 (k:Int)∧Dm w.heap.size w [(#['s',(),false],28),(#[v,.int .i64 (-1),false],28)] wr∧E7 G9 1 9 (w.heap.size+2) wr v (List.replicate k z)) (fun i _=>n-(intOf i).toNat)
 case atStart=>exact⟨0,.slice none 0 0,Nat.zero_le _,rfl,H.out,Rp _ _ _ _⟩
 case round=>
  obtain⟨k,v,hk,rfl,m,j⟩:=hrel;have r:=Hq m;have hO:wr.ownsRow (w.heap.size+2) 9 1 v k ((List.replicate k z).flatMap G9):=by
   have h:=j;unfold E7 at h
   rwa[List.length_replicate]at h
  have a1:=m.lt (i:=1) (by simp);obtain⟨A,c,rfl⟩:=Jb hO;clear m j
  by_cases a6:k<n
  ·go_upto_region 7 with fail
   have b:=Hq (r.out.drew);have s:=Cm hO (Below.refl _ wr).drew;refine Ig (S:=(fun u=>u.heap[w.heap.size+1]? =some (.cells #[.slice A k c,.int .i64 (-1),false] 28 (0,0)))) 6 Kr ?_ (fun a=>?_)
   ·first|exact hSn|exact b.out.Ah
   refine Xj 0 [6] ?_;refine Xj 1 [6] ?_;refine Ce (rs:=[2]) Kr (by simp) ?_;refine Bc.cons (o:={dst:=some 21,op:=_,type:=_,pos:=_,after:=_,guard:=_}) rfl (fun K d=>?_) ?_
   rotate_left
   ·exact Bc.nil
   go_simp
   refine(O.out _).mono ?_;rintro e F ⟨rfl,t⟩;have p:=b.out.step t;have hSn:=p.get 1 _ rfl;have x:=Cm s t;try go_simp
   refine Bl d (fun a=>?_) (by first|exact hSn|exact b.out.Ah);clear d K;refine Ce (rs:=[3]) Kr (by simp) ?_;refine Bc.cons (o:={dst:=some 22,op:=_,type:=_,pos:=_,after:=_,guard:=_}) rfl (fun K d=>?_) ?_
   rotate_left
   ·exact Bc.nil
   go_simp
   have g:=p.step (Ad F (.cells #[z] 9));have hSn:=g.get 1 _ rfl;have y:=Cm x (Ad F (.cells #[z] 9));have P:=heap_alloc_new F (.cells #[z] 9);refine Bl d (fun a=>?_) (by first|exact hSn|exact b.out.Ah);clear d K;refine Ce (rs:=[4]) Kr (by simp) ?_;refine Bc.cons (o:={dst:=some 23,op:=_,type:=_,pos:=_,after:=_,guard:=_}) rfl (fun K d=>?_) ?_
   rotate_left
   ·exact Bc.nil
   refine Az (by rfl) ?_;refine Vg _ (.tmp 20) (.tmp 22) 26 9 Vd J0 rfl (by omega) (by omega) rfl (w.heap.size+2) _ k ((List.replicate k z).flatMap G9) rfl y F.heap.size (G9 z) 9 rfl P rfl (by simp[G9,Value.oneCell']) (by omega) (by have U:=g.lt (i:=1) (by simp);omega) ?_;intro v7 w7 l hg E;obtain⟨R,T,rfl⟩:=Jb l;have f:=g.under (M:=w.heap.size+2) (Nat.le_refl _) E;have hSn:=f.get 1 _ rfl;have B:=Aa (f.get 1 _ rfl);have I:=Ao (f.get 1 _ rfl);refine Bl d (fun a=>?_) (by first|exact hSn|exact b.out.Ah);clear d K;refine Xj 5 [6] ?_;refine Ce (rs:=[6]) Kr (by simp) ?_;refine Bc.last (o:={dst:=none,op:=_,type:=_,pos:=_,after:=_,guard:=_}) rfl Kr (fun K d=>?_) ?_
   rotate_left
   ·exact Bc.nil
   go_simp
   refine d.out _ _ ?_;clear d K
   try simp only[Act.put,pS]
   refine Ie Kr ?_ _;have J:=Hq (f.set 1 0 (.slice R (k+1) T) _ rfl);have L:=Hq (Ja l ⟨w.heap.size+1,0,none⟩ (.slice R (k+1) T) (by show w.heap.size+1<_;omega));clear hO s x y l hg E p g f hSn B I P a b r;go_wp2_with fail;go_roundw
   case rel=>exact⟨k+1,_,by omega,by go_num,(by have h:=J.out;first|exact h|simpa using h),(by
    have h:=L.out;unfold E7;rw[List.length_replicate,List.replicate_succ',List.flatMap_append]
    simpa using h)⟩
   case measure=>simp[intOf];omega
  ·obtain rfl:k=n:=by omega
   have N:=Hq r.out.Ah;have C:=Hq (show wr.heap[w.heap.size]? =some (.cells #['s',(),false] 28 (0,0))from by have h:=r.out.Ag;simpa using h)
   go_wp2_with(first|with_reducible refine lL N.out Bz ?_|with_reducible refine lS #[.slice A k c,.int .i64 (-1),false] C.out ?_)
   refine rT2 () C.out Bz ?_;have D:=I3 hO w.heap.size #[.slice A k c,.int .i64 (-1),false] (by omega);exact G.out _ c A _ (by unfold E7;rw[List.length_replicate];exact D) rfl (Dq D) (by have h:=(r.out.row 0 #[.slice A k c,.int .i64 (-1),false] _ rfl).below;simpa using h)
theorem eH (d:Lg.Dk)(A:Option Addr)(c:Nat)(n:Int)(w:World):
 Cr 112 #[Cd d A c,n] w (Cd (Lg.Gz d n) A c):=by
 obtain⟨L,left,down⟩:=d;unfold Lg.Gz;dsimp only[Cd]
 by_cases j:n<0
 ·rw[if_pos j]
  go_enter Tryz.func112,Tryz.ntmps112;go_upto_region 1 with fail;have a:=Il w #[.slice A L.length c,left,down] 28 #['s',(),false] 28;obtain⟨f,b⟩:=Dr a;rw[← b]at a ⊢;have g:=Aa a.out.Ag;have i:=Ao a.out.Ag;clear b;go_upto_region 4 with fail;have H1:=Hq (a.out.set 0 1 (.int .i64 (-1)) _ rfl);have e:=Hq (show(f.setCell ⟨w.heap.size,1,none⟩ (.int .i64 (-1))).heap[w.heap.size]? =some (.cells #[.slice A L.length c,.int .i64 (-1),down] 28 (0,0))from by have h:=H1.out.Ag;simpa using h)
  go_wp2_with(first|with_reducible refine lL e.out Bz ?_|with_reducible refine lS #[.slice A L.length c,.int .i64 (-1),down] H1.out.Ah ?_)
  refine rT1 H1.out.Ah Bz ?_;exact⟨rfl,(H1.out.row 1 _ _ rfl).below⟩
 ·rw[if_neg j]
  go_enter Tryz.func112,Tryz.ntmps112;go_upto_region 1 with fail;have a:=Il w #[.slice A L.length c,left,down] 28 #['s',(),false] 28;obtain⟨f,b⟩:=Dr a;rw[← b]at a ⊢;have g:=Aa a.out.Ag;have i:=Ao a.out.Ag;clear b;go_upto_region 4 with fail;have H1:=Hq (a.out.set 0 1 (.int .i64 n) _ rfl);have e:=Hq (show(f.setCell ⟨w.heap.size,1,none⟩ (.int .i64 n)).heap[w.heap.size]? =some (.cells #[.slice A L.length c,n,down] 28 (0,0))from by have h:=H1.out.Ag;simpa using h)
  go_wp2_with(first|with_reducible refine lL e.out Bz ?_|with_reducible refine lS #[.slice A L.length c,n,down] H1.out.Ah ?_)
  refine rT1 H1.out.Ah Bz ?_;exact⟨rfl,(H1.out.row 1 _ _ rfl).below⟩
theorem Mm (d:Lg.Dk)(A:Option Addr)(c:Nat)(w:World):
 Cr 113 #[Cd d A c] w (Cd (Lg.Bp d) A c):=by
 obtain⟨L,left,down⟩:=d;unfold Lg.Bp;dsimp only[Cd];go_enter Tryz.func113,Tryz.ntmps113;go_upto_region 1 with fail;have a:=Il w #[.slice A L.length c,left,down] 28 #['s',(),false] 28;obtain⟨f,b⟩:=Dr a;rw[← b]at a ⊢;have g:=Aa a.out.Ag;have i:=Ao a.out.Ag;clear b;go_upto_region 3 with fail;have H1:=Hq ((a.out.set 0 1 (.int .i64 (-1)) _ rfl).set 0 2 (.bool false) _ rfl);have e:=Hq (show((f.setCell ⟨w.heap.size,1,none⟩ (.int .i64 (-1))).setCell ⟨w.heap.size,2,none⟩ (.bool false)).heap[w.heap.size]? =some (.cells #[.slice A L.length c,.int .i64 (-1),false] 28 (0,0))from by have h:=H1.out.Ag;simpa using h)
 go_wp2_with(first|with_reducible refine lL e.out Bz ?_|with_reducible refine lS #[.slice A L.length c,.int .i64 (-1),false] H1.out.Ah ?_)
 refine rT1 H1.out.Ah Bz ?_;exact⟨rfl,(H1.out.row 1 _ _ rfl).below⟩
end Go.Proofs.YtmldoihahndcgaaGreatDoor
namespace Lg
theorem Lx (n:Nat):(⟨(Go.Lib.repeatL [(0:UInt8)] n).toArray⟩:ByteArray)=⟨(List.replicate n 0).toArray⟩:=by
 congr 2
 induction n with
 |zero=>rfl
 |succ n ih=>
  rw[List.replicate_succ,← ih]
  rfl
theorem mI (t:ByteArray)(m:Nat)(b:m=min t.size 128):t.extract 0 m++(⟨(Go.Lib.repeatL [(0:UInt8)] (128-m)).toArray⟩:ByteArray)=Fy (t.data.toList.take 128):=by
 rw[Lx];unfold Fy
 apply ByteArray.ext
 rw[ByteArray.data_append]
 apply Array.toList_inj.1
 rw[Array.toList_append];have e:(t.extract 0 m).data.toList=t.data.toList.take 128:=by
  simp only[ByteArray.data_extract,Array.toList_extract,List.extract_eq_take_drop,Nat.sub_zero,List.drop_zero];have a:t.data.toList.length=t.size:=by simp
  by_cases h:t.size≤128
  ·rw[List.take_of_length_le (by omega),List.take_of_length_le (by omega)]
  ·rw[show m=128 by omega]
 have a:(t.data.toList.take 128).length=m:=by rw[List.length_take];simp;omega
 rw[e,a]
theorem mJ (t:ByteArray)(m:Nat)(c:m=min t.size 128)(d:0<t.size):Kc t=Fy (t.data.toList.take 128)::Kc (t.extract m t.size):=by
 unfold Kc;have b:t.data.toList≠[]:=fun e=>by
  have a:t.data.toList.length=t.size:=by simp
  rw[e,List.length_nil]at a;omega
 rw[Mj b]
 congr 2
 simp only[ByteArray.data_extract,Array.toList_extract,List.extract_eq_take_drop];have a:t.data.toList.length=t.size:=by simp
 rw[List.take_of_length_le (by rw[List.length_drop];omega)]
 by_cases h:t.size≤128
 ·rw[List.drop_of_length_le (i:=128) (by omega),List.drop_of_length_le (i:=m) (by omega)]
 ·rw[show m=128 by omega]
theorem mK (t:ByteArray)(a:t.size=0):Kc t=[]:=by
 unfold Kc;have b:t.data.toList=[]:=List.eq_nil_of_length_eq_zero (by simpa using a);rw[b,Lu]
end Lg
namespace Go.Proofs.YtmldoihahndcgaaGreatDoor
open Go.RowKit
abbrev Oc (l:Lg.Lo):Value:=.agg #[l.from_,l.n,l.end_,l.safe,l.tail]
def bO (l:List ByteArray)(w:World)(e:Ending)(w':World):Prop:=∃ v,e= .returned v∧E7 G9 1 9 w.heap.size w' v l∧Bw w w'
theorem qE (s:ByteArray)(hs:s.size≤1000000)(w:World):
 Cq 283 #[s] w (bO (Lg.Kc s) w):=by
 have N:=Hq (fun v w' (L:E7 G9 1 9 w.heap.size w' v (Lg.Kc s)) (M:Bw w w')=>show bO (Lg.Kc s) w (.returned v) w' from⟨v,rfl,L,M⟩);generalize bO (Lg.Kc s) w=Q at N ⊢;obtain⟨C,hC⟩:=ex (Lg.Kc s);have a8:C.length≤8000:=by rw[hC,Lg.Ii];omega
 rw[← hC]at N;have HC:=Hq hC;have HR:=Hq (fun(c:Nat) (hc:c≤128) W=>Tryz.strings_Repeat ⟨#[0]⟩ c W (by omega) (show(⟨#[0]⟩:ByteArray).size*c≤140737488355328 from(by show 1*c≤_;have:c≤128:=hc;omega)));clear hC;go_enter Tryz.func283,Tryz.ntmps283;go_wp2_with fail
 go_loopw [0,3] (fun O v wr=>∃ (t:ByteArray) (ls:List ByteArray),O= .string t∧t.size≤1000000∧ls++Lg.Kc t=C∧E7 G9 1 9 w.heap.size wr v ls∧Bw w wr) (fun O _ _=>(match O with| .string t=>t.size|_=>0))
 case atStart=>exact⟨s,[],rfl,hs,HC.out.symm,Rp _ _ _ _,Below.refl _ _⟩
 case round=>
  obtain⟨t,ls,rfl,aa,g,hO,hB⟩:=hrel;have P:=Hq hB;have ad:ls.length≤8000:=by have:=congrArg List.length g;rw[List.length_append]at this;omega
  have n:=Hq g;clear hB g
  by_cases h0:0<t.size
  ·obtain⟨m,R⟩:=ex (min t.size 128)
   have ae:min (t.size:Int) 128=(m:Int):=(by omega);have af:m≤t.size:=(by omega);have ag:m≤128:=(by omega);have ah:(0:Int)≤(m:Int):=(by omega);have ai:(m:Int)≤(t.size:Int):=(by omega);have d:(128:Int)-(m:Int)=((128-m:Nat):Int):=(by omega);have T:IntKind.i64.wrap ((128:Int)-(m:Int))=((128-m:Nat):Int):=(by rw[d];exact IntWalk.i64_in _ (by omega));have o:IntKind.i64.wrap ((128-m:Nat):Int)=((128-m:Nat):Int):=IntWalk.i64_in _ (by omega);have U:=Hq (Lg.mI t m R);have HN:=Hq (Lg.mJ t m R h0);have p:=Lg.Qe (l:=t.data.toList.take 128) (by rw[List.length_take];omega);have q:(t.extract m t.size).size<t.size:=(by rw[ByteArray.size_extract];omega);have u:=Hq q;have V:=HR.out (128-m) (show 128-m≤128 by omega);have b:(t.extract 0 m).size+(⟨(Lib.repeatL [(0:UInt8)] (128-m)).toArray⟩:ByteArray).size≤9223372036854775807:=by
    rw[Lg.Lx,ByteArray.size_extract]
    show _+(List.replicate (128-m) (0:UInt8)).toArray.size≤_
    simp
    omega
   have X:=Hq V;obtain⟨z,Y⟩:=ex (⟨(Lib.repeatL [(0:UInt8)] (128-m)).toArray⟩:ByteArray);obtain⟨y,hy⟩:=ex (Lg.Fy (t.data.toList.take 128):ByteArray);have B:Hid (∀ W,Cr 132 #[.string ⟨#[0]⟩,.int .i64 ((128-m:Nat):Int)] W (.string z)):=Hq (by rw[Y];exact V);rw[← Y]at U b;rw[← hy]at U HN p;have D:∀ W:World,(Op.stringOp .add (t.extract 0 m) z).run Tryz.prog W= .ok (.string y) W:=fun W=>by rw[← U.out];exact run_string_add_sum W _ _ b
   obtain⟨r,hr⟩:=ex (128-m:Nat);rw[← hr]at d T o B;clear V HR X R Y hy q hr b;obtain⟨A,c,rfl⟩:=Jb hO;go_upto_region 4 with fail;have E:=Cm hO (Below.refl _ wr).drew;have i:=P.out.drew;refine E4 (S:=(fun _=>True)) (fun a=>?_) (by trivial);refine Au 0 ?_;refine Au 1 ?_;refine Au 2 ?_;refine Au 3 ?_;refine Au 4 ?_;refine Au 5 ?_;refine Bx 6 fun K f=>?_
   go_simp
   refine(B.out _).mono ?_;rintro e Z ⟨rfl,F⟩;have G:=Cm E F;have j:=i.trans (F.mono i.size);try go_simp
   refine Bl f (fun a=>?_) (by trivial);clear f K;refine Au 7 ?_;refine Bx 8 fun K f=>?_
   go_simp
   have H:=Cm G (Ad Z (.cells #[y] 9));have k:=j.alloc j.size (.cells #[y] 9);have hG:=heap_alloc_new Z (.cells #[y] 9);refine Bl f (fun a=>?_) (by trivial);clear f K;refine Bx 9 fun K f=>?_;refine Az (by rfl) ?_;refine Vg _ (.tmp 11) (.tmp 19) 26 9 Vd J0 rfl (by omega) (by omega) rfl w.heap.size _ ls.length (ls.flatMap G9) rfl H Z.heap.size (G9 y) 9 rfl hG rfl (by simp[G9,Value.oneCell']) (by omega) k.size ?_;intro v7 w7 L hg M;have I:=k.trans M;refine Bl f (fun a=>?_) (by trivial);clear f K;refine Au 10 ?_;refine wpAnyH_done Kr ?_ _;have a1:=Hq (E7.push (enc:=G9) (x:=y) L);have a6:=Hq I;clear hO E G H i j k I L hg M hG a P D p;go_wp2_with fail;go_roundw
   case rel=>exact⟨_,ls++[y],rfl,by have:=u.out;omega,by rw[List.append_assoc];have h:=n.out;rw[HN.out]at h;exact h,a1.out,a6.out⟩
   case measure=>exact u.out
  ·have a7:t.size=0:=by omega
   have J:ls=C:=(by have h:=n.out;rwa[Lg.mK t a7,List.append_nil]at h);subst J;go_wp2_with fail;exact N.out _ _ hO P.out
end Go.Proofs.YtmldoihahndcgaaGreatDoor
namespace Rc
end Rc
namespace Go.Proofs.YtmldoihahndcgaaGreatDoor
open Go.RowKit
abbrev vE:Array Value:=#[(),(),(),(),(),(),(),(),(),"","",(),(),"",(),(),'s','s']
end Go.Proofs.YtmldoihahndcgaaGreatDoor
namespace Rc
end Rc
namespace Go.Proofs.YtmldoihahndcgaaGreatDoor
open Go.RowKit
theorem Ys:(Tryz.prog.info? 134).map (fun i=>(i.zero,i.size,i.bytes))=some (some (.agg #[(),(),(),false]),4,32):=by kernel_rfl
theorem Np:(Tryz.prog.info? 94).map (fun i=>(i.zero,i.size,i.bytes))=some (some (.agg #[(),()]),2,16):=by kernel_rfl
end Go.Proofs.YtmldoihahndcgaaGreatDoor
namespace Lg
end Lg
namespace Go.Proofs.YtmldoihahndcgaaGreatDoor
open Go.RowKit
end Go.Proofs.YtmldoihahndcgaaGreatDoor
namespace Lg
end Lg
namespace Go.Proofs.YtmldoihahndcgaaGreatDoor
open Go.RowKit
theorem vF (n:Nat)(h:n<18446744073709551616)(size:Nat)(a:size≤8):(Oct.Bg (n:Int) size).data.toList=Oct.Bn n size:=by
 rw[Oct.Ca _ _ a]
 congr 1
 unfold Oct.word;omega
theorem mL (s:ByteArray)(j:s.size≤1000000)(w:World):
 Cq 260 #[s] w fun e w'=>∃ x:ByteArray,e= .returned (.string x)∧x.data.toList=Oct.Bn (Oct.Gy s.data.toList) 4++s.data.toList∧Bw w w':=by
 have h:=Hq (fun W=>dW s (by omega) W);have c:Oct.Gy s.data.toList<18446744073709551616:=by have:=Oct.dV s.data.toList;omega
 have a:(Oct.Bg ((Oct.Gy s.data.toList:Nat):Int) 4).data.toList=Oct.Bn (Oct.Gy s.data.toList) 4:=vF _ c 4 (by omega);generalize Oct.Gy s.data.toList=n at h a ⊢;have i:=Hq (fun W=>Ht (n:Int) 4 (by omega) (by omega) W);have f:(Oct.Bg (n:Int) 4).size=4:=Oct.Bm _ 4 (by omega);have d:(Oct.Bg (n:Int) 4).size+s.size≤281474976710656:=by omega
 have b:(Oct.Bg (n:Int) 4++s).data.toList=Oct.Bn n 4++s.data.toList:=by
  rw[ByteArray.data_append,Array.toList_append,a]
 clear c a;generalize Oct.Bg (n:Int) 4=x at i f d b;go_enter Tryz.func260,Tryz.ntmps260
 go_wp2_with(first|(go_at_call 306;refine(h.out _).mono ?_;rintro e k ⟨rfl,rfl⟩)|(go_at_call 151;refine(i.out _).mono ?_;rintro e l ⟨rfl,g⟩))
 go_ret;exact⟨_,rfl,b,g⟩
def Se (r:Rc.Rec)(w:World)(e:Ending)(w':World):Prop:=
 (∃ x:ByteArray,Rc.Cv r∧e= .returned (.tuple #[x,()])∧x.data.toList=Lg.Ei r∨¬ Rc.Cv r∧e= .returned (.tuple #["",.int .i64 1]))∧Bw w w'
theorem Sf (r:Rc.Rec)(A D:Option Addr)(c d:Nat)(w:World)(u:Iy w r A c D d)(m:r.kind=2∨r.kind=3∨r.kind=8):
 Cq 254 #[E1 r (.slice A r.txns.length c) (.slice D r.dirty.length d)] w (Se r w):=by
 have f:=Hq (fun W (h:Bw w W)=>bF r A D c d W (u.below h) m);have l:=Hq (heap_alloc_new w (.cells (D7 r (.slice A r.txns.length c) (.slice D r.dirty.length d)) 88))
 cases g:Rc.Fb r with
 |false=>
  rw[g]at f;have n:¬ Rc.Cv r:=fun h=>by rw[Rc.Jj h]at g;cases g
  have o:=Hq (fun w' (h:Bw w w')=>show Se r w (.returned (.tuple #["",.int .i64 1])) w' from⟨⟨⟨#[]⟩,.inr ⟨n,rfl⟩⟩,h⟩);clear n g u;generalize Se r w=Q at o ⊢;obtain⟨C,prev,E,kind,p,next,O,⟨ok,os,P,on⟩,F,root,⟨R,S,es⟩,T,U⟩:=r;dsimp only[E1,D7]at f l ⊢;go_enter Tryz.func254,Tryz.ntmps254
  go_wp2_with(first
   |with_reducible refine lL l.out Ds ?_
   |(go_at_call 301;(with_reducible refine(f.out _ (Ad _ _)).mono ?_);rintro e V ⟨rfl,b⟩))
  exact o.out _ (Ae (Ad _ _) b)
 |true=>
  rw[g]at f;have v:Rc.Cv r:=Rc.R5.1 g;have B:=Hq (fun W (h:Bw w W)=>mE r v A D c d W (u.below h) m);obtain⟨y,G⟩:=ex (⟨(Rc.Eu r).toArray⟩:ByteArray);rw[← G]at B;have i:y.data.toList=Rc.Eu r:=by rw[G]
  have hlen:=Rc.Mi v;have q:y.size=(Rc.Eu r).length:=by rw[← i];simp
  have H:y.size≤1000000:=by omega
  have X:=Hq (fun W=>mL y H W);have M:=Hq (fun W=>Ht (y.size:Int) 4 (by omega) (by omega) W);have j:(Oct.Bg (y.size:Int) 4).data.toList=Oct.Bn y.size 4:=vF _ (by omega) 4 (by omega);have I:(Oct.Bg (y.size:Int) 4).size=4:=Oct.Bm _ 4 (by omega);generalize Oct.Bg (y.size:Int) 4=z at M j I;have o:=Hq (fun w' (x:ByteArray) (a:x.data.toList=Oct.Bn (Oct.Gy y.data.toList) 4++y.data.toList) (h:Bw w w')=>show Se r w (.returned (.tuple #[.string (z++x),()])) w' from⟨⟨z++x,.inl ⟨v,rfl,by rw[ByteArray.data_append,Array.toList_append,j,a,i,q];rfl⟩⟩,h⟩);have Y:=Hq (fun(x:ByteArray) (a:x.data.toList=Oct.Bn (Oct.Gy y.data.toList) 4++y.data.toList)=>show x.size≤1000004 from by
   have e:x.size=x.data.toList.length:=(by simp);rw[e,a,List.length_append,Oct.Be];have e2:y.data.toList.length=y.size:=(by simp);omega)
  clear v g u G i hlen q j;generalize Se r w=Q at o ⊢;obtain⟨C,prev,E,kind,p,next,O,⟨ok,os,P,on⟩,F,root,⟨R,S,es⟩,T,U⟩:=r;dsimp only[E1,D7]at f l B ⊢;go_enter Tryz.func254,Tryz.ntmps254
  go_upto_region 3 with(first
   |with_reducible refine lL l.out Ds ?_
   |(go_at_call 301;(with_reducible refine(f.out _ (Ad _ _)).mono ?_);rintro e V ⟨rfl,b⟩))
  have s:=Hq (Ac l.out b);have k:=Hq (Ae (Ad w _) b);clear b l f
  go_upto_region 4 with(first
   |with_reducible refine lL s.out Ds ?_
   |(go_at_call 302;(with_reducible refine(B.out _ k.out).mono ?_);rintro e w2 ⟨rfl,t⟩))
  have J:=Hq (Ae k.out t);clear t k s B
  go_wp2_with(first|(go_at_call 151;refine(M.out _).mono ?_;rintro e w3 ⟨rfl,K⟩)|(go_at_call 260;refine(X.out _).mono ?_;rintro e w4 ⟨x,rfl,a,L⟩;have Z:=Y.out x a;have N:z.size+x.size≤281474976710656:=(by omega)))
  exact o.out _ x a (Ae (Ae J.out K) L)
end Go.Proofs.YtmldoihahndcgaaGreatDoor
namespace Lg
theorem Od {l:Lo}{r:Rc.Rec}(h:¬ Rc.Cv {r with lsn:=l.end_+1}):Ay l r=(l,0,1):=by
 unfold Ay;simp only;rw[if_pos h]
theorem Qf {l:Lo}{r:Rc.Rec}(h:Rc.Cv {r with lsn:=l.end_+1})(a:l.n*128-((Ei {r with lsn:=l.end_+1}).length:Int)<l.end_):Ay l r=(l,0,18):=by
 unfold Ay;simp only;rw[if_neg (fun b=>b h),if_pos a]
theorem Un {l:Lo}{r:Rc.Rec}(h:Rc.Cv {r with lsn:=l.end_+1})(a:¬ l.n*128-((Ei {r with lsn:=l.end_+1}).length:Int)<l.end_):Ay l r=({l with end_:=l.end_+((Ei {r with lsn:=l.end_+1}).length:Int),tail:=l.tail++⟨(Ei {r with lsn:=l.end_+1}).toArray⟩},l.end_+1,0):=by
 unfold Ay;simp only;rw[if_neg (fun b=>b h),if_neg a]
end Lg
namespace Go.Proofs.YtmldoihahndcgaaGreatDoor
open Go.RowKit
theorem bP (r:Rc.Rec)(b:Rc.Cv r)(A D:Option Addr)(c d:Nat)(w:World)(f:Iy w r A c D d)(a:r.kind=2∨r.kind=3∨r.kind=8):
 Cr 254 #[E1 r (.slice A r.txns.length c) (.slice D r.dirty.length d)] w (.tuple #[.string ⟨(Lg.Ei r).toArray⟩,()]):=by
 refine(Sf r A D c d w f a).mono ?_;rintro e w' ⟨⟨x,h⟩,g⟩;rcases h with⟨_,rfl,i⟩|⟨h,_⟩
 ·exact⟨by rw[← i],g⟩
 ·exact absurd b h
theorem gQ (r:Rc.Rec)(b:¬ Rc.Cv r)(A D:Option Addr)(c d:Nat)(w:World)(f:Iy w r A c D d)(a:r.kind=2∨r.kind=3∨r.kind=8):
 Cr 254 #[E1 r (.slice A r.txns.length c) (.slice D r.dirty.length d)] w (.tuple #["",.int .i64 1]):=by
 refine(Sf r A D c d w f a).mono ?_;rintro e w' ⟨⟨x,h⟩,g⟩;rcases h with⟨h,_⟩|⟨_,rfl⟩
 ·exact absurd h b
 ·exact⟨rfl,g⟩
def Sg (x:Lg.Lo×Int×Int)(w:World)(e:Ending)(w':World):Prop:=e= .returned (.tuple #[Oc x.1,x.2.1,x.2.2])∧Bw w w'
theorem bQ (l:Lg.Lo)(ag:0≤l.end_)(ah:l.end_≤1000000000)(ai: -1000000000≤l.n)(aj:l.n≤1000000000)(ht:l.tail.size≤1000000000)(r:Rc.Rec)(A D:Option Addr)(c d:Nat)(w:World)(T:Iy w r A c D d)(a7:r.kind=2∨r.kind=3∨r.kind=8):
 Cq 201 #[Oc l,E1 r (.slice A r.txns.length c) (.slice D r.dirty.length d)] w (Sg (Lg.Ay l r) w):=by
 have Q:=Hq (fun y W (hb:Bw w W)=>bP {r with lsn:=l.end_+1} y A D c d W ⟨T.txns.below hb,T.dirty.below hb,T.small⟩ a7);have R:=Hq (fun y W (hb:Bw w W)=>gQ {r with lsn:=l.end_+1} y A D c d W ⟨T.txns.below hb,T.dirty.below hb,T.small⟩ a7);have HN:=Hq (@Lg.Od l r);have I:=Hq (@Lg.Qf l r);have J:=Hq (@Lg.Un l r);generalize Lg.Ay l r=o at HN I J ⊢;clear T;obtain⟨m,n,a,p,i⟩:=l;obtain⟨lsn,prev,f,kind,b,next,z,⟨ok,os,B,on⟩,g,root,⟨C,E,es⟩,F,G⟩:=r;dsimp only[E1,D7,Oc]at Q R HN I J ag ah ai aj ht ⊢;have ao:IntKind.i64.wrap (a+1)=a+1:=IntWalk.i64_in _ (by omega)
 by_cases y:Rc.Cv ⟨a+1,prev,f,kind,b,next,z,⟨ok,os,B,on⟩,g,root,⟨C,E,es⟩,F,G⟩
 ·have HP:=Hq (Q.out y)
  have v:=Hq (I.out y);have j:=Hq (J.out y);have L:(Lg.Ei ⟨a+1,prev,f,kind,b,next,z,⟨ok,os,B,on⟩,g,root,⟨C,E,es⟩,F,G⟩).length≤40008:=by rw[Lg.Lt];have:=(Rc.Mi y).2;omega
  obtain⟨x,hx⟩:=ex (⟨(Lg.Ei ⟨a+1,prev,f,kind,b,next,z,⟨ok,os,B,on⟩,g,root,⟨C,E,es⟩,F,G⟩).toArray⟩:ByteArray);have a8:(Lg.Ei ⟨a+1,prev,f,kind,b,next,z,⟨ok,os,B,on⟩,g,root,⟨C,E,es⟩,F,G⟩).length=x.size:=by rw[hx];show _=((Lg.Ei ⟨a+1,prev,f,kind,b,next,z,⟨ok,os,B,on⟩,g,root,⟨C,E,es⟩,F,G⟩).toArray).size;simp
  rw[a8]at v j L;rw[← hx]at HP j;have aq:=L;clear Q R HN I J y hx a8 L;go_enter Tryz.func201,Tryz.ntmps201;go_upto_region 1 with fail;have q:=Jo w #[m,n,a,p,i] 30 (Ed lsn prev f kind b next z ok os B on g root C E es (.slice A F.length c) (.slice D G.length d)) 88 #[(),(),(),(),""] 30;obtain⟨U,s⟩:=Dr q;have V:U.heap.size=w.heap.size+3:=by rw[s];simp
  rw[← s]at q ⊢;have X:=Aa q.out.Ag;have Y:=Aa q.out.Ah;have Z:=Ao q.out.Ah;clear s;go_upto_region 2 with fail;have H1:=Hq (show Dm w.heap.size w [(#[m,n,a,p,i],30),((Ed (a+1) prev f kind b next z ok os B on g root C E es (.slice A F.length c) (.slice D G.length d)),88),(#[(),(),(),(),""],30)] (U.setCell ⟨w.heap.size+1,0,none⟩ (.int .i64 (a+1)))from by have h:=q.out.set 1 0 (.int .i64 (a+1)) _ rfl;simpa using h);obtain⟨W1,M⟩:=ex (U.setCell ⟨w.heap.size+1,0,none⟩ (.int .i64 (a+1)));rw[← M]at H1 ⊢;clear M X Y Z q V;have N:=Hq H1.out.Ah
  go_upto_region 3 with(first
   |with_reducible refine lL N.out Ds ?_
   |(go_at_call 254;(with_reducible refine(HP.out _ H1.out.below).mono ?_);rintro e w2 ⟨rfl,O⟩))
  have H:=Hq (H1.out.step O);clear O H1 N HP;have hm:IntKind.i64.wrap (n*128)=n*128:=IntWalk.i64_in _ (by omega);have ar:IntKind.i64.wrap (n*128-(x.size:Int))=n*128-(x.size:Int):=IntWalk.i64_in _ (by omega);have au:IntKind.i64.wrap (a+(x.size:Int))=a+(x.size:Int):=IntWalk.i64_in _ (by omega)
  by_cases a1:n*128-(x.size:Int)<a
  ·have HO:=Hq (v.out a1)
   have k:=Hq (show w2.heap[w.heap.size]? =some (.cells #[m,n,a,p,i] 30 (0,0))from by have h:=H.out.Ag;simpa using h);have aa:=Aa k.out;clear v j
   go_wp2_with(first
    |with_reducible refine lL k.out Fp ?_
    |with_reducible refine lS #[m,n,a,p,i] H.out.Ax ?_)
   refine rT3 () (.int .i64 18) H.out.Ax Fp ?_;rw[HO.out];exact⟨rfl,(H.out.row 2 _ _ rfl).below⟩
  ·have HO:=Hq (j.out (by omega))
   have ad:∀ W:World,(Op.stringOp .add i x).run Tryz.prog W= .ok (.string (i++x)) W:=fun W=>run_string_add_sum W _ _ (by omega);have k:=Hq (show w2.heap[w.heap.size]? =some (.cells #[m,n,a,p,i] 30 (0,0))from by have h:=H.out.Ag;simpa using h);have aa:=Aa k.out;have ak:=Ao k.out;clear v j;go_upto_region 8 with fail;have H3:=Hq (show Dm w.heap.size w [(#[m,n,.int .i64 (a+(x.size:Int)),p,i],30),((Ed (a+1) prev f kind b next z ok os B on g root C E es (.slice A F.length c) (.slice D G.length d)),88),(#[(),(),(),(),""],30)] (w2.setCell ⟨w.heap.size,2,none⟩ (.int .i64 (a+(x.size:Int))))from by have h:=H.out.set 0 2 (.int .i64 (a+(x.size:Int))) _ rfl;simpa using h);obtain⟨W3,ae⟩:=ex (w2.setCell ⟨w.heap.size,2,none⟩ (.int .i64 (a+(x.size:Int))));rw[← ae]at H3 ⊢;clear ae aa ak k H;have al:=Aa H3.out.Ag;have an:=Ao H3.out.Ag;go_upto_region 9 with fail;have H4:=Hq (show Dm w.heap.size w [(#[m,n,.int .i64 (a+(x.size:Int)),p,.string (i++x)],30),((Ed (a+1) prev f kind b next z ok os B on g root C E es (.slice A F.length c) (.slice D G.length d)),88),(#[(),(),(),(),""],30)] (W3.setCell ⟨w.heap.size,4,none⟩ (.string (i++x)))from by have h:=H3.out.set 0 4 (.string (i++x)) _ rfl;simpa using h);obtain⟨W4,af⟩:=ex (W3.setCell ⟨w.heap.size,4,none⟩ (.string (i++x)));rw[← af]at H4 ⊢;clear af al an H3 ad;have t:=Hq H4.out.drew;refine E4 (S:=(fun u=>u.heap[w.heap.size]? =some (.cells #[m,n,.int .i64 (a+(x.size:Int)),p,.string (i++x)] 30 (0,0))∧u.heap[w.heap.size+1]? =some (.cells (Ed (a+1) prev f kind b next z ok os B on g root C E es (.slice A F.length c) (.slice D G.length d)) 88 (0,0)))) (fun P=>?_) (by first|exact hSn|exact⟨(by have h:=t.out.Ag;simpa using h),t.out.Ah⟩);refine Au 0 ?_;refine Au 1 ?_;refine Au 2 ?_;refine Bx 3 fun K hK=>?_;refine Az (by rfl) ?_;refine sW #[m,n,.int .i64 (a+(x.size:Int)),p,.string (i++x)] t.out.Ax ?_;have a6:=t.out.row 2 #[m,n,.int .i64 (a+(x.size:Int)),p,.string (i++x)] _ rfl;have hSn:=And.intro (show _=some (Obj.cells #[m,n,.int .i64 (a+(x.size:Int)),p,.string (i++x)] 30 (0,0))from by have h:=a6.get 0 _ rfl;simpa using h) (a6.get 1 _ rfl);refine Bl hK (fun P=>?_) (by first|exact hSn|exact⟨(by have h:=t.out.Ag;simpa using h),t.out.Ah⟩);clear hK K
   try simp only[Act.put]
   refine Au 4 ?_;refine Au 5 ?_;refine wpAnyH_done Kr ?_ _;clear P;go_wp2_with fail;refine rT3 (.int .i64 (a+1)) () t.out.Ax Fp ?_;rw[HO.out];exact⟨rfl,a6.below⟩
 ·have HO:=Hq (HN.out y)
  have HP:=Hq (R.out y);clear Q R HN I J y;go_enter Tryz.func201,Tryz.ntmps201;go_upto_region 1 with fail;have q:=Jo w #[m,n,a,p,i] 30 (Ed lsn prev f kind b next z ok os B on g root C E es (.slice A F.length c) (.slice D G.length d)) 88 #[(),(),(),(),""] 30;obtain⟨U,s⟩:=Dr q;have V:U.heap.size=w.heap.size+3:=by rw[s];simp
  rw[← s]at q ⊢;have X:=Aa q.out.Ag;have Y:=Aa q.out.Ah;have Z:=Ao q.out.Ah;clear s;go_upto_region 2 with fail;have H1:=Hq (show Dm w.heap.size w [(#[m,n,a,p,i],30),((Ed (a+1) prev f kind b next z ok os B on g root C E es (.slice A F.length c) (.slice D G.length d)),88),(#[(),(),(),(),""],30)] (U.setCell ⟨w.heap.size+1,0,none⟩ (.int .i64 (a+1)))from by have h:=q.out.set 1 0 (.int .i64 (a+1)) _ rfl;simpa using h);obtain⟨W1,M⟩:=ex (U.setCell ⟨w.heap.size+1,0,none⟩ (.int .i64 (a+1)));rw[← M]at H1 ⊢;clear M X Y Z q V;have N:=Hq H1.out.Ah
  go_upto_region 3 with(first
   |with_reducible refine lL N.out Ds ?_
   |(go_at_call 254;(with_reducible refine(HP.out _ H1.out.below).mono ?_);rintro e w2 ⟨rfl,O⟩))
  have H:=Hq (H1.out.step O);clear O H1 N HP;have k:=Hq (show w2.heap[w.heap.size]? =some (.cells #[m,n,a,p,i] 30 (0,0))from by have h:=H.out.Ag;simpa using h)
  go_wp2_with(first
   |with_reducible refine lL k.out Fp ?_
   |with_reducible refine lS #[m,n,a,p,i] H.out.Ax ?_)
  refine rT3 () (.int .i64 1) H.out.Ax Fp ?_;rw[HO.out];exact⟨rfl,(H.out.row 2 _ _ rfl).below⟩
end Go.Proofs.YtmldoihahndcgaaGreatDoor
namespace Lg
theorem Ly {d:Dk}{a:Int}{b:ByteArray}(h: -9223372036854775808≤d.left∧d.left≤9223372036854775807): -9223372036854775808≤(Cl d a b).1.left∧(Cl d a b).1.left≤9223372036854775807:=by
 unfold Cl
 split
 ·exact h
 split
 ·exact h
 split
 ·exact h
 ·show _≤(if 0<d.left then d.left-1 else d.left)∧(if 0<d.left then d.left-1 else d.left)≤_
  split<;>omega
theorem bR {d:Dk}{a:Int}{b:ByteArray}:(Cl d a b).1.sectors.length=d.sectors.length:=by
 unfold Cl
 split
 ·rfl
 split
 ·rfl
 split
 ·rfl
 ·simp
theorem Pp {base:Int}{all:List ByteArray}{k:Nat}{d d2:Dk}(a:Cl d (base+(k:Int)) (all[k]?.getD ⟨#[]⟩)=(d2,0)):Ej base all (k+1) d=Ej base all k d2:=by
 conv=>lhs;unfold Ej
 rw[a,if_pos rfl]
theorem L0 {base:Int}{all:List ByteArray}{k:Nat}{d d2:Dk}{e:Int}(a:e≠0)(b:Cl d (base+(k:Int)) (all[k]?.getD ⟨#[]⟩)=(d2,e)):Ej base all (k+1) d=(d2,e):=by
 unfold Ej;rw[b,if_neg a]
theorem Sh {d:Dk}{l:Lo}(h:l.safe=l.end_):Bo d l=(d,l,0):=by unfold Bo;rw[if_pos h]
theorem Si {d d2:Dk}{l:Lo}{e:Int}(h:¬ l.safe=l.end_)(a:e≠0)(b:Ej (l.from_+Im l) (Mx l) (Mx l).length d=(d2,e)):Bo d l=(d2,l,e):=by
 unfold Bo;rw[if_neg h];simp only[b];rw[if_neg a]
theorem Uo {d d2:Dk}{l:Lo}(h:¬ l.safe=l.end_)(a:Ej (l.from_+Im l) (Mx l) (Mx l).length d=(d2,0)):Bo d l=(d2,Jz l,0):=by
 unfold Bo;rw[if_neg h];simp only[a];rw[if_pos trivial]
theorem mM (l:Lo):(Mx l).length≤l.tail.size/128+2:=by
 unfold Mx;have:=Ii l.tail
 split
 ·rw[List.length_append,List.length_singleton];omega
 ·omega
end Lg
namespace Go.Proofs.YtmldoihahndcgaaGreatDoor
open Go.RowKit
def Ft (x:Lg.Dk×Lg.Lo×Int)(A:Option Addr)(w:World)(e:Ending)(w':World):Prop:=
 ∃ A' c',e= .returned (.tuple #[Cd x.1 A' c',Oc x.2.1,x.2.2])∧By w' x.1 A' c'∧(A'=A∨C4 w.heap.size w' 9 A')∧Bw w w'
theorem bS (L:List ByteArray)(left:Int)(down:Bool)(A:Option Addr)(c:Nat)(fr n en:Int)(b:ByteArray)(o:Lg.Dk×Lg.Lo×Int)(p:o=(⟨L,left,down⟩,⟨fr,n,en,en,b⟩,0))(w:World)(h:By w ⟨L,left,down⟩ A c):
 Cq 230 #[.agg #[.slice A L.length c,left,down],.agg #[fr,n,en,en,b]] w (Ft o A w):=by
 have r:=Hq (fun w' (q:Bw w w')=>show Ft o A w (.returned (.tuple #[.agg #[.slice A L.length c,left,down],.agg #[fr,n,en,en,b],()])) w' from by
  subst p;exact⟨A,c,rfl,⟨h.secs.below q,h.small⟩,.inl rfl,q⟩)
 have d:(en==en)=true:=by simp
 clear p h;go_enter Tryz.func230,Tryz.ntmps230;go_upto_region 1 with fail;have i:=uW w #[.slice A L.length c,left,down] 28 #[fr,n,en,en,b] 30 #['s',(),false] 28 #[(),(),(),(),""] 30;have l:((((w.alloc (.cells #[.slice A L.length c,left,down] 28)).alloc (.cells #[fr,n,en,en,b] 30)).alloc (.cells #['s',(),false] 28)).alloc (.cells #[(),(),(),(),""] 30)).heap.size=w.heap.size+4:=by simp
 obtain⟨s,e⟩:=Dr i;rw[← e]at i l ⊢;clear e;have m:=Aa i.out.Ah;go_upto_region 2 with fail;clear m d;have j:=Hq i.out.drew;refine E4 (S:=(fun u=>u.heap[w.heap.size]? =some (.cells #[.slice A L.length c,left,down] 28 (0,0))∧u.heap[w.heap.size+1]? =some (.cells #[fr,n,en,en,b] 30 (0,0)))) (fun a=>?_) ⟨(j.out.Ag),(j.out.Ah)⟩;refine Au 0 ?_;refine Au 1 ?_;refine Bx 2 fun K f=>?_;refine Az (by rfl) ?_;refine sW #[.slice A L.length c,left,down] j.out.Ax ?_;have k:=Hq (j.out.row 2 #[.slice A L.length c,left,down] _ rfl);have hSn:=And.intro (k.out.Ag) (k.out.Ah);refine Bl f (fun a=>?_);clear f K
 try simp only[Act.put]
 refine Bx 3 fun K f=>?_;refine Az (by rfl) ?_;refine sW #[fr,n,en,en,b] k.out.g3 ?_;have g:=Hq (k.out.row 3 #[fr,n,en,en,b] _ rfl);clear hSn;have hSn:=And.intro (g.out.Ag) (g.out.Ah);refine Bl f (fun a=>?_);clear f K
 try simp only[Act.put]
 refine Au 4 ?_;refine wpAnyH_done Kr ?_ _;clear a hSn;go_wp2_with fail;refine bodyPost_ret (v:=.tuple #[.agg #[.slice A L.length c,left,down],.agg #[fr,n,en,en,b],()]) (Ez rfl _ _ rfl rfl (Ct g.out.Ax Bz Kr Kr) (Ct g.out.g3 Fp Kr Kr) rfl) rfl ?_;exact r.out _ g.out.below
theorem mN (d:Lg.Dk)(cg: -9223372036854775808≤d.left∧d.left≤9223372036854775807)(A:Option Addr)(c:Nat)(fr n en G:Int)(a:ByteArray)(b2:¬ G=en)(eh:0≤en)(dr:en≤1000000000)(_hn0: -1000000000≤n)(_hn1:n≤1000000000)(ei: -1000000000≤fr)(ej:fr≤1000000000)(ht:a.size≤1000000)(ek:(a.size:Int)≤en)(ch:en%128≤(a.size:Int))(w:World)(h:By w d A c):
 Cq 230 #[.agg #[.slice A d.sectors.length c,d.left,d.down],.agg #[fr,n,en,G,a]] w (Ft (Lg.Bo d ⟨fr,n,en,G,a⟩) A w):=by
 have af:=Hq (fun d2 e (he:e≠0) hp=> @Lg.Si d d2 ⟨fr,n,en,G,a⟩ e b2 he hp);have ag:=Hq (fun d2 hp=> @Lg.Uo d d2 ⟨fr,n,en,G,a⟩ b2 hp);have HO:=Hq (fun A' c' w' x (hx:Lg.Bo d ⟨fr,n,en,G,a⟩=x) (h1:By w' x.1 A' c') (h2:A'=A∨C4 w.heap.size w' 9 A') (h3:Bw w w')=>show Ft (Lg.Bo d ⟨fr,n,en,G,a⟩) A w (.returned (.tuple #[Cd x.1 A' c',Oc x.2.1,x.2.2])) w' from⟨A',c',by rw[hx],by rw[hx];exact h1,h2,h3⟩);have bn:=Lg.mM ⟨fr,n,en,G,a⟩;have cj:=Lg.Ii a;have ah:=Hq (fun W=>qE a ht W);obtain⟨C,hC⟩:=ex (Lg.Kc a);obtain⟨all,ai⟩:=ex (Lg.Mx ⟨fr,n,en,G,a⟩);have L:=Hq (show all=if(en-(a.size:Int))/128+(C.length:Int)<n then C++[Lg.Cs]else C from by rw[ai,hC];rfl);rw[← ai]at af ag bn;rw[← hC]at ah cj;have aj:Lg.Im ⟨fr,n,en,G,a⟩=(en-(a.size:Int))/128:=rfl;rw[aj]at af ag;generalize Lg.Bo d ⟨fr,n,en,G,a⟩=o at af ag HO ⊢;generalize Ft o A w=Q at HO ⊢;have ak:Hid (∀ W,Cr 132 #[.string ⟨#[0]⟩,.int .i64 128] W (.string Lg.Cs)):=Hq (fun W=>by
  have h1:=Tryz.strings_Repeat ⟨#[0]⟩ 128 W (by omega) (by show 1*128≤_;omega);have e:(⟨(Lib.repeatL (⟨#[0]⟩:ByteArray).data.toList 128).toArray⟩:ByteArray)=Lg.Cs:=Lg.Lx 128;rw[e]at h1;exact h1)
 have bo:=Lg.Iz;have ck:∀ b∈all,b.size=128:=by
  rw[L.out,hC];intro b hb
  split at hb
  ·rcases List.mem_append.1 hb with h1|h1
   ·exact Lg.Mk a b h1
   ·rw[List.mem_singleton.1 h1];exact bo
  ·exact Lg.Mk a b hb
 have ds:=Hq ck;generalize Lg.Cs=z at ak L bo;have HR:=Hq h;have cm:(G==en)=false:=by simpa using b2
 have dt:C.length≤10000:=by omega
 have du:all.length≤10000:=by simp only at bn;omega
 have dv:=Hq cg;obtain⟨F,hF⟩:=ex ((en-(a.size:Int))/128:Int);have eo:0≤F:=by omega
 have ep:F≤10000000:=by omega
 have dw:0≤en-(a.size:Int):=by omega
 have dx:IntKind.i64.wrap (en-(a.size:Int))=en-(a.size:Int):=IntWalk.i64_in _ (by omega);have dy:=Hq hF;rw[← hF]at af ag L;clear h b2 hC ai bn cj aj ck bo cg;go_enter Tryz.func230,Tryz.ntmps230;go_upto_region 1 with fail;have H0:=uW w #[.slice A d.sectors.length c,d.left,d.down] 28 #[fr,n,en,G,a] 30 #['s',(),false] 28 #[(),(),(),(),""] 30;have cn:((((w.alloc (.cells #[.slice A d.sectors.length c,d.left,d.down] 28)).alloc (.cells #[fr,n,en,G,a] 30)).alloc (.cells #['s',(),false] 28)).alloc (.cells #[(),(),(),(),""] 30)).heap.size=w.heap.size+4:=by simp
 obtain⟨W0,cp⟩:=Dr H0;rw[← cp]at H0 cn ⊢;clear cp;have al:=Aa H0.out.Ah;go_upto_region 4 with fail;rw[← dy.out];clear hF dw dx cm
 go_upto_region 5 with(go_at_call 283;(with_reducible refine(ah.out _).mono ?_);rintro e w1 ⟨v8,rfl,a8,b3⟩;obtain⟨A8,c8,rfl⟩:=Jb a8;have al:=Aa ((H0.out.step b3).get 1 _ rfl))
 have H1:=Hq (H0.out.step b3);have bp:=Hq (dY a8 (show w.heap.size+4≤W0.heap.size by omega));have bq:w.heap.size+4≤w1.heap.size:=by have:=b3.size;omega
 clear a8 b3 ah H0 cn;have dz:IntKind.i64.wrap (F+(C.length:Int))=F+(C.length:Int):=IntWalk.i64_in _ (by omega);go_upto_if 35 with fail
 go_cut [8] (fun s8 wc=>∃ A8 c8,s8= .slice A8 all.length c8∧E7 G9 1 9 (w.heap.size+4) wc (.slice A8 all.length c8) all∧Dm w.heap.size w [(#[.slice A d.sectors.length c,d.left,d.down],28),(#[fr,n,en,G,a],30),(#['s',(),false],28),(#[(),(),(),(),""],30)] wc)
 case first=>
  by_cases bd:F+(C.length:Int)<n
  ·have an:all=C++[z]:=by rw[L.out,if_pos bd]
   have P:=Hq an;clear an
   go_wp2_with(first
    |(go_at_call 132;(with_reducible refine(ak.out _).mono ?_);rintro e w2 ⟨rfl,b4⟩;have H2:=Hq (H1.out.step b4);have e0:=Hq (Cm bp.out b4);have U:=Hq b4;clear b4)
    |(at_builtin;refine Le Kr (.tmp 36) (.tmp 38) 26 9 Vd J0 rfl (by omega) (by omega) rfl (w.heap.size+4) _ C.length (C.flatMap G9) rfl (Cm e0.out (Ad _ _)) w2.heap.size (G9 z) 9 rfl (heap_alloc_new w2 _) rfl (by simp[G9,Value.oneCell']) (by omega) (by have:=U.out.size;simp;omega) ?_;intro v7 w7 ho hg hb;obtain⟨A7,c7,rfl⟩:=Jb ho;have H7:=Hq ((H2.out.step (Ad w2 (.cells #[z] 9))).under (M:=w.heap.size+4) (Nat.le_refl _) hb);have ao:=Hq (E7.push (enc:=G9) (x:=z) ho);have b5:=Hq hg;clear ho hg hb))
   go_meet
   case rel=>
    refine⟨A7,c7,?_,?_,H7.out⟩
    ·rw[P.out,List.length_append];rfl
    ·have h7:=ao.out
     have e7:(C++[z]).length=C.length+1:=(by simp);rw[P.out,e7];exact h7
  ·have an:all=C:=by rw[L.out,if_neg bd]
   have P:=Hq an;clear an;go_wp2_with fail;go_meet
   case rel=>
    refine⟨A8,c8,?_,?_,H1.out⟩
    ·rw[P.out]
    ·rw[P.out];exact bp.out
 case rest=>
  obtain⟨A8,c8,rfl,a8,aq⟩:=hcut;obtain⟨wa,rfl⟩:=ex wc;have cq:=Hq a8;have br:=Hq aq;clear a8 aq bp H1 L ak bq dz dt;have cr:IntKind.i64.wrap ((all.length:Int)-1)=(all.length:Int)-1:=IntWalk.i64_in _ (by omega);go_wp2_with fail
  go_loopw [9] (fun i wr=>∃ (x:Int) (d2:Lg.Dk) (T:Option Addr) (c2:Nat),i= .int .i64 x∧-1≤x∧x<all.length∧Lg.Ej (fr+F) all all.length d=Lg.Ej (fr+F) all (x+1).toNat d2∧Dm w.heap.size w [(#[.slice T d2.sectors.length c2,d2.left,d2.down],28),(#[fr,n,en,G,a],30),(#['s',(),false],28),(#[(),(),(),(),""],30)] wr∧By wr d2 T c2∧(T=A∨C4 (w.heap.size+4) wr 9 T)∧(-9223372036854775808≤d2.left∧d2.left≤9223372036854775807)∧d2.sectors.length=d.sectors.length∧E7 G9 1 9 (w.heap.size+4) wr (.slice A8 all.length c8) all) (fun i _=>(intOf i+1).toNat)
  case atStart=>exact⟨(all.length:Int)-1,d,A,c,rfl,by omega,by omega,by rw[show((all.length:Int)-1+1).toNat=all.length by omega],br.out,⟨HR.out.secs.below br.out.below,HR.out.small⟩,.inl rfl,dv.out,rfl,cq.out⟩
  case round=>
   obtain⟨x,d2,T,c2,rfl,e1,e2,bf,aq,ct,cu,bg,bh,bj⟩:=hrel;have a1:=Hq bf;have aa:=Hq aq;have ar:=Hq ct;have au:=Hq cu;have bs:=Hq bj;have bt:=Hq bh;have bk:=Hq bg;have bl:=Hq (show 0<d2.sectors.length→∀ O,T=some O→O.block<w.heap.size∨w.heap.size+4≤O.block from fun h0 O e=>by
    rcases au.out with h1|h1
    ·rw[h1]at e
     exact .inl (HR.out.secs.Bd (by rw[← bt.out];exact h0) O e)
    ·exact .inr (h1 O e).1)
   clear bf aq ct cu bj bh bg br cq
   by_cases h0:x= -1
   ·subst h0
    have av:=Hq (ag.out d2 (a1.out.trans rfl));clear e1 e2 cr;obtain⟨m,hm⟩:=Int.eq_ofNat_of_zero_le (show 0≤en%128 by omega);have e4:(m:Int)≤(a.size:Int):=(by omega);have e5:IntKind.i64.wrap ((a.size:Int)-(m:Int))=(a.size:Int)-(m:Int):=IntWalk.i64_in _ (by omega);have e6:(0:Int)≤(a.size:Int)-(m:Int):=(by omega);have e8:(a.size:Int)-(m:Int)≤(a.size:Int):=(by omega);have e9:((a.size:Int)-(m:Int)).toNat=a.size-m:=(by omega);have cv:=Hq (show Lg.Jz ⟨fr,n,en,G,a⟩=⟨fr,n,en,en,a.extract (a.size-m) a.size⟩from by
     unfold Lg.Jz;simp only[hm,Int.toNat_natCast])
    have al:=Aa aa.out.Ah;have bu:=Ao aa.out.Ah;go_upto_region 15 with fail;have U:=Hq (show Dm w.heap.size w [(#[.slice T d2.sectors.length c2,d2.left,d2.down],28),(#[fr,n,en,en,a],30),(#['s',(),false],28),(#[(),(),(),(),""],30)] (wr.setCell ⟨w.heap.size+1,3,none⟩ (.int .i64 en))from by have h:=aa.out.set 1 3 (.int .i64 en) _ rfl;simpa using h);have aw:=Hq ((E8.refl w.heap.size (w.heap.size+4) wr).cell (w.heap.size+1) 3 (.int .i64 en) (by omega) (by omega));obtain⟨W2,cw⟩:=ex (wr.setCell ⟨w.heap.size+1,3,none⟩ (.int .i64 en));rw[← cw]at U aw ⊢;clear cw al bu;have al:=Aa U.out.Ah;have bu:=Ao U.out.Ah;go_upto_region 16 with fail;have V:=Hq (show Dm w.heap.size w [(#[.slice T d2.sectors.length c2,d2.left,d2.down],28),(#[fr,n,en,en,.string (a.extract (a.size-m) a.size)],30),(#['s',(),false],28),(#[(),(),(),(),""],30)] (W2.setCell ⟨w.heap.size+1,4,none⟩ (.string (a.extract (a.size-m) a.size)))from by have h:=U.out.set 1 4 (.string (a.extract (a.size-m) a.size)) _ rfl;simpa using h);have ax:=Hq (aw.out.cell (w.heap.size+1) 4 (.string (a.extract (a.size-m) a.size)) (by omega) (by omega));obtain⟨W3,cx⟩:=ex (W2.setCell ⟨w.heap.size+1,4,none⟩ (.string (a.extract (a.size-m) a.size)));rw[← cx]at V ax ⊢;clear cx al bu e4 e5 e6 e8 e9 hm U aw;obtain⟨ay,bm⟩:=ex (a.extract (a.size-m) a.size);rw[← bm]at V cv;clear bm ch;have HD:=Hq V.out.drew;refine E4 (S:=(fun u=>u.heap[w.heap.size]? =some (.cells #[.slice T d2.sectors.length c2,d2.left,d2.down] 28 (0,0))∧u.heap[w.heap.size+1]? =some (.cells #[fr,n,en,en,ay] 30 (0,0)))) (fun f=>?_) ⟨(HD.out.Ag),(HD.out.Ah)⟩;refine Au 0 ?_;refine Au 1 ?_;refine Bx 2 fun K B=>?_;refine Az (by rfl) ?_;refine sW #[.slice T d2.sectors.length c2,d2.left,d2.down] HD.out.Ax ?_;have HE:=Hq (HD.out.row 2 #[.slice T d2.sectors.length c2,d2.left,d2.down] _ rfl);have hSn:=And.intro (HE.out.Ag) (HE.out.Ah);refine Bl B (fun f=>?_);clear B K
    try simp only[Act.put]
    refine Bx 3 fun K B=>?_;refine Az (by rfl) ?_;refine sW #[fr,n,en,en,ay] HE.out.g3 ?_;have HG:=Hq (HE.out.row 3 #[fr,n,en,en,ay] _ rfl);clear hSn;have hSn:=And.intro (HG.out.Ag) (HG.out.Ah);refine Bl B (fun f=>?_);clear B K
    try simp only[Act.put]
    refine Au 4 ?_;refine wpAnyH_done Kr ?_ _;clear f hSn;go_wp2_with fail;refine bodyPost_ret (v:=.tuple #[.agg #[.slice T d2.sectors.length c2,d2.left,d2.down],.agg #[fr,n,en,en,ay],()]) (Ez rfl _ _ rfl rfl (Ct HG.out.Ax Bz Kr Kr) (Ct HG.out.g3 Fp Kr Kr) rfl) rfl ?_;exact HO.out T c2 _ (d2,⟨fr,n,en,en,ay⟩,0) (av.out.trans (by rw[cv.out])) ⟨ar.out.secs.apart (((ax.out.drew).row _ _ (by omega) (by omega)).row _ _ (by omega) (by omega)) bl.out,ar.out.small⟩ (au.out.imp id (fun h=>(h.apart (lo:=w.heap.size) (hi:=w.heap.size+4) (((ax.out.drew).row _ _ (by omega) (by omega)).row _ _ (by omega) (by omega)) (Nat.le_refl _)).mono (by omega))) HG.out.below
   ·obtain⟨k,rfl⟩:=Int.eq_ofNat_of_zero_le (show 0≤x by omega)
    have b6:k<all.length:=(by omega);have er:(k:Int)<(all.length:Int):=(by omega);have et:(0:Int)≤(k:Int):=(by omega);obtain⟨g8,cap,hv,eu,b7,eg,I,-,-⟩:=kS bs.out b6
    injection hv with ea ev eb
    subst ea eb;rw[Lw,List.getElem?_map,List.getElem?_eq_getElem b6]at I;simp only[Option.map_some]at I;have cy:=ds.out all[k] (List.getElem_mem b6);have HY:=Hq (show all[k]?.getD ⟨#[]⟩=all[k] by rw[List.getElem?_eq_getElem b6];rfl);generalize all[k]=y at I cy HY;have r:=Hq I;rw[show((k:Int)+1).toNat=k+1 by omega]at a1;have b8:=Hq (fun W hW=>Sa d2 bk.out T c2 (fr+F+(k:Int)) y W hW);have a6:= @Lg.Ly d2 (fr+F+(k:Int)) y bk.out;have b9:= @Lg.bR d2 (fr+F+(k:Int)) y;rcases hx:Lg.Cl d2 (fr+F+(k:Int)) y with⟨d3,e3⟩;have bw:=Hq (fun(he:e3=0)=>Lg.Pp (base:=fr+F) (all:=all) (k:=k) (d:=d2) (d2:=d3) (by rw[HY.out,hx,he]));have az:=Hq (fun(he:e3≠0)=>Lg.L0 (base:=fr+F) (all:=all) (k:=k) (d:=d2) (d2:=d3) he (by rw[HY.out,hx]));rw[hx]at b8 a6 b9;simp only at a6 b9;have bx:=Hq (b9.trans bt.out);have ec:=Hq a6;clear hx a6 b9 I cy h0 cr;have bq:IntKind.i64.wrap (fr+F)=fr+F:=IntWalk.i64_in _ (by omega);have ed:IntKind.i64.wrap (fr+F+(k:Int))=fr+F+(k:Int):=IntWalk.i64_in _ (by omega);go_upto_region 10 with fail
    go_cut [10,11] (fun p q wc=>∃ (g:Nat) (l:Option Addr) (c3:Nat),p= .pointer (some ⟨g,0,none⟩)∧q= .int .i64 e3∧Dm w.heap.size w [(#[.slice T d2.sectors.length c2,d2.left,d2.down],28),(#[fr,n,en,G,a],30),(#['s',(),false],28),(#[(),(),(),(),""],30)] wc∧w.heap.size+4≤g∧wc.heap[g]? =some (.cells #[.slice l d3.sectors.length c3,d3.left,d3.down] 28 (0,0))∧By wc d3 l c3∧(l=A∨C4 (w.heap.size+4) wc 9 l)∧E7 G9 1 9 (w.heap.size+4) wc (.slice (some ⟨g8,0,none⟩) all.length c8) all)
    case first=>
     have s:=Hq aa.out.drew;have cz:=Hq (Cm bs.out (Below.refl _ wr).drew);have da:=Hq (ar.out.below (Below.refl _ wr).drew);have ew:=aa.out.lt (i:=3) (by simp);have ey:wr.heap.size≤wr.drew.heap.size:=Nat.le_refl _;refine E4 (S:=(fun u=>u.heap[w.heap.size]? =some (.cells #[.slice T d2.sectors.length c2,d2.left,d2.down] 28 (0,0))∧u.heap[w.heap.size+1]? =some (.cells #[fr,n,en,G,a] 30 (0,0))∧u.cell? ⟨g8,k,none⟩=some (.string y))) (fun f=>?_) (by first|exact hSn|exact⟨s.out.Ag,s.out.Ah,r.out⟩);refine P4 0 (some 48) (v:=?_) rfl ?_ (P4 1 (some 49) (v:=?_) rfl ?_ (P4 2 (some 50) (v:=?_) rfl ?_ (P4 3 (some 51) (v:=?_) rfl ?_ (P4 4 (some 52) (v:=?_) rfl ?_ (P4 5 (some 53) (v:=?_) rfl ?_ (P4 6 (some 54) (v:=?_) rfl ?_ (P4 7 (some 55) (v:=?_) rfl ?_ (P4 8 (some 56) (v:=?_) rfl ?_ (P4 9 (some 57) (v:=?_) rfl ?_ (P4 10 (some 58) (v:=?_) rfl ?_ ?_))))))))))
     iterate 11 (rotate_left;focus(intro u N;obtain⟨D,E,ba⟩:=N;have D:=Aa D;have E:=Aa E;go_simp;(try with_reducible rfl)))
     try simp only[Act.put,pS]
     refine wpAnyH_ready (rs:=[11,15]) Kr (by simp) ?_;refine(AllReadyH.cons (o:={dst:=some 59,op:=_,type:=_,pos:=_,after:=_,guard:=_}) rfl (fun K B=>?_) (AllReadyH.cons (o:={dst:=some 10,op:=_,type:=_,pos:=_,after:=_,guard:=_}) rfl (fun K B=>?_) AllReadyH.nil))
     ·
      go_simp
      refine(b8.out _ da.out).mono ?_;rintro e t ⟨l,c3,rfl,R,X,H⟩;have Y:=Hq (s.out.step H);have bb:=Hq (Cm cz.out H);have b0:=(H.cell (p:=⟨g8,k,none⟩) (by first|exact b7|(simp;omega))).trans r.out;have hSn:=And.intro Y.out.Ag (And.intro Y.out.Ah b0);refine Bl B (fun f=>?_) (by first|exact hSn|exact⟨s.out.Ag,s.out.Ah,r.out⟩);clear B K;refine P4 12 (some 47) (v:=?_) rfl ?_ (P4 13 (some 60) (v:=?_) rfl ?_ (P4 14 (some 61) (v:=?_) rfl ?_ ?_))
      iterate 3 (rotate_left;focus(intro u N;obtain⟨D,E,ba⟩:=N;have D:=Aa D;have E:=Aa E;go_simp;(try with_reducible rfl)))
      try simp only[Act.put,pS]
      refine Bx 15 fun K B=>?_
      go_simp
      have bz:=Hq (Y.out.step (Ad t (.cells #['s',(),false] 28)));have db:=Hq (Cm bb.out (Ad t (.cells #['s',(),false] 28)));have dc:=R.below (Ad t (.cells #['s',(),false] 28));have dd:=((Ad t (.cells #['s',(),false] 28)).cell (p:=⟨g8,k,none⟩) (Nat.lt_of_lt_of_le b7 H.size)).trans b0;have J:=heap_alloc_new t (.cells #['s',(),false] 28);clear hSn;have hSn:=And.intro bz.out.Ag (And.intro bz.out.Ah dd);refine Bl B (fun f=>?_) (by first|exact hSn|exact⟨s.out.Ag,s.out.Ah,r.out⟩);clear B K;refine Bx 16 fun K B=>?_;refine Az (by rfl) ?_;refine sW #[.slice l d3.sectors.length c3,d3.left,d3.down] J ?_;have ae:w.heap.size+4≤t.heap.size:=(by have:=H.size;omega);have b1:=Hq ((E8.refl t.heap.size (t.heap.size+1) (t.alloc (.cells #['s',(),false] 28))).row t.heap.size #[.slice l d3.sectors.length c3,d3.left,d3.down] (Nat.le_refl _) (Nat.lt_succ_self _));have Z:=Hq (bz.out.under (M:=t.heap.size) (by show w.heap.size+4≤_;exact ae) (show Below t.heap.size (t.alloc (.cells #['s',(),false] 28)) ((t.alloc (.cells #['s',(),false] 28)).setRow t.heap.size #[.slice l d3.sectors.length c3,d3.left,d3.down])from⟨rfl,rfl,rfl,b1.out.size,fun j hj=>Aj (t.alloc (.cells #['s',(),false] 28)) t.heap.size #[.slice l d3.sectors.length c3,d3.left,d3.down] j (by omega)⟩));have c6:By ((t.alloc (.cells #['s',(),false] 28)).setRow t.heap.size #[.slice l d3.sectors.length c3,d3.left,d3.down]) d3 l c3:=⟨dc.secs.apart b1.out (fun h0 O e=>.inl (R.secs.Bd h0 O e)),dc.small⟩;have b5:((t.alloc (.cells #['s',(),false] 28)).setRow t.heap.size #[.slice l d3.sectors.length c3,d3.left,d3.down]).heap[t.heap.size]? =some (.cells #[.slice l d3.sectors.length c3,d3.left,d3.down] 28 (0,0)):=setRow_heap _ _ _ _ _ _ J;have ao:=Xg db.out J (by decide) #[.slice l d3.sectors.length c3,d3.left,d3.down];have ca:=(O6 (cs:=#[.slice l d3.sectors.length c3,d3.left,d3.down]) dd J (dZ db.out J (by decide)));clear hSn;have hSn:=And.intro Z.out.Ag (And.intro Z.out.Ah ca);refine Bl B (fun f=>?_) (by first|exact hSn|exact⟨s.out.Ag,s.out.Ah,r.out⟩);clear B K
      try simp only[Act.put]
      refine Au 17 ?_ (hy:=by intro u N;obtain⟨D,E,ba⟩:=N;have D:=Aa D;have E:=Aa E;go_simp;(try with_reducible rfl));refine wpAnyH_done Kr ?_ _;clear f hSn;go_wp2_with fail;go_meet
      case rel=>exact⟨_,l,c3,rfl,rfl,Z.out,ae,b5,c6,(X.elim (fun h1=>by rw[h1];exact au.out.imp id (fun h2=>(((h2.below (Below.refl _ wr).drew).below H).below (Ad t (.cells #['s',(),false] 28))).row _ _)) (fun h1=>.inr (((h1.below (Ad t (.cells #['s',(),false] 28))).row _ _).mono (by first|(simp;omega)|omega)))),ao⟩
     ·
      go_simp
      have cb:=Hq (s.out.step (Ad wr.drew (.cells #['s',(),false] 28)));have ee:=Hq (Cm cz.out (Ad wr.drew (.cells #['s',(),false] 28)));have ef:=Hq (da.out.below (Ad wr.drew (.cells #['s',(),false] 28)));have de:=Hq (((Ad wr.drew (.cells #['s',(),false] 28)).cell (p:=⟨g8,k,none⟩) b7).trans r.out);have hSn:=And.intro cb.out.Ag (And.intro cb.out.Ah de.out);refine Bl B (fun f=>?_) (by first|exact hSn|exact⟨s.out.Ag,s.out.Ah,r.out⟩);clear B K;refine Bx 11 fun K B=>?_
      go_simp
      refine(b8.out _ ef.out).mono ?_;rintro e t ⟨l,c3,rfl,R,X,H⟩;have Y:=Hq (cb.out.step H);have bb:=Hq (Cm ee.out H);have b0:=(H.cell (p:=⟨g8,k,none⟩) (by first|exact b7|(simp;omega))).trans de.out;have hSn:=And.intro Y.out.Ag (And.intro Y.out.Ah b0);have J:=Cb H;refine Bl B (fun f=>?_) (by first|exact hSn|exact⟨s.out.Ag,s.out.Ah,r.out⟩);clear B K;refine P4 12 (some 47) (v:=?_) rfl ?_ (P4 13 (some 60) (v:=?_) rfl ?_ (P4 14 (some 61) (v:=?_) rfl ?_ ?_))
      iterate 3 (rotate_left;focus(intro u N;obtain⟨D,E,ba⟩:=N;have D:=Aa D;have E:=Aa E;go_simp;(try with_reducible rfl)))
      try simp only[Act.put,pS]
      refine Bx 16 fun K B=>?_;refine Az (by rfl) ?_;refine sW #[.slice l d3.sectors.length c3,d3.left,d3.down] J ?_;have ae:w.heap.size+4≤wr.drew.heap.size:=(by omega);have b1:=Hq ((E8.refl wr.drew.heap.size (wr.drew.heap.size+1) t).row wr.drew.heap.size #[.slice l d3.sectors.length c3,d3.left,d3.down] (Nat.le_refl _) (Nat.lt_succ_self _));have Z:=Hq (Y.out.under (M:=wr.drew.heap.size) (by show w.heap.size+4≤_;exact ae) (show Below wr.drew.heap.size t (t.setRow wr.drew.heap.size #[.slice l d3.sectors.length c3,d3.left,d3.down])from⟨rfl,rfl,rfl,b1.out.size,fun j hj=>Aj t wr.drew.heap.size #[.slice l d3.sectors.length c3,d3.left,d3.down] j (by omega)⟩));have c6:By (t.setRow wr.drew.heap.size #[.slice l d3.sectors.length c3,d3.left,d3.down]) d3 l c3:=⟨R.secs.apart b1.out (fun h0 O e=>X.elim (fun h1=>by rw[h1]at e;have:=ar.out.secs.Bd (by rw[bt.out,← bx.out];exact h0) O e;left;exact this) (fun h1=>by have:=h1 O e;right;have:=this.1;simp at this ⊢;omega)),R.small⟩;have b5:(t.setRow wr.drew.heap.size #[.slice l d3.sectors.length c3,d3.left,d3.down]).heap[wr.drew.heap.size]? =some (.cells #[.slice l d3.sectors.length c3,d3.left,d3.down] 28 (0,0)):=setRow_heap _ _ _ _ _ _ J;have ao:=Xg bb.out J (by decide) #[.slice l d3.sectors.length c3,d3.left,d3.down];have ca:=(O6 (cs:=#[.slice l d3.sectors.length c3,d3.left,d3.down]) b0 J (dZ bb.out J (by decide)));clear hSn;have hSn:=And.intro Z.out.Ag (And.intro Z.out.Ah ca);refine Bl B (fun f=>?_) (by first|exact hSn|exact⟨s.out.Ag,s.out.Ah,r.out⟩);clear B K
      try simp only[Act.put]
      refine Au 17 ?_ (hy:=by intro u N;obtain⟨D,E,ba⟩:=N;have D:=Aa D;have E:=Aa E;go_simp;(try with_reducible rfl));refine wpAnyH_done Kr ?_ _;clear f hSn;go_wp2_with fail;go_meet
      case rel=>exact⟨_,l,c3,rfl,rfl,Z.out,ae,b5,c6,(X.elim (fun h1=>by rw[h1];exact au.out.imp id (fun h2=>(((h2.below (Below.refl _ wr).drew).below (Ad wr.drew (.cells #['s',(),false] 28))).below H).row _ _)) (fun h1=>.inr ((h1.row _ _).mono (by first|(simp;omega)|omega)))),ao⟩
    case rest=>
     obtain⟨g,l,c3,rfl,rfl,df,ae,dh,R,X,di⟩:=hcut;obtain⟨wb,rfl⟩:=ex wc;have V:=Hq df;have dj:=Hq dh;have cc:=Hq R;have dk:=Hq di;have dm:=Hq X;have dn:=Hq (show 0<d3.sectors.length→∀ O,l=some O→O.block<w.heap.size∨w.heap.size+4≤O.block from fun h0 O e=>dm.out.elim (fun h1=>by rw[h1]at e;exact .inl (HR.out.secs.Bd (by rw[← bx.out];exact h0) O e)) (fun h1=>.inr (h1 O e).1));clear df dh R di X aa bs ar au bl b8 r bq ed
     go_upto_region 12 with(first
      |with_reducible refine lL dj.out Bz ?_
      |with_reducible refine lS #[.slice l d3.sectors.length c3,d3.left,d3.down] V.out.Ag ?_)
     have cd:=Hq (show Dm w.heap.size w [(#[.slice l d3.sectors.length c3,d3.left,d3.down],28),(#[fr,n,en,G,a],30),(#['s',(),false],28),(#[(),(),(),(),""],30)] (wb.setRow w.heap.size #[.slice l d3.sectors.length c3,d3.left,d3.down])from by have h:=V.out.row 0 #[.slice l d3.sectors.length c3,d3.left,d3.down] _ rfl;simpa using h);have a7:=Hq ((E8.refl w.heap.size (w.heap.size+4) wb).row w.heap.size #[.slice l d3.sectors.length c3,d3.left,d3.down] (Nat.le_refl _) (by omega));have dp:=Hq (kR dk.out (Nat.le_refl _) a7.out);have bc:=Hq (show By (wb.setRow w.heap.size #[.slice l d3.sectors.length c3,d3.left,d3.down]) d3 l c3 from⟨cc.out.secs.apart a7.out dn.out,cc.out.small⟩);have cf:=Hq (dm.out.imp id (fun h=>h.row w.heap.size #[.slice l d3.sectors.length c3,d3.left,d3.down]));obtain⟨W4,dq⟩:=ex (wb.setRow w.heap.size #[.slice l d3.sectors.length c3,d3.left,d3.down]);rw[← dq]at cd a7 dp bc cf ⊢;clear dq V dj cc dk a7
     by_cases he:e3=0
     ·have HG:=Hq (a1.out.trans (bw.out he))
      subst he;clear bw az;have ez:IntKind.i64.wrap ((k:Int)-1)=(k:Int)-1:=IntWalk.i64_in _ (by omega);go_wp2_with fail;go_roundw
      case rel=>exact⟨(k:Int)-1,d3,l,c3,rfl,by omega,by omega,by rw[show((k:Int)-1+1).toNat=k by omega];exact HG.out,cd.out,bc.out,cf.out,ec.out,bx.out,dp.out⟩
      case measure=>first|(simp[intOf];done)|(simp[intOf];omega)
     ·have av:=Hq (af.out d3 e3 he (a1.out.trans (az.out he)))
      have dr:(e3==0)=false:=(by simpa using he);have fa:(e3 != 0)=true:=(by simpa using he);clear bw az he;go_upto_region 13 with fail;have HD:=Hq cd.out.drew;refine E4 (S:=(fun u=>u.heap[w.heap.size]? =some (.cells #[.slice l d3.sectors.length c3,d3.left,d3.down] 28 (0,0))∧u.heap[w.heap.size+1]? =some (.cells #[fr,n,en,G,a] 30 (0,0)))) (fun f=>?_) ⟨(HD.out.Ag),(HD.out.Ah)⟩;refine Au 0 ?_;refine Au 1 ?_;refine Au 2 ?_;refine Bx 3 fun K B=>?_;refine Az (by rfl) ?_;refine sW #[.slice l d3.sectors.length c3,d3.left,d3.down] HD.out.Ax ?_;have HE:=Hq (HD.out.row 2 #[.slice l d3.sectors.length c3,d3.left,d3.down] _ rfl);have hSn:=And.intro (HE.out.Ag) (HE.out.Ah);refine Bl B (fun f=>?_);clear B K
      try simp only[Act.put]
      refine Bx 4 fun K B=>?_;refine Az (by rfl) ?_;refine sW #[fr,n,en,G,a] HE.out.g3 ?_;have HG:=Hq (HE.out.row 3 #[fr,n,en,G,a] _ rfl);clear hSn;have hSn:=And.intro (HG.out.Ag) (HG.out.Ah);refine Bl B (fun f=>?_);clear B K
      try simp only[Act.put]
      refine Au 5 ?_;refine wpAnyH_done Kr ?_ _;clear f hSn;go_wp2_with fail;refine bodyPost_ret (v:=.tuple #[.agg #[.slice l d3.sectors.length c3,d3.left,d3.down],.agg #[fr,n,en,G,a],e3]) (Ez rfl _ _ rfl rfl (Ct HG.out.Ax Bz Kr Kr) (Ct HG.out.g3 Fp Kr Kr) rfl) rfl ?_;exact HO.out l c3 _ (d3,⟨fr,n,en,G,a⟩,e3) av.out ⟨bc.out.secs.apart (((E8.refl _ _ _).drew.row _ _ (by omega) (by omega)).row _ _ (by omega) (by omega)) dn.out,bc.out.small⟩ (cf.out.imp id (fun h=>(h.apart (lo:=w.heap.size) (hi:=w.heap.size+4) (((E8.refl _ _ _).drew.row _ _ (by omega) (by omega)).row _ _ (by omega) (by omega)) (Nat.le_refl _)).mono (by omega))) HG.out.below
theorem gR (d:Lg.Dk)(e: -9223372036854775808≤d.left∧d.left≤9223372036854775807)(A:Option Addr)(c:Nat)(l:Lg.Lo)(f:0≤l.end_)(g:l.end_≤1000000000)(i: -1000000000≤l.n)(j:l.n≤1000000000)(k: -1000000000≤l.from_)(m:l.from_≤1000000000)(t:l.tail.size≤1000000)(o:(l.tail.size:Int)≤l.end_)(a:l.end_%128≤(l.tail.size:Int))(w:World)(h:By w d A c):
 Cq 230 #[Cd d A c,Oc l] w (Ft (Lg.Bo d l) A w):=by
 obtain⟨q,n,r,p,s⟩:=l
 by_cases b:p=r
 ·subst b
  exact bS d.sectors d.left d.down A c q n p s _ (Lg.Sh rfl) w h
 ·exact mN d e A c q n r p s b f g i j k m t o a w h
end Go.Proofs.YtmldoihahndcgaaGreatDoor
