import Derived.Test.YtpogpkonojhakaaGreatDoorHk00
import Derived.Test.YtpogpkonojhakaaGreatDoorHk01
import Derived.Test.YtpogpkonojhakaaGreatDoorHk04
import Derived.Test.YtpogpkonojhakaaGreatDoorHk05
import Derived.BigRegion
import Derived.Deep.RegionWith
set_option maxRecDepth 100000
set_option maxHeartbeats 16000000
set_option linter.unusedSimpArgs false
namespace Rc
theorem Ta (s:ByteArray):(t s).length=2+s.size:=by
 unfold t;rw[List.length_append,Bd];simp
theorem M5 {o:Op}(h:Iz o):(Nl o).length≤1031:=by
 obtain⟨_,_,_,a,b⟩:=h;unfold Nl;simp only[List.length_append,Bd,Ta];omega
theorem Ce {α:Type}(f:α→List UInt8)(k:Nat)(a:∀ x,(f x).length=k):∀ l:List α,(l.flatMap f).length=l.length*k:=by
 intro l
 induction l with
 |nil=>simp
 |cons x l ih=>rw[List.flatMap_cons,List.length_append,a,ih,List.length_cons,Nat.add_mul];omega
theorem pE (x:Bc):(O0 x).length=19:=by
 unfold O0;simp only[List.length_append,Bd]
theorem dJ (x:Bv):(Hn x).length=9:=by
 unfold Hn;simp only[List.length_append,Bd]
theorem Vq (r:Rec):(Gl r).length=19:=by
 unfold Gl;simp only[List.length_append,Bd]
theorem dK {r:Rec}(h:Sq r):(Sr r).length≤37010:=by
 obtain⟨a,b,_⟩:=h;unfold Sr;simp only[List.length_append,Bd,Ce O0 19 pE,Ce Hn 9 dJ];omega
theorem M6 {r:Rec}(h:Bx r):19≤(Di r).length∧(Di r).length≤40000:=by
 unfold Di;rw[List.length_append,Vq];refine⟨by omega,?_⟩
 cases h with
 |small kind a prev b hk d f g=>
  have k:Gf (bare kind a prev b)=[]:=by
   unfold Gf bare;simp only;rw[if_neg (by omega),if_neg (by omega),if_neg (by omega),if_neg (by omega),if_neg (by omega)]
  rw[k];simp
 |change a prev b Ae op i root e d f g l c m=>
  rw[O1 rfl];have p:=M5 c;have s:(Nv ⟨a,prev,b,2,Ae,0,0,op,i,root,e,[],[]⟩).length≤200:=by
   unfold Nv;rcases m with⟨j,_⟩|⟨j,t,u,q,o⟩
   ·simp only at j;subst j;simp
   ·simp only at j o
    rw[if_neg (show ¬ i=1 by omega)];simp only[List.length_append,Bd,Ta];omega
  simp only[List.length_append,Bd];omega
 |clr a prev b Ae op next d f g l c m=>
  rw[Ru rfl];have p:=M5 c;simp only[List.length_append,Bd];omega
 |nest a prev b next d f g m=>
  rw[Xb rfl];simp only[Bd];omega
 |image a prev b Ae op d f g l c=>
  rw[Rv rfl];have p:=M5 c;simp only[List.length_append,Bd];omega
 |check a prev b n ts ds d f g l c=>
  rw[gE rfl];have:=dK c;omega
end Rc
namespace Lg
open Rc
def D9 (r:Rec):List UInt8:=Oct.Bl (Di r).length 4++(Oct.Bl (Oct.Gy (Di r)) 4++Di r)
theorem Mg (r:Rec):(D9 r).length=8+(Di r).length:=by
 unfold D9;simp only[List.length_append,Oct.Ba];omega
def Xf (s:List UInt8)(a:Nat):List UInt8:=(s.drop (a+8)).take (Oct.Dj s a 4)
def Is (s:List UInt8)(a:Nat):Prop:=
 a+8+Oct.Dj s a 4≤s.length∧Oct.Dj s (a+4) 4=Oct.Gy (Xf s a)∧Bx (vC true (Xf s a))∧Di (vC true (Xf s a))=Xf s a
def Row (a:Nat):List Rec→Prop
 |[]=>True
 |r::l=>Bx r∧r.lsn=(a:Int)+1∧Row (a+(D9 r).length) l
def bytes (l:List Rec):List UInt8:=l.flatMap D9
theorem Tb (r:Rec)(l:List Rec):bytes (r::l)=D9 r++bytes l:=rfl
theorem Lh (l m:List Rec):bytes (l++m)=bytes l++bytes m:=List.flatMap_append
theorem dL {a:Nat}{l m:List Rec}:Row a (l++m)↔Row a l∧Row (a+(bytes l).length) m:=by
 induction l generalizing a with
 |nil=>simp[Row,bytes]
 |cons r l ih=>
  show(Bx r∧r.lsn=(a:Int)+1∧Row (a+(D9 r).length) (l++m))↔(Bx r∧r.lsn=(a:Int)+1∧Row (a+(D9 r).length) l)∧_
  rw[ih,Tb,List.length_append,Nat.add_assoc]
  constructor
  ·rintro⟨b,c,d,e⟩;exact⟨⟨b,c,d⟩,e⟩
  ·rintro⟨⟨b,c,d⟩,e⟩;exact⟨b,c,d,e⟩
def xP (s:List UInt8)(a k:Nat):Prop:=∀ i,a≤i→i<a+k→i<s.length→s[i]? =some 0
structure jX (s:List UInt8) (l:List Rec):Prop where
 row:Row 0 l
 pre:s.take (bytes l).length=bytes l
 room:(bytes l).length≤s.length
 zero:xP s (bytes l).length 128
def mix (s n:List UInt8)(q:Nat):List UInt8:=s.take q++n.drop q
theorem Xg {s n:List UInt8}{q:Nat}(h:s.length=n.length)(i:Nat):(mix s n q)[i]? =if i<q then s[i]? else n[i]? :=by
 unfold mix
 by_cases c:q≤s.length
 ·have b:(s.take q).length=q:=by rw[List.length_take];omega
  by_cases a:i<q
  ·rw[if_pos a,List.getElem?_append_left (by omega),List.getElem?_take,if_pos a]
  ·rw[if_neg a,List.getElem?_append_right (by omega),b,List.getElem?_drop]
   congr 1;omega
 ·rw[List.take_of_length_le (by omega),List.drop_of_length_le (by omega),List.append_nil]
  split
  ·rfl
  ·rw[List.getElem?_eq_none (by omega),List.getElem?_eq_none (by omega)]
theorem vO {s n:List UInt8}{q:Nat}(h:s.length=n.length)(a:∀ i,i<q→s[i]? =n[i]?):mix s n q=n:=by
 refine List.ext_getElem? fun i=>?_;rw[Xg h]
 split
 ·rename_i b;exact a i b
 ·rfl
def flat (L:List ByteArray):List UInt8:=L.flatMap (·.data.toList)
def Whole (L:List ByteArray):Prop:=∀ b∈L,b.size=128
theorem pF:flat []=[]:=rfl
theorem Fh (b:ByteArray)(L:List ByteArray):flat (b::L)=b.data.toList++flat L:=rfl
theorem Q3 (L M:List ByteArray):flat (L++M)=flat L++flat M:=List.flatMap_append
theorem Whole.tail {b:ByteArray}{L:List ByteArray}(h:Whole (b::L)):b.data.toList.length=128∧Whole L:=
 ⟨by have:=h b (List.mem_cons_self ..);simpa using this,fun x a=>h x (List.mem_cons_of_mem _ a)⟩
theorem Whole.set {L:List ByteArray}(h:Whole L)(k:Nat){b:ByteArray}(a:b.size=128):Whole (L.set k b):=fun x c=>by
 rcases List.mem_or_eq_of_mem_set c with h1|h1
 ·exact h x h1
 ·rw[h1];exact a
theorem Whole.take {L:List ByteArray}(h:Whole L)(k:Nat):Whole (L.take k):=fun x a=>h x (List.mem_of_mem_take a)
theorem Whole.drop {L:List ByteArray}(h:Whole L)(k:Nat):Whole (L.drop k):=fun x a=>h x (List.mem_of_mem_drop a)
theorem Ce {L:List ByteArray}(h:Whole L):(flat L).length=L.length*128:=by
 induction L with
 |nil=>rfl
 |cons b L ih=>
  obtain⟨a,c⟩:=h.tail;rw[Fh,List.length_append,a,ih c,List.length_cons];omega
theorem Tc {L:List ByteArray}(h:Whole L){b:ByteArray}(f:b.size=128):∀ (k:Nat),k<L.length→∀ i,(flat (L.set k b))[i]? =if k*128≤i∧i<k*128+128 then b.data.toList[i-k*128]? else(flat L)[i]? :=by
 have a:b.data.toList.length=128:=by simpa using f
 induction L with
 |nil=>intro k hk;simp at hk
 |cons c L ih=>
  obtain⟨d,g⟩:=h.tail;intro k hk i
  cases k with
  |zero=>
   rw[List.set_cons_zero,Fh,Fh]
   by_cases j:i<128
   ·rw[if_pos (by omega),List.getElem?_append_left (by omega),Nat.zero_mul,Nat.sub_zero]
   ·rw[if_neg (by omega),List.getElem?_append_right (by omega),List.getElem?_append_right (by omega),a,d]
  |succ k=>
   rw[List.set_cons_succ,Fh,Fh]
   by_cases j:i<128
   ·rw[if_neg (by omega),List.getElem?_append_left (by omega),List.getElem?_append_left (by omega)]
   ·rw[List.getElem?_append_right (by omega),d,ih g k (by simpa using hk) (i-128)]
    by_cases e:(k+1)*128≤i∧i<(k+1)*128+128
    ·rw[if_pos e,if_pos (by omega),show i-128-k*128=i-(k+1)*128 by omega]
    ·rw[if_neg e,if_neg (by omega),List.getElem?_append_right (by omega),d]
theorem pG {L:List ByteArray}{s n:List UInt8}{k:Nat}{b:ByteArray}(c:Whole L)(d:b.size=128)(hk:k<L.length)(hlen:s.length=n.length)(h:flat L=mix s n ((k+1)*128))
 (e:b.data.toList=(n.drop (k*128)).take 128):flat (L.set k b)=mix s n (k*128):=by
 refine List.ext_getElem? fun i=>?_;rw[Tc c d k hk,h,Xg hlen,Xg hlen]
 by_cases a:i<k*128
 ·rw[if_neg (by omega),if_pos (by omega),if_pos a]
 ·rw[if_neg a]
  by_cases f:i<k*128+128
  ·rw[if_pos (by omega),e,List.getElem?_take,if_pos (by omega),List.getElem?_drop];congr 1;omega
  ·rw[if_neg (by omega),if_neg (by omega)]
theorem jY {L:List ByteArray}(h:Whole L)(k:Nat):flat (L.drop k)=(flat L).drop (k*128):=by
 induction k generalizing L with
 |zero=>simp
 |succ k ih=>
  cases L with
  |nil=>simp[flat]
  |cons b L=>
   obtain⟨a,c⟩:=h.tail;rw[List.drop_succ_cons,ih c,Fh,show(k+1)*128=128+k*128 by omega,← List.drop_drop,List.drop_left' a]
theorem jZ {L:List ByteArray}(h:Whole L)(k:Nat):flat (L.take k)=(flat L).take (k*128):=by
 induction k generalizing L with
 |zero=>simp[flat]
 |succ k ih=>
  cases L with
  |nil=>simp[flat]
  |cons b L=>
   obtain⟨a,c⟩:=h.tail;rw[List.take_succ_cons,Fh,ih c,Fh,show(k+1)*128=128+k*128 by omega,List.take_append,a,Nat.add_sub_cancel_left,List.take_of_length_le (l:=b.data.toList) (by omega)]
structure Dk where
 sectors:List ByteArray
 left:Int
 down:Bool
structure Lo where
 from_:Int
 n:Int
 end_:Int
 safe:Int
 tail:ByteArray
instance:DecidableEq Lo:=fun a b=>
 if h:a.from_=b.from_∧a.n=b.n∧a.end_=b.end_∧a.safe=b.safe∧a.tail=b.tail then
  .isTrue (by obtain⟨a1,a2,a3,a4,a5⟩:=a;obtain⟨b1,b2,b3,b4,b5⟩:=b;simp only at h;obtain⟨rfl,rfl,rfl,rfl,rfl⟩:=h;rfl)
 else .isFalse (fun e=>h (by subst e;exact⟨rfl,rfl,rfl,rfl,rfl⟩))
def Da:ByteArray:=⟨(List.replicate 128 0).toArray⟩
theorem I1:Da.size=128:=by unfold Da;show(List.replicate 128 (0:UInt8)).toArray.size=_;simp
def Li (n:Nat):Dk:=⟨List.replicate n Da,-1,false⟩
def Hr (d:Dk)(at_:Int):Prop:=0≤at_∧at_<(d.sectors.length:Int)
instance (d:Dk) (a:Int):Decidable (Hr d a):=by unfold Hr;exact inferInstance
def It (d:Dk)(at_:Int):ByteArray:=d.sectors[at_.toNat]?.getD ⟨#[]⟩
def Lu (d:Dk)(at_:Int):ByteArray×Int:=if d.down then(⟨#[]⟩,20)else if Hr d at_ then(It d at_,0)else(⟨#[]⟩,1)
def C8 (d:Dk)(at_:Int)(b:ByteArray):Dk×Int:=
 if d.down then(d,20)else if ¬ (Hr d at_∧b.size=128)then(d,1)else if d.left=0 then({d with down:=true},20)
 else({d with sectors:=d.sectors.set at_.toNat b,left:=if 0<d.left then d.left-1 else d.left},0)
def Kd (l:List UInt8):ByteArray:=⟨(l++List.replicate (128-l.length) 0).toArray⟩
theorem Q4 {l:List UInt8}(h:l.length≤128):(Kd l).size=128:=by
 unfold Kd
 show(l++List.replicate (128-l.length) (0:UInt8)).toArray.size=_
 simp;omega
def P5 (l:List UInt8):List ByteArray:=if _h:l=[]then[]else Kd (l.take 128)::P5 (l.drop 128)
termination_by l.length
decreasing_by
 cases l with
 |nil=>contradiction
 |cons a l=>simp;omega
theorem Ij:P5 []=[]:=by rw[P5];simp
theorem M7 {l:List UInt8}(h:l≠[]):P5 l=Kd (l.take 128)::P5 (l.drop 128):=by
 conv=>lhs;rw[P5]
 rw[dif_neg h]
def Iq (s:ByteArray):List ByteArray:=P5 s.data.toList
theorem kA (n:Nat):∀ l:List UInt8,l.length≤n→∀ b∈P5 l,b.size=128:=by
 induction n with
 |zero=>
  intro l d b c;rw[List.eq_nil_of_length_eq_zero (l:=l) (by omega),Ij]at c
  cases c
 |succ n e=>
  intro l d b c
  by_cases h:l=[]
  ·rw[h,Ij]at c;cases c
  ·rw[M7 h]at c
   rcases List.mem_cons.1 c with h1|h1
   ·rw[h1];exact Q4 (by rw[List.length_take];omega)
   ·have f:0<l.length:=by cases l with
     |nil=>contradiction
     |cons a l=>simp
    exact e _ (by rw[List.length_drop];omega) b h1
theorem Q5 (n:Nat):∀ l:List UInt8,l.length≤n→(P5 l).length=(l.length+127)/128:=by
 induction n with
 |zero=>
  intro l b;rw[List.eq_nil_of_length_eq_zero (l:=l) (by omega),Ij];rfl
 |succ n ih=>
  intro l b
  by_cases h:l=[]
  ·rw[h,Ij];rfl
  ·have c:0<l.length:=by cases l with
    |nil=>contradiction
    |cons a l=>simp
   rw[M7 h,List.length_cons,ih _ (by rw[List.length_drop];omega),List.length_drop];omega
theorem Jz (s:ByteArray):(Iq s).length=(s.size+127)/128:=by
 unfold Iq;rw[Q5 _ _ (Nat.le_refl _)];simp
theorem M8 (s:ByteArray):∀ b∈Iq s,b.size=128:=kA _ _ (Nat.le_refl _)
def Cp (base:Int)(all:List ByteArray):Nat→Dk→Dk×Int
 |0,d=>(d,0)
 |i+1,d=>if(C8 d (base+(i:Int)) (all[i]?.getD ⟨#[]⟩)).2=0 then Cp base all i (C8 d (base+(i:Int)) (all[i]?.getD ⟨#[]⟩)).1 else C8 d (base+(i:Int)) (all[i]?.getD ⟨#[]⟩)
def Fl (l:Lo):Int:=(l.end_-(l.tail.size:Int))/128
def Gp (l:Lo):List ByteArray:=if Fl l+(Iq l.tail).length<l.n then Iq l.tail++[Da]else Iq l.tail
def J0 (l:Lo):Lo:={l with safe:=l.end_,tail:=l.tail.extract (l.tail.size-(l.end_%128).toNat) l.tail.size}
def Bf (d:Dk)(l:Lo):Dk×Lo×Int:=
 if l.safe=l.end_ then(d,l,0)else
 let x:=Cp (l.from_+Fl l) (Gp l) (Gp l).length d
 if x.2=0 then(x.1,J0 l,0)else(x.1,l,x.2)
open Classical in
noncomputable def As (l:Lo) (r:Rc.Rec):Lo×Int×Int:=
 let r':Rc.Rec:={r with lsn:=l.end_+1}
 if ¬ Rc.Bx r' then(l,0,1)else
 if l.n*128-((D9 r').length:Int)<l.end_ then(l,0,18)else
 ({l with end_:=l.end_+((D9 r').length:Int),tail:=l.tail++⟨(D9 r').toArray⟩},l.end_+1,0)
end Lg
namespace Go.Proofs.YtpogpkonojhakaaGreatDoor
open Go.RowKit
def Gw (b:ByteArray):List Value:=[.string b]
theorem aG (b:ByteArray):(Gw b).length=1:=rfl
theorem Td (l:List ByteArray):l.flatMap Gw=l.map Value.string:=by
 induction l with
 |nil=>rfl
 |cons b l ih=>rw[List.flatMap_cons,ih];rfl
abbrev Dx (d:Lg.Dk)(A:Option Addr)(c:Nat):Value:=.agg #[.slice A d.sectors.length c,d.left,d.down]
structure Dd (w:World) (d:Lg.Dk) (A:Option Addr) (c:Nat):Prop where
 secs:Reads w A c d.sectors.length (d.sectors.flatMap Gw)
 small:d.sectors.length≤1000000
theorem Dd.below {w w':World}{d:Lg.Dk}{A:Option Addr}{c:Nat}(h:Dd w d A c)(a:Bw w w'):Dd w' d A c:=⟨h.secs.below a,h.small⟩
theorem Rx (d:Lg.Dk)(A:Option Addr)(c:Nat)(a:Int)(w:World):
 Cr 266 #[Dx d A c,a] w (.bool (decide (Lg.Hr d a))):=by
 obtain⟨L,left,down⟩:=d
 by_cases b:0≤a
 ·by_cases e:a<(L.length:Int)
  ·rw[decide_eq_true (show Lg.Hr ⟨L,left,down⟩ a from And.intro b e)]
   go_enter Tryz.func266,Tryz.ntmps266;go_wp2_with fail;go_ret;exact⟨by simp,Ac _ _⟩
  ·rw[decide_eq_false (show ¬ Lg.Hr ⟨L,left,down⟩ a from fun h=>e h.2)]
   go_enter Tryz.func266,Tryz.ntmps266;go_wp2_with fail;go_ret;exact⟨by simp,Ac _ _⟩
 ·rw[decide_eq_false (show ¬ Lg.Hr ⟨L,left,down⟩ a from fun h=>b h.1)]
  go_enter Tryz.func266,Tryz.ntmps266;go_wp2_with fail;go_ret;exact⟨by simp,Ac _ _⟩
theorem kB (d:Lg.Dk)(A:Option Addr)(c:Nat)(a:Int)(w:World)(h:Dd w d A c):
 Cr 249 #[Dx d A c,a] w (.tuple #[.string (Lg.Lu d a).1,.int .i64 (Lg.Lu d a).2]):=by
 have j:=Hq (fun W=>Rx d A c a W);have q:=Hq h.secs;clear h;unfold Lg.Lu
 cases l:d.down with
 |true=>
  obtain⟨L,left,down⟩:=d;simp only at l;subst l;rw[if_pos rfl];dsimp only[Dx];go_enter Tryz.func249,Tryz.ntmps249;go_wp2_with fail;go_ret2;exact⟨rfl,Ac _ _⟩
 |false=>
  rw[if_neg (by simp)]
  by_cases i:Lg.Hr d a
  ·rw[if_pos i]
   rw[decide_eq_true i]at j;obtain⟨L,left,down⟩:=d;simp only at l;subst l;unfold Lg.Hr at i;unfold Lg.It;dsimp only[Dx]at i j q ⊢;obtain⟨r,v⟩:=i;obtain⟨k,rfl⟩:=Int.eq_ofNat_of_zero_le r;have hk:k<L.length:=(by omega);obtain⟨b,off,rfl,y,n,g⟩:=Cb aG q.out hk;have m:=g 0 _ rfl;simp only[Nat.mul_one,Nat.add_zero]at m;rw[Int.toNat_natCast,List.getElem?_eq_getElem hk,Option.getD_some];generalize L[k]=x at m ⊢;have t:=Hq m;clear m g r;go_enter Tryz.func249,Tryz.ntmps249
   go_upto_region 5 with(go_at_call 266;(with_reducible refine(j.out _).mono ?_);rintro e s ⟨rfl,f⟩;have u:=Aa (Bs f))
   have z:s.cell? ⟨b,off+k,none⟩=some (.string x):=(Af (Ac w _) f).cell (p:=⟨b,off+k,none⟩) n|>.trans t.out
   have o:=Hq (Af (Ac w _) f);clear f;go_wp2_with fail;go_ret2;exact⟨rfl,o.out⟩
  ·rw[if_neg i]
   rw[decide_eq_false i]at j;clear i;obtain⟨L,left,down⟩:=d;simp only at l;subst l;dsimp only[Dx]at j ⊢;go_enter Tryz.func249,Tryz.ntmps249
   go_wp2_with(go_at_call 266;(with_reducible refine(j.out _).mono ?_);rintro e s ⟨rfl,f⟩)
   go_ret2;exact⟨rfl,Af (Ac _ _) f⟩
def G6 (x:Lg.Dk×Int)(A:Option Addr)(w:World)(e:Ending)(w':World):Prop:=
 ∃ A' c',e= .returned (.tuple #[Dx x.1 A' c',x.2])∧Dd w' x.1 A' c'∧(A'=A∨De w.heap.size w' 9 A')∧Bw w w'
theorem kC (l:List ByteArray)(A:Option Addr)(c:Nat)(g:0<l.length)(k:l.length≤1000000)(w:World)(h:Reads w A c l.length (l.flatMap Gw)):
 Cq 285 #[.slice A l.length c] w fun e w'=>∃ v,e= .returned v∧w'.ownsRow w.heap.size 9 1 v l.length (l.map Value.string)∧Bw w w':=by
 obtain⟨b,off,rfl,_,_,a⟩:=h g;refine(Tryz.slices_Clone_string b off l.length c l w (Nat.le_refl _) (by omega) (fun j f=>?_)).mono ?_
 ·have d:=a j (.string l[j]) (by rw[Td];simp[f])
  rw[d,List.getD_eq_getElem?_getD,List.getElem?_eq_getElem f]
  rfl
 ·rintro e w' ⟨v,rfl,d,_,i⟩
  rw[List.take_length]at d;exact⟨v,rfl,d,i⟩
theorem Of {d:Lg.Dk}{A:Option Addr}{c:Nat}{w w':World}{dn:Bool}{k:Int}{x:Lg.Dk×Int}(b:x=(⟨d.sectors,d.left,dn⟩,k))(h:Dd w d A c)(a:Bw w w'):G6 x A w (.returned (.tuple #[.agg #[.slice A d.sectors.length c,d.left,dn],k])) w':=by
 subst b;exact⟨A,c,rfl,⟨h.secs.below a,h.small⟩,.inl rfl,a⟩
theorem Vr {L:List ByteArray}{A a:Option Addr}{n c:Nat}{w w':World}{left:Int}{x:Lg.Dk×Int}(f:x=(⟨L,left,false⟩,0))(g:L.length=n){d:List Value}(h:Reads w' a c n d){M:List ByteArray}{k:Nat}{b:ByteArray}(i:d=(M.map Value.string).set k (.string b))(e:L=M.set k b)(j:L.length≤1000000)(l:De w.heap.size w' 9 a)(m:Bw w w'):
 G6 x A w (.returned (.tuple #[.agg #[.slice a n c,left,false],()])) w':=by
 subst f g;refine⟨a,c,rfl,⟨?_,j⟩,.inr l,m⟩;rw[Td]
 show Reads w' a c L.length (L.map Value.string)
 rw[i]at h;rw[e,List.map_set];rw[e]at h;exact h
theorem aH (L:List ByteArray)(left:Int)(A:Option Addr)(c:Nat)(a:Int)(b:ByteArray)(x:Lg.Dk×Int)(i:x=(⟨L,left,true⟩,20))(w:World)(h:Dd w ⟨L,left,true⟩ A c):
 Cq 269 #[.agg #[.slice A L.length c,left,true],a,b] w (G6 x A w):=by
 have j:=Hq (fun w' k=>Of (dn:=true) i h (w':=w') k);dsimp only at j;clear i h;go_enter Tryz.func269,Tryz.ntmps269;go_upto_region 1 with fail;have d:=Nk w #[.slice A L.length c,left,true] 28 #['s',(),false] 28;have f:=Aa d.out.An;obtain⟨l,e⟩:=E2 d;rw[← e]at d f ⊢;clear e;have g:=Hq (show l.heap[w.heap.size]? =some (.cells #[.slice A L.length c,left,true] 28 (0,0))from(by have h:=d.out.An;simpa using h))
 go_wp2_with(first|with_reducible refine lL g.out Fz ?_|with_reducible refine lS #[.slice A L.length c,left,true] d.out.Ar ?_)
 refine rT2 (.int .i64 20) d.out.Ar Fz ?_;exact j.out _ ((d.out.row 1 _ _ rfl).below)
theorem dM (L:List ByteArray)(left:Int)(A:Option Addr)(c:Nat)(a:Int)(b:ByteArray)(i:¬ (Lg.Hr ⟨L,left,false⟩ a∧b.size=128))(x:Lg.Dk×Int)(y:x=(⟨L,left,false⟩,1))(w:World)(h:Dd w ⟨L,left,false⟩ A c):
 Cq 269 #[.agg #[.slice A L.length c,left,false],a,b] w (G6 x A w):=by
 have o:=Hq (fun w' z=>Of (dn:=false) y h (w':=w') z);dsimp only at o;have m:=Hq (fun W=>Rx ⟨L,left,false⟩ A c a W);clear y h
 by_cases n:Lg.Hr ⟨L,left,false⟩ a
 ·rw[decide_eq_true n]at m
  have B:¬ b.size=128:=fun e=>i ⟨n,e⟩;have p:((b.size:Int)==128)=false:=by simp;omega
  have q:((b.size:Int) != 128)=true:=by simp;omega
  have r:(b.size==128)=false:=by simp;omega
  have s:(b.size != 128)=true:=by simp;omega
  clear i n;dsimp only[Dx]at m;go_enter Tryz.func269,Tryz.ntmps269;go_upto_region 1 with fail;have d:=Nk w #[.slice A L.length c,left,false] 28 #['s',(),false] 28;have j:=Aa d.out.An;obtain⟨t,f⟩:=E2 d;rw[← f]at d j ⊢;clear f;have k:=Hq (show t.heap[w.heap.size]? =some (.cells #[.slice A L.length c,left,false] 28 (0,0))from(by have h:=d.out.An;simpa using h))
  go_upto_region 4 with(first|with_reducible refine lL k.out Fz ?_|(go_at_call 266;(with_reducible refine(m.out _).mono ?_);rintro e u ⟨rfl,g⟩;have H1:=Hq (d.out.step g);clear g;have v:=Aa H1.out.An))
  have l:=Hq (show u.heap[w.heap.size]? =some (.cells #[.slice A L.length c,left,false] 28 (0,0))from(by have h:=H1.out.An;simpa using h));clear B p q r s
  go_wp2_with(first|with_reducible refine lL l.out Fz ?_|with_reducible refine lS #[.slice A L.length c,left,false] H1.out.Ar ?_)
  refine rT2 (.int .i64 1) H1.out.Ar Fz ?_;exact o.out _ ((H1.out.row 1 _ _ rfl).below)
 ·rw[decide_eq_false n]at m
  clear i n;dsimp only[Dx]at m;go_enter Tryz.func269,Tryz.ntmps269;go_upto_region 1 with fail;have d:=Nk w #[.slice A L.length c,left,false] 28 #['s',(),false] 28;have j:=Aa d.out.An;obtain⟨t,f⟩:=E2 d;rw[← f]at d j ⊢;clear f;have k:=Hq (show t.heap[w.heap.size]? =some (.cells #[.slice A L.length c,left,false] 28 (0,0))from(by have h:=d.out.An;simpa using h))
  go_upto_region 4 with(first|with_reducible refine lL k.out Fz ?_|(go_at_call 266;(with_reducible refine(m.out _).mono ?_);rintro e u ⟨rfl,g⟩;have H1:=Hq (d.out.step g);clear g;have v:=Aa H1.out.An))
  have l:=Hq (show u.heap[w.heap.size]? =some (.cells #[.slice A L.length c,left,false] 28 (0,0))from(by have h:=H1.out.An;simpa using h))
  go_wp2_with(first|with_reducible refine lL l.out Fz ?_|with_reducible refine lS #[.slice A L.length c,left,false] H1.out.Ar ?_)
  refine rT2 (.int .i64 1) H1.out.Ar Fz ?_;exact o.out _ ((H1.out.row 1 _ _ rfl).below)
theorem dN (L:List ByteArray)(A:Option Addr)(c:Nat)(a:Int)(b:ByteArray)(r:Lg.Hr ⟨L,0,false⟩ a)(u:b.size=128)(x:Lg.Dk×Int)(s:x=(⟨L,0,true⟩,20))(w:World)(h:Dd w ⟨L,0,false⟩ A c):
 Cq 269 #[.agg #[.slice A L.length c,(),false],a,b] w (G6 x A w):=by
 have t:=Hq (fun w' v=>Of (dn:=true) s h (w':=w') v);dsimp only at t;have i:=Hq (fun W=>Rx ⟨L,0,false⟩ A c a W);rw[decide_eq_true r]at i;have j:((b.size:Int)==128)=true:=by simp;omega
 have k:((b.size:Int) != 128)=false:=by simp;omega
 have l:(b.size==128)=true:=by simp;omega
 have m:(b.size != 128)=false:=by simp;omega
 clear s h u r;dsimp only[Dx]at i;go_enter Tryz.func269,Tryz.ntmps269;go_upto_region 1 with fail;have d:=Nk w #[.slice A L.length c,(),false] 28 #['s',(),false] 28;have n:=Aa d.out.An;obtain⟨y,f⟩:=E2 d;rw[← f]at d n ⊢;clear f;have o:=Hq (show y.heap[w.heap.size]? =some (.cells #[.slice A L.length c,(),false] 28 (0,0))from(by have h:=d.out.An;simpa using h))
 go_upto_region 5 with(first|with_reducible refine lL o.out Fz ?_|(go_at_call 266;(with_reducible refine(i.out _).mono ?_);rintro e z ⟨rfl,g⟩;have H1:=Hq (d.out.step g);clear g;have B:=Aa H1.out.An))
 clear j k l m;have C:=Ap H1.out.An;go_upto_region 7 with fail;have p:=Hq (show(z.setCell ⟨w.heap.size,2,none⟩ (.bool true)).heap[w.heap.size]? =some (.cells #[.slice A L.length c,(),true] 28 (0,0))from by have h:=(H1.out.set 0 2 (.bool true) _ rfl).get 0 _ rfl;simpa using h);have q:=Hq (H1.out.set 0 2 (.bool true) _ rfl)
 go_wp2_with(first|with_reducible refine lL p.out Fz ?_|with_reducible refine lS #[.slice A L.length c,(),true] q.out.Ar ?_)
 refine rT2 (.int .i64 20) q.out.Ar Fz ?_;exact t.out _ ((q.out.row 1 _ _ rfl).below)
theorem kD (L:List ByteArray)(left:Int)(H:left≠0)(a7: -9223372036854775808≤left∧left≤9223372036854775807)(A:Option Addr)(c:Nat)(k:Nat)(b:ByteArray)(hk:k<L.length)(hs:b.size=128)(x:Lg.Dk×Int)(hx:x=(⟨L.set k b,if 0<left then left-1 else left,false⟩,0))(w:World)(h:Dd w ⟨L,left,false⟩ A c):
 Cq 269 #[.agg #[.slice A L.length c,left,false],.int .i64 (k:Int),b] w (G6 x A w):=by
 have C:=Hq (fun W=>Rx ⟨L,left,false⟩ A c k W);rw[decide_eq_true (show Lg.Hr ⟨L,left,false⟩ (k:Int)from⟨by omega,by show(k:Int)<(L.length:Int);omega⟩)]at C;have I:((b.size:Int)==128)=true:=by simp;omega
 have J:((b.size:Int) != 128)=false:=by simp;omega
 have K:(b.size==128)=true:=by simp;omega
 have N:(b.size != 128)=false:=by simp;omega
 have O:(left==0)=false:=by simpa using H
 have hlen:L.length≤1000000:=h.small;have HC:=Hq (fun W (hb:Bw w W)=>kC L A c (by omega) hlen W (h.secs.below hb));have D:=Hq hx;have a8:(k:Int)<(L.length:Int):=by omega
 clear hx h hs;dsimp only[Dx]at C;go_enter Tryz.func269,Tryz.ntmps269;go_upto_region 1 with fail;have m:=Nk w #[.slice A L.length c,left,false] 28 #['s',(),false] 28;have n:=Aa m.out.An;obtain⟨W0,o⟩:=E2 m;rw[← o]at m n ⊢;clear o;have q:=Hq (show W0.heap[w.heap.size]? =some (.cells #[.slice A L.length c,left,false] 28 (0,0))from(by have h:=m.out.An;simpa using h))
 go_upto_region 8 with(first|with_reducible refine lL q.out Fz ?_|(go_at_call 266;(with_reducible refine(C.out _).mono ?_);rintro e w1 ⟨rfl,r⟩;have H1:=Hq (m.out.step r);clear r;have P:=Aa H1.out.An))
 clear I J K N O C n q m
 go_upto_region 9 with(first|(go_at_call 285;(with_reducible refine(HC.out _ H1.out.below).mono ?_);rintro e w2 ⟨v,rfl,Q,s⟩;obtain⟨A2,c2,rfl⟩:=Ej Q;have E:=Hq (H1.out.step s);have R:=Ap E.out.An;have S:=Aa E.out.An;clear s P))
 clear S R;have aa:=H1.out.lt (i:=1) (by simp);have t:=J9 Q ⟨w.heap.size,0,none⟩ (.slice A2 L.length c2) (by show w.heap.size<_;omega);obtain⟨g,cap,hv,hg,T,a6,d,u,a⟩:=vA t hk
 injection hv with U ae V
 subst U V;have F:=Hq (E.out.set 0 0 (.slice (some ⟨g,0,none⟩) L.length c2) _ rfl);simp only[Nat.add_zero]at F;obtain⟨W3,y⟩:=ex (w2.setCell ⟨w.heap.size,0,none⟩ (.slice (some ⟨g,0,none⟩) L.length c2));rw[← y]at F d u a T ⊢;have X:=Aa F.out.An;rw[List.getElem?_eq_getElem (by simpa using hk)]at d;simp only[List.getElem_map]at d;have j:=Hq a;clear y E Q t a;go_upto_region 10 with fail;have Y:w.heap.size+2≤g:=by omega
 have l:=Hq (F.out.under (M:=g) (by show w.heap.size+2≤g;exact Y) ((Below.refl g W3).setCell (p:=⟨g,k,none⟩) (Nat.le_refl g) (.string b)));have f:=Hq (j.out (.string b));obtain⟨W4,z⟩:=ex (W3.setCell ⟨g,k,none⟩ (.string b));rw[← z]at l f ⊢;have af:=Aa l.out.An;have ag:=Ap l.out.An;clear z X d u j
 by_cases hp:0<left
 ·rw[if_pos hp]at D
  have ah:IntKind.i64.wrap (left-1)=left-1:=IntWalk.i64_in _ (by omega);go_upto_region 12 with fail;have G:=Hq (l.out.set 0 1 (.int .i64 (left-1)) _ rfl);have Z:=Hq (show(W4.setCell ⟨w.heap.size,1,none⟩ (.int .i64 (left-1))).heap[w.heap.size]? =some (.cells #[.slice (some ⟨g,0,none⟩) L.length c2,.int .i64 (left-1),false] 28 (0,0))from by have h:=G.out.An;simpa using h);have B:=Hq (J9 f.out ⟨w.heap.size,1,none⟩ (.int .i64 (left-1)) (by show w.heap.size<_;omega))
  go_wp2_with(first|with_reducible refine lL Z.out Fz ?_|with_reducible refine lS #[.slice (some ⟨g,0,none⟩) L.length c2,.int .i64 (left-1),false] G.out.Ar ?_)
  refine rT2 () G.out.Ar Fz ?_;exact Vr D.out (by rw[List.length_set]) ((C5 B.out).Wt _ _ (fun _ ad e=>(by injection e with e;rw[← e];show g≠w.heap.size+1;omega))) rfl rfl (by rw[List.length_set];exact hlen) (((De.own B.out).row _ _).mono (by omega)) ((G.out.row 1 _ _ rfl).below)
 ·rw[if_neg hp]at D
  have a1:=Hq (show W4.heap[w.heap.size]? =some (.cells #[.slice (some ⟨g,0,none⟩) L.length c2,left,false] 28 (0,0))from(by have h:=l.out.An;simpa using h))
  go_wp2_with(first|with_reducible refine lL a1.out Fz ?_|with_reducible refine lS #[.slice (some ⟨g,0,none⟩) L.length c2,left,false] l.out.Ar ?_)
  refine rT2 () l.out.Ar Fz ?_;exact Vr D.out (by rw[List.length_set]) ((C5 f.out).Wt _ _ (fun _ ad e=>(by injection e with e;rw[← e];show g≠w.heap.size+1;omega))) rfl rfl (by rw[List.length_set];exact hlen) (((De.own f.out).row _ _).mono (by omega)) ((l.out.row 1 _ _ rfl).below)
theorem Te (d:Lg.Dk)(f: -9223372036854775808≤d.left∧d.left≤9223372036854775807)(A:Option Addr)(c:Nat)(a:Int)(b:ByteArray)(w:World)(h:Dd w d A c):
 Cq 269 #[Dx d A c,a,b] w (G6 (Lg.C8 d a b) A w):=by
 obtain⟨L,left,down⟩:=d
 cases down with
 |true=>exact aH L left A c a b _ (by unfold Lg.C8;rw[if_pos rfl]) w h
 |false=>
  by_cases e:Lg.Hr ⟨L,left,false⟩ a∧b.size=128
  ·by_cases g:left=0
   ·subst g
    exact dN L A c a b e.1 e.2 _ (by unfold Lg.C8;rw[if_neg (by simp),if_neg (fun i=>i e),if_pos rfl]) w h
   ·obtain⟨k,rfl⟩:=Int.eq_ofNat_of_zero_le e.1.1
    have hk:k<L.length:=(by have j:=e.1.2;simp only at j;omega);exact kD L left g f A c k b hk e.2 _ (by unfold Lg.C8;rw[if_neg (by simp),if_neg (fun i=>i e),if_neg g];simp) w h
  ·exact dM L left A c a b e _ (by unfold Lg.C8;rw[if_neg (by simp),if_pos e]) w h
theorem dO (n:Nat)(e:n≤4096)(W:World):(Instr.makeSlice 69 (.int .i64 (n:Int)) (.int .i64 (n:Int))).run Tryz.prog W= .ok (.slice (some ⟨W.heap.size,0,none⟩) n n) (W.alloc (.cells (madeCells #[Value.int .u8 0] n) 5)):=by
 obtain⟨i0,d,a,b,c⟩:=info_parts Pt;have h:=run_make (P:=Tryz.prog) W 69 5 i0 (.int .u8 0) Lx d a .i64 .i64 n n (by omega) (by omega) (by rw[c];omega) (by omega);rw[b,Int.toNat_natCast,Nat.mul_one]at h;exact h
theorem dP (n:Nat)(W:World):(convert 69 9 (.slice (some ⟨W.heap.size,0,none⟩) n n)).run Tryz.prog (W.alloc (.cells (madeCells #[Value.int .u8 0] n) 5))= .ok (.string ⟨(List.replicate n 0).toArray⟩) (W.alloc (.cells (madeCells #[Value.int .u8 0] n) 5)):=by
 have h:=run_convert_bytes_back (P:=Tryz.prog) (W.alloc (.cells (madeCells #[Value.int .u8 0] n) 5)) 69 9 5 ⟨W.heap.size,0,none⟩ n (List.replicate n 0) Lx iY cD (fun j b=>by
  have a:j<n:=by simpa using b
  have c:(⟨W.heap.size,0,none⟩:Addr).add j=⟨W.heap.size,j,none⟩:=by
   unfold Addr.add;split
   ·rename_i h;rw[h]
   ·simp
  rw[c,World.cell?_alloc_new]
  simp[madeCells,a,Nat.mod_one])
 rw[List.length_replicate]at h;exact h
theorem Mh:(Tryz.prog.info? 9).map (fun i=>(i.zero,i.size,i.bytes))=some (some (.string ⟨#[]⟩),1,16):=by kernel_rfl
theorem kE (w:World):
 Cr 115 #[] w (.string Lg.Da):=by
 have a:=dO 128 (by omega);have b:=dP 128;unfold Lg.Da;generalize d:(⟨(List.replicate 128 0).toArray⟩:ByteArray)=R at b ⊢;clear d;have c:∀ W:World,(Instr.makeSlice 69 (.int .i64 128) (.int .i64 128)).run Tryz.prog W= .ok (.slice (some ⟨W.heap.size,0,none⟩) 128 128) (W.alloc (.cells (madeCells #[Value.int .u8 0] 128) 5)):=a;clear a;go_enter Tryz.func115,Tryz.ntmps115;go_wp2_with fail;go_ret;exact⟨rfl,Ac _ _⟩
def Xh (d:Lg.Dk)(w:World)(e:Ending)(w':World):Prop:=
 ∃ A c,e= .returned (.tuple #[Dx d A c,()])∧Dd w' d A c∧De w.heap.size w' 9 A∧Bw w w'
theorem pH (n:Nat)(V:1≤n)(h2:n≤65536)(w:World):
 Cq 71 #[.int .i64 (n:Int)] w (Xh (Lg.Li n) w):=by
 have P:=Hq (fun W=>kE W);have H:=Hq (fun v c A w' (l:D7 Gw 1 9 (w.heap.size+2) w' v (List.replicate n Lg.Da)) (X:v= .slice A n c) (Y:Reads w' A c n ((List.replicate n Lg.Da).flatMap Gw)) (E:Bw w w')=>show Xh (Lg.Li n) w (.returned (.tuple #[.agg #[.slice A n c,.int .i64 (-1),false],()])) w' from by
  refine⟨A,c,?_,⟨?_,?_⟩,?_,E⟩
  ·unfold Dx Lg.Li;simp
  ·unfold Lg.Li;simpa using Y
  ·unfold Lg.Li;simp;omega
  ·unfold D7 at l
   rw[List.length_replicate,X]at l;exact(De.own l).mono (by omega))
 generalize Lg.Da=z at P H ⊢;generalize Xh (Lg.Li n) w=Q at H ⊢;have Z:¬ (n:Int)<1:=by omega
 have a1:(n:Int)≤65536:=by omega
 go_enter Tryz.func71,Tryz.ntmps71;go_upto_region 4 with fail;have I:=Nk w #['s',(),false] 28 #['s',.int .i64 (-1),false] 28;obtain⟨W0,q⟩:=E2 I;rw[← q]at I ⊢;clear q;go_wp2_with fail
 go_loopw [5] (fun i wr=>∃ (k:Nat) (v:Value),k≤n∧i= .int .i64 (k:Int)∧Ed w.heap.size w [(#['s',(),false],28),(#[v,.int .i64 (-1),false],28)] wr∧D7 Gw 1 9 (w.heap.size+2) wr v (List.replicate k z)) (fun i _=>n-(intOf i).toNat)
 case atStart=>exact⟨0,.slice none 0 0,Nat.zero_le _,rfl,I.out,Pu _ _ _ _⟩
 case round=>
  obtain⟨k,v,hk,rfl,m,j⟩:=hrel;have r:=Hq m;have F:wr.ownsRow (w.heap.size+2) 9 1 v k ((List.replicate k z).flatMap Gw):=by
   have h:=j;unfold D7 at h
   rwa[List.length_replicate]at h
  have a6:=m.lt (i:=1) (by simp);obtain⟨A,c,rfl⟩:=Ej F;clear m j
  by_cases a7:k<n
  ·go_upto_region 7 with fail
   have b:=Hq (r.out.drew);have s:=Bn F (Below.refl _ wr).drew;refine Ie (S:=(fun u=>u.heap[w.heap.size+1]? =some (.cells #[.slice A k c,.int .i64 (-1),false] 28 (0,0)))) 6 Kr ?_ (fun a=>?_)
   ·first|exact hSn|exact b.out.Ar
   refine nJ 0 [6] ?_;refine nJ 1 [6] ?_;refine Cn (rs:=[2]) Kr (by simp) ?_;refine A5.cons (o:={dst:=some 21,op:=_,type:=_,pos:=_,after:=_,guard:=_}) rfl (fun K d=>?_) ?_
   rotate_left
   ·exact A5.nil
   go_simp
   refine(P.out _).mono ?_;rintro e G ⟨rfl,t⟩;have p:=b.out.step t;have hSn:=p.get 1 _ rfl;have x:=Bn s t;try go_simp
   refine Ct d (fun a=>?_) (by first|exact hSn|exact b.out.Ar);clear d K;refine Cn (rs:=[3]) Kr (by simp) ?_;refine A5.cons (o:={dst:=some 22,op:=_,type:=_,pos:=_,after:=_,guard:=_}) rfl (fun K d=>?_) ?_
   rotate_left
   ·exact A5.nil
   go_simp
   have g:=p.step (Ac G (.cells #[z] 9));have hSn:=g.get 1 _ rfl;have y:=Bn x (Ac G (.cells #[z] 9));have R:=heap_alloc_new G (.cells #[z] 9);refine Ct d (fun a=>?_) (by first|exact hSn|exact b.out.Ar);clear d K;refine Cn (rs:=[4]) Kr (by simp) ?_;refine A5.cons (o:={dst:=some 23,op:=_,type:=_,pos:=_,after:=_,guard:=_}) rfl (fun K d=>?_) ?_
   rotate_left
   ·exact A5.nil
   refine Bh (by rfl) ?_;refine Ws _ (.tmp 20) (.tmp 22) 26 9 Rj Mh rfl (by omega) (by omega) rfl (w.heap.size+2) _ k ((List.replicate k z).flatMap Gw) rfl y G.heap.size (Gw z) 9 rfl R rfl (by simp[Gw,Value.oneCell']) (by omega) (by have V:=g.lt (i:=1) (by simp);omega) ?_;intro v7 w7 l hg E;obtain⟨T,U,rfl⟩:=Ej l;have f:=g.under (M:=w.heap.size+2) (Nat.le_refl _) E;have hSn:=f.get 1 _ rfl;have B:=Aa (f.get 1 _ rfl);have J:=Ap (f.get 1 _ rfl);refine Ct d (fun a=>?_) (by first|exact hSn|exact b.out.Ar);clear d K;refine nJ 5 [6] ?_;refine Cn (rs:=[6]) Kr (by simp) ?_;refine A5.last (o:={dst:=none,op:=_,type:=_,pos:=_,after:=_,guard:=_}) rfl Kr (fun K d=>?_) ?_
   rotate_left
   ·exact A5.nil
   go_simp
   refine d.out _ _ ?_;clear d K
   try simp only[Act.put,pS]
   refine Ic Kr ?_ _;have L:=Hq (f.set 1 0 (.slice T (k+1) U) _ rfl);have N:=Hq (J9 l ⟨w.heap.size+1,0,none⟩ (.slice T (k+1) U) (by show w.heap.size+1<_;omega));clear F s x y l hg E p g f hSn B J R a b r;go_wp2_with fail;go_roundw
   case rel=>exact⟨k+1,_,by omega,by go_num,(by have h:=L.out;first|exact h|simpa using h),(by
    have h:=N.out;unfold D7;rw[List.length_replicate,List.replicate_succ',List.flatMap_append]
    simpa using h)⟩
   case measure=>simp[intOf];omega
  ·obtain rfl:k=n:=by omega
   have O:=Hq r.out.Ar;have C:=Hq (show wr.heap[w.heap.size]? =some (.cells #['s',(),false] 28 (0,0))from by have h:=r.out.An;simpa using h)
   go_wp2_with(first|with_reducible refine lL O.out Fz ?_|with_reducible refine lS #[.slice A k c,.int .i64 (-1),false] C.out ?_)
   refine rT2 () C.out Fz ?_;have D:=I2 F w.heap.size #[.slice A k c,.int .i64 (-1),false] (by omega);exact H.out _ c A _ (by unfold D7;rw[List.length_replicate];exact D) rfl (C5 D) (by have h:=(r.out.row 0 #[.slice A k c,.int .i64 (-1),false] _ rfl).below;simpa using h)
end Go.Proofs.YtpogpkonojhakaaGreatDoor
namespace Lg
theorem Mi (n:Nat):(⟨(Go.Lib.repeatL [(0:UInt8)] n).toArray⟩:ByteArray)=⟨(List.replicate n 0).toArray⟩:=by
 congr 2
 induction n with
 |zero=>rfl
 |succ n ih=>
  rw[List.replicate_succ,← ih]
  rfl
theorem pI (t:ByteArray)(m:Nat)(b:m=min t.size 128):t.extract 0 m++(⟨(Go.Lib.repeatL [(0:UInt8)] (128-m)).toArray⟩:ByteArray)=Kd (t.data.toList.take 128):=by
 rw[Mi];unfold Kd
 apply ByteArray.ext
 rw[ByteArray.data_append]
 apply Array.toList_inj.1
 rw[Array.toList_append];have e:(t.extract 0 m).data.toList=t.data.toList.take 128:=by
  simp only[ByteArray.data_extract,Array.toList_extract,List.extract_eq_take_drop,Nat.sub_zero,List.drop_zero];have a:t.data.toList.length=t.size:=by simp
  by_cases h:t.size≤128
  ·rw[List.take_of_length_le (by omega),List.take_of_length_le (by omega)]
  ·rw[show m=128 by omega]
 have a:(t.data.toList.take 128).length=m:=by rw[List.length_take];simp;omega
 rw[e,a]
theorem pJ (t:ByteArray)(m:Nat)(c:m=min t.size 128)(d:0<t.size):Iq t=Kd (t.data.toList.take 128)::Iq (t.extract m t.size):=by
 unfold Iq;have b:t.data.toList≠[]:=fun e=>by
  have a:t.data.toList.length=t.size:=by simp
  rw[e,List.length_nil]at a;omega
 rw[M7 b]
 congr 2
 simp only[ByteArray.data_extract,Array.toList_extract,List.extract_eq_take_drop];have a:t.data.toList.length=t.size:=by simp
 rw[List.take_of_length_le (by rw[List.length_drop];omega)]
 by_cases h:t.size≤128
 ·rw[List.drop_of_length_le (i:=128) (by omega),List.drop_of_length_le (i:=m) (by omega)]
 ·rw[show m=128 by omega]
theorem pK (t:ByteArray)(a:t.size=0):Iq t=[]:=by
 unfold Iq;have b:t.data.toList=[]:=List.eq_nil_of_length_eq_zero (by simpa using a);rw[b,Ij]
end Lg
namespace Go.Proofs.YtpogpkonojhakaaGreatDoor
open Go.RowKit
abbrev Nn (l:Lg.Lo):Value:=.agg #[l.from_,l.n,l.end_,l.safe,l.tail]
def dQ (l:List ByteArray)(w:World)(e:Ending)(w':World):Prop:=∃ v,e= .returned v∧D7 Gw 1 9 w.heap.size w' v l∧Bw w w'
theorem sR (s:ByteArray)(hs:s.size≤1000000)(w:World):
 Cq 268 #[s] w (dQ (Lg.Iq s) w):=by
 have O:=Hq (fun v w' (L:D7 Gw 1 9 w.heap.size w' v (Lg.Iq s)) (M:Bw w w')=>show dQ (Lg.Iq s) w (.returned v) w' from⟨v,rfl,L,M⟩);generalize dQ (Lg.Iq s) w=Q at O ⊢;obtain⟨C,hC⟩:=ex (Lg.Iq s);have a8:C.length≤8000:=by rw[hC,Lg.Jz];omega
 rw[← hC]at O;have HC:=Hq hC;have HR:=Hq (fun(c:Nat) (hc:c≤128) W=>Tryz.strings_Repeat ⟨#[0]⟩ c W (by omega) (show(⟨#[0]⟩:ByteArray).size*c≤140737488355328 from(by show 1*c≤_;have:c≤128:=hc;omega)));clear hC;go_enter Tryz.func268,Tryz.ntmps268;go_wp2_with fail
 go_loopw [0,3] (fun P v wr=>∃ (t:ByteArray) (ls:List ByteArray),P= .string t∧t.size≤1000000∧ls++Lg.Iq t=C∧D7 Gw 1 9 w.heap.size wr v ls∧Bw w wr) (fun P _ _=>(match P with| .string t=>t.size|_=>0))
 case atStart=>exact⟨s,[],rfl,hs,HC.out.symm,Pu _ _ _ _,Below.refl _ _⟩
 case round=>
  obtain⟨t,ls,rfl,aa,g,N,hB⟩:=hrel;have R:=Hq hB;have ad:ls.length≤8000:=by have:=congrArg List.length g;rw[List.length_append]at this;omega
  have n:=Hq g;clear hB g
  by_cases h0:0<t.size
  ·obtain⟨m,T⟩:=ex (min t.size 128)
   have ae:min (t.size:Int) 128=(m:Int):=(by omega);have af:m≤t.size:=(by omega);have ag:m≤128:=(by omega);have ah:(0:Int)≤(m:Int):=(by omega);have ai:(m:Int)≤(t.size:Int):=(by omega);have d:(128:Int)-(m:Int)=((128-m:Nat):Int):=(by omega);have U:IntKind.i64.wrap ((128:Int)-(m:Int))=((128-m:Nat):Int):=(by rw[d];exact IntWalk.i64_in _ (by omega));have o:IntKind.i64.wrap ((128-m:Nat):Int)=((128-m:Nat):Int):=IntWalk.i64_in _ (by omega);have V:=Hq (Lg.pI t m T);have HN:=Hq (Lg.pJ t m T h0);have p:=Lg.Q4 (l:=t.data.toList.take 128) (by rw[List.length_take];omega);have q:(t.extract m t.size).size<t.size:=(by rw[ByteArray.size_extract];omega);have u:=Hq q;have X:=HR.out (128-m) (show 128-m≤128 by omega);have b:(t.extract 0 m).size+(⟨(Lib.repeatL [(0:UInt8)] (128-m)).toArray⟩:ByteArray).size≤9223372036854775807:=by
    rw[Lg.Mi,ByteArray.size_extract]
    show _+(List.replicate (128-m) (0:UInt8)).toArray.size≤_
    simp
    omega
   have Y:=Hq X;obtain⟨z,Z⟩:=ex (⟨(Lib.repeatL [(0:UInt8)] (128-m)).toArray⟩:ByteArray);obtain⟨y,hy⟩:=ex (Lg.Kd (t.data.toList.take 128):ByteArray);have B:Hid (∀ W,Cr 158 #[.string ⟨#[0]⟩,.int .i64 ((128-m:Nat):Int)] W (.string z)):=Hq (by rw[Z];exact X);rw[← Z]at V b;rw[← hy]at V HN p;have D:∀ W:World,(Op.stringOp .add (t.extract 0 m) z).run Tryz.prog W= .ok (.string y) W:=fun W=>by rw[← V.out];exact run_string_add_sum W _ _ b
   obtain⟨r,hr⟩:=ex (128-m:Nat);rw[← hr]at d U o B;clear X HR Y T Z hy q hr b;obtain⟨A,c,rfl⟩:=Ej N;go_upto_region 4 with fail;have E:=Bn N (Below.refl _ wr).drew;have i:=R.out.drew;refine Gs (S:=(fun _=>True)) (fun a=>?_) (by trivial);refine Aw 0 ?_;refine Aw 1 ?_;refine Aw 2 ?_;refine Aw 3 ?_;refine Aw 4 ?_;refine Aw 5 ?_;refine Cz 6 fun K f=>?_
   go_simp
   refine(B.out _).mono ?_;rintro e w1 ⟨rfl,F⟩;have G:=Bn E F;have j:=i.trans (F.mono i.size);try go_simp
   refine Ct f (fun a=>?_) (by trivial);clear f K;refine Aw 7 ?_;refine Cz 8 fun K f=>?_
   go_simp
   have H:=Bn G (Ac w1 (.cells #[y] 9));have k:=j.alloc j.size (.cells #[y] 9);have hG:=heap_alloc_new w1 (.cells #[y] 9);refine Ct f (fun a=>?_) (by trivial);clear f K;refine Cz 9 fun K f=>?_;refine Bh (by rfl) ?_;refine Ws _ (.tmp 11) (.tmp 19) 26 9 Rj Mh rfl (by omega) (by omega) rfl w.heap.size _ ls.length (ls.flatMap Gw) rfl H w1.heap.size (Gw y) 9 rfl hG rfl (by simp[Gw,Value.oneCell']) (by omega) k.size ?_;intro v7 w7 L hg M;have I:=k.trans M;refine Ct f (fun a=>?_) (by trivial);clear f K;refine Aw 10 ?_;refine wpAnyH_done Kr ?_ _;have a1:=Hq (D7.push (enc:=Gw) (x:=y) L);have a6:=Hq I;clear N E G H i j k I L hg M hG a R D p;go_wp2_with fail;go_roundw
   case rel=>exact⟨_,ls++[y],rfl,by have:=u.out;omega,by rw[List.append_assoc];have h:=n.out;rw[HN.out]at h;exact h,a1.out,a6.out⟩
   case measure=>exact u.out
  ·have a7:t.size=0:=by omega
   have J:ls=C:=(by have h:=n.out;rwa[Lg.pK t a7,List.append_nil]at h);subst J;go_wp2_with fail;exact O.out _ _ N R.out
end Go.Proofs.YtpogpkonojhakaaGreatDoor
namespace Rc
end Rc
namespace Go.Proofs.YtpogpkonojhakaaGreatDoor
open Go.RowKit
abbrev xQ:Array Value:=#[(),(),(),(),(),(),(),(),(),"","",(),(),"",(),(),'s','s']
end Go.Proofs.YtpogpkonojhakaaGreatDoor
namespace Rc
end Rc
namespace Go.Proofs.YtpogpkonojhakaaGreatDoor
open Go.RowKit
theorem aI:(Tryz.prog.info? 107).map (fun i=>(i.zero,i.size,i.bytes))=some (some (.agg #[(),(),(),false]),4,32):=by kernel_rfl
end Go.Proofs.YtpogpkonojhakaaGreatDoor
namespace Lg
end Lg
namespace Go.Proofs.YtpogpkonojhakaaGreatDoor
open Go.RowKit
end Go.Proofs.YtpogpkonojhakaaGreatDoor
namespace Lg
end Lg
namespace Go.Proofs.YtpogpkonojhakaaGreatDoor
open Go.RowKit
end Go.Proofs.YtpogpkonojhakaaGreatDoor
