import Derived.Test.YtpogpkonojhakaaGreatDoorHk00
import Derived.Test.YtpogpkonojhakaaGreatDoorHk03
import Derived.Lib.AtoiAll
import Derived.Lib.ItoaMem
import Derived.Lib.ItoaLen
import Derived.Lib.SliceRun
import Derived.Deep.RegionLaw
import Derived.Deep.MidRow
set_option maxRecDepth 100000
set_option maxHeartbeats 16000000
set_option linter.unusedSimpArgs false
namespace Go.Proofs.YtpogpkonojhakaaGreatDoor
open Go.RowKit
theorem kK (p:ByteArray)(i:Int)(r:ByteArray)(O:p.size≤140737488355328)(w:World):
 Cr 66 #[p,i,r] w (Ko (Iy p i r)):=by
 have j:=Hq (fun W=>Ih p O W);have l:=Hq (fun W=>Iw p i O W);have v:=Hq (fun W=>Za r W);change Hid (∀ W,Calls _ _ _ _ fun e w'=>e= .returned (.bool (He r))∧_)at v;have d:=Cf p;unfold Iy
 cases E:Bi p with
 |false=>
  rw[if_pos rfl];rw[E]at j;generalize Pg.Az (Ab p).Ai i=q at l;generalize (!decide (q.size=0))=b at l;generalize Ab p=x at j;clear d E v;go_enter Tryz.func66,Tryz.ntmps66
  go_wp2_with(first|(go_at_call 92;refine(j.out _).mono ?_;rintro e t ⟨z,A,c,rfl,f,g⟩)|(go_at_call 59;refine(l.out _).mono ?_;rintro e u ⟨rfl,a⟩))
  go_ret2;exact⟨rfl,andThen g (Bb a)⟩
 |true=>
  rw[E]at j;rw[if_neg (by simp)];clear E
  by_cases G:i<0
  ·rw[if_pos G]
   generalize Pg.Az (Ab p).Ai i=q at l;generalize (!decide (q.size=0))=b at l;generalize Ab p=x at j;clear d v;go_enter Tryz.func66,Tryz.ntmps66
   go_wp2_with(first|(go_at_call 92;refine(j.out _).mono ?_;rintro e t ⟨z,A,c,rfl,f,g⟩;obtain⟨h,m⟩:=f rfl;clear f;subst h)|(go_at_call 59;refine(l.out _).mono ?_;rintro e u ⟨rfl,a⟩;obtain⟨c0,F,c2,c3,f0,f1,f2,f3⟩:=Ey (C6 a);have s:t.heap.size<u.heap.size:=(by have:=a.size;simp at this;omega)))
   go_ret2;exact⟨rfl,andThen g (Bb a)⟩
  ·rw[if_neg G]
   obtain⟨k,rfl⟩:=Int.eq_ofNat_of_zero_le (show 0≤i by omega);have Q:(0:Int)≤(k:Int):=(by omega);clear G;rw[show((k:Int)).toNat=k from rfl]
   by_cases y:(Pg.Az (Ab p).Ai (k:Int)).size≠0
   ·rw[if_pos y]
    rw[decide_eq_false y]at l;clear y;generalize Pg.Az (Ab p).Ai (k:Int)=q at l;generalize Ab p=x at j;clear d v;go_enter Tryz.func66,Tryz.ntmps66
    go_wp2_with(first|(go_at_call 92;refine(j.out _).mono ?_;rintro e t ⟨z,A,c,rfl,f,g⟩;obtain⟨h,m⟩:=f rfl;clear f;subst h)|(go_at_call 59;refine(l.out _).mono ?_;rintro e u ⟨rfl,a⟩;obtain⟨c0,F,c2,c3,f0,f1,f2,f3⟩:=Ey (C6 a);have s:t.heap.size<u.heap.size:=(by have:=a.size;simp at this;omega)))
    go_ret2;exact⟨rfl,andThen g (Bb a)⟩
   ·rw[if_neg y]
    rw[decide_eq_true (Decidable.not_not.1 y)]at l;clear y;generalize Pg.Az (Ab p).Ai (k:Int)=q at l
    cases h:He r with
    |false=>
     rw[if_pos rfl];rw[h]at v;generalize Ab p=x at j;clear d h;go_enter Tryz.func66,Tryz.ntmps66
     go_wp2_with(first|(go_at_call 92;refine(j.out _).mono ?_;rintro e t ⟨z,A,c,rfl,f,g⟩;obtain⟨h,m⟩:=f rfl;clear f;subst h)|(go_at_call 59;refine(l.out _).mono ?_;rintro e u ⟨rfl,a⟩;obtain⟨c0,F,c2,c3,f0,f1,f2,f3⟩:=Ey (C6 a);have s:t.heap.size<u.heap.size:=(by have:=a.size;simp at this;omega))|(go_at_call 103;refine(v.out _).mono ?_;rintro e P ⟨rfl,rfl⟩))
     go_ret2;exact⟨rfl,andThen g (Bb a)⟩
    |true=>
     rw[if_neg (by simp)];rw[h]at v;obtain⟨R,S⟩:=D5 h;clear h
     by_cases H:(512:Int)<(k:Int)
     ·rw[if_pos H]
      have B:=Hq (fun A c n W=>jL A c n (k:Int) r H W);generalize Ab p=x at j;clear d;go_enter Tryz.func66,Tryz.ntmps66
      go_wp2_with(first|(go_at_call 92;refine(j.out _).mono ?_;rintro e t ⟨z,A,c,rfl,f,g⟩;obtain⟨h,m⟩:=f rfl;clear f;subst h)|(go_at_call 59;refine(l.out _).mono ?_;rintro e u ⟨rfl,a⟩;obtain⟨c0,F,c2,c3,f0,f1,f2,f3⟩:=Ey (C6 a);have s:t.heap.size<u.heap.size:=(by have:=a.size;simp at this;omega))|(go_at_call 103;refine(v.out _).mono ?_;rintro e P ⟨rfl,rfl⟩)|(go_at_call 104;refine(B.out _ _ _ _).mono ?_;rintro e T ⟨rfl,rfl⟩))
      go_ret2;exact⟨rfl,andThen g (Bb a)⟩
     ·rw[if_neg H]
      have I:=d.fine.len;have J:=d.fine.sum;have K:=Pg.Ji (Ab p).Ai k r;have B:=Hq (fun A c W L=>Sk (Ab p).Ai A c k r (by omega) (by omega) W L);have C:=Hq (fun A c W L=>Zh (A4 p (Pg.putAt (Ab p).Ai k r)) A c (Dv p _) (by show Pg.Au (Pg.putAt _ _ _)≤_;omega) (.inr ((Pg.La _).2 (Pg.Qz d.tight k (by omega)))) W L);generalize Pg.El (A4 p (Pg.putAt (Ab p).Ai k r))=o at C ⊢;change Hid (∀ A c W,Cells W A c (Pg.putAt (Ab p).Ai k r)→Calls _ _ #[.agg #[.int .i64 (Ab p).lsn,.int .i64 (Ab p).kind,.int .i64 (Ab p).link,.slice A (Pg.putAt (Ab p).Ai k r).length c]] _ _)at C;clear K I J d;generalize Pg.putAt (Ab p).Ai k r=rs at B C;generalize Ab p=x at j B C;go_enter Tryz.func66,Tryz.ntmps66
      go_wp2_with(first|(go_at_call 92;refine(j.out _).mono ?_;rintro e t ⟨z,A,c,rfl,f,g⟩;obtain⟨h,m⟩:=f rfl;clear f;subst h)|(go_at_call 59;refine(l.out _).mono ?_;rintro e u ⟨rfl,a⟩;obtain⟨c0,F,c2,c3,f0,f1,f2,f3⟩:=Ey (C6 a);have s:t.heap.size<u.heap.size:=(by have:=a.size;simp at this;omega))|(go_at_call 103;refine(v.out _).mono ?_;rintro e P ⟨rfl,rfl⟩)|(go_at_call 104;refine(B.out _ _ _ (m.cells.below (Bb a))).mono ?_;rintro e T ⟨U,V,rfl,M,D⟩;obtain⟨d0,d1,d2,d3,g0,g1,g2,g3⟩:=Ey (Fb (C6 a) D))|(go_at_call 105;refine(C.out _ _ _ (Bo.set M _ s _).cells).mono ?_;rintro e X ⟨rfl,N⟩))
      go_ret2;exact⟨rfl,andThen ((andThen (andThen g (Bb a)) D).setCell g.size _) N⟩
theorem kL (p:ByteArray)(i:Int)(r:ByteArray)(K:p.size≤140737488355328)(w:World):
 Cr 58 #[p,i,r] w (Ko (Gn p i r)):=by
 have h:=Hq (fun W=>Ih p K W);have j:=Hq (fun W=>Iw p i K W);have l:=Hq (fun W=>Za r W);change Hid (∀ W,Calls _ _ _ _ fun e w'=>e= .returned (.bool (He r))∧_)at l;have a:=Cf p;unfold Gn
 cases y:Bi p with
 |false=>
  rw[if_pos rfl];rw[y]at h;generalize Ab p=x at h;clear a y j l;go_enter Tryz.func58,Tryz.ntmps58
  go_wp2_with(first|(go_at_call 92;refine(h.out _).mono ?_;rintro e s ⟨z,A,c,rfl,b,f⟩))
  go_ret2;exact⟨rfl,At f⟩
 |true=>
  rw[y]at h;rw[if_neg (by simp)];clear y
  cases g:He r with
  |false=>
   rw[if_pos rfl];rw[g]at l;generalize Ab p=x at h;clear a g j;go_enter Tryz.func58,Tryz.ntmps58
   go_wp2_with(first|(go_at_call 92;refine(h.out _).mono ?_;rintro e s ⟨z,A,c,rfl,b,f⟩;obtain⟨g,m⟩:=b rfl;clear b;subst g)|(go_at_call 103;refine(l.out _).mono ?_;rintro e L ⟨rfl,rfl⟩))
   go_ret2;exact⟨rfl,At f⟩
  |true=>
   rw[if_neg (by simp)];rw[g]at l;obtain⟨M,N⟩:=D5 g;clear g
   by_cases n:(Pg.Az (Ab p).Ai i).size=0
   ·rw[if_pos n]
    rw[decide_eq_true n]at j;generalize Pg.Az (Ab p).Ai i=q at j;generalize Ab p=x at h;clear a n;go_enter Tryz.func58,Tryz.ntmps58
    go_wp2_with(first|(go_at_call 92;refine(h.out _).mono ?_;rintro e s ⟨z,A,c,rfl,b,f⟩;obtain⟨g,m⟩:=b rfl;clear b;subst g)|(go_at_call 103;refine(l.out _).mono ?_;rintro e L ⟨rfl,rfl⟩)|(go_at_call 59;refine(j.out _).mono ?_;rintro e B ⟨rfl,d⟩;obtain⟨c0,O,c2,c3,f0,f1,f2,f3⟩:=Ey (C6 d);have t:s.heap.size<B.heap.size:=(by have:=d.size;simp at this;omega)))
    go_ret2;exact⟨rfl,andThen f (Bb d)⟩
   ·rw[if_neg n]
    obtain⟨C,P⟩:=Pg.I5 n;rw[decide_eq_false n]at j;clear n;generalize Pg.Az (Ab p).Ai i=q at j;obtain⟨k,rfl⟩:=Int.eq_ofNat_of_zero_le C;rw[show((k:Int)).toNat=k from rfl];have D:=a.fine.len;have E:=a.fine.sum;have F:=Pg.Ji (Ab p).Ai k r;have G:=Hq (fun A c W H=>Sk (Ab p).Ai A c k r (by omega) (by omega) W H);have u:=Hq (fun A c W H=>Zh (A4 p (Pg.putAt (Ab p).Ai k r)) A c (Dv p _) (by show Pg.Au (Pg.putAt _ _ _)≤_;omega) (.inr ((Pg.La _).2 (Pg.Qz a.tight k (by omega)))) W H);generalize Pg.El (A4 p (Pg.putAt (Ab p).Ai k r))=o at u ⊢;change Hid (∀ A c W,Cells W A c (Pg.putAt (Ab p).Ai k r)→Calls _ _ #[.agg #[.int .i64 (Ab p).lsn,.int .i64 (Ab p).kind,.int .i64 (Ab p).link,.slice A (Pg.putAt (Ab p).Ai k r).length c]] _ _)at u;clear F D E a;generalize Pg.putAt (Ab p).Ai k r=rs at G u;generalize Ab p=x at h G u;go_enter Tryz.func58,Tryz.ntmps58
    go_wp2_with(first|(go_at_call 92;refine(h.out _).mono ?_;rintro e s ⟨z,A,c,rfl,b,f⟩;obtain⟨g,m⟩:=b rfl;clear b;subst g)|(go_at_call 103;refine(l.out _).mono ?_;rintro e L ⟨rfl,rfl⟩)|(go_at_call 59;refine(j.out _).mono ?_;rintro e B ⟨rfl,d⟩;obtain⟨c0,O,c2,c3,f0,f1,f2,f3⟩:=Ey (C6 d);have t:s.heap.size<B.heap.size:=(by have:=d.size;simp at this;omega))|(go_at_call 104;refine(G.out _ _ _ (m.cells.below (Bb d))).mono ?_;rintro e Q ⟨R,S,rfl,I,v⟩;obtain⟨d0,d1,d2,d3,g0,g1,g2,g3⟩:=Ey (Fb (C6 d) v))|(go_at_call 105;refine(u.out _ _ _ (Bo.set I _ t _).cells).mono ?_;rintro e T ⟨rfl,J⟩))
    go_ret2;exact⟨rfl,andThen ((andThen (andThen f (Bb d)) v).setCell f.size _) J⟩
def Og (p:ByteArray)(i:Int)(r:ByteArray):ByteArray×Int:=
 if Bi p=false then(⟨#[]⟩,1)else if i<0 then(⟨#[]⟩,1)else if He r=false then(⟨#[]⟩,1)else if 512<i then(⟨#[]⟩,18)else Pg.El (A4 p (Pg.Sn (Ab p).Ai i.toNat r))
def P6 (p:ByteArray)(i:Int):ByteArray×Int:=
 if Bi p=false then(⟨#[]⟩,1)else if(Pg.Az (Ab p).Ai i).size=0 then(⟨#[]⟩,21)else Pg.El (A4 p (Pg.So (Ab p).Ai i.toNat))
theorem sS (l:List UInt8):(⟨l.toArray⟩:ByteArray).data.toList=l:=rfl
theorem gI (p:ByteArray):(⟨p.data.toList.toArray⟩:ByteArray)=p:=by
 apply ByteArray.ext
 rw[Array.toArray_toList]
theorem aL {p q:ByteArray}(h:p.data.toList=q.data.toList):p=q:=ByteArray.ext (Array.toList_inj.1 h)
theorem gJ {p:ByteArray}{x:Pg.Cw}(h:Pg.right p.data.toList=some x):Bi p=true∧Ab p=x:=by
 unfold Bi Ab Pg.Kb;rw[h];exact⟨rfl,rfl⟩
theorem U5 {p:ByteArray}(h:Bi p=true):Pg.right p.data.toList=some (Ab p):=by
 unfold Bi at h;unfold Ab Pg.Kb
 cases a:Pg.right p.data.toList with
 |none=>rw[a]at h;cases h
 |some x=>rfl
theorem Fi (p:ByteArray):p.data.toList.length=p.size:=by simp
def Dl (x:Pg.Cw):ByteArray:=⟨(Pg.C0 x).toArray⟩
theorem Tj (x:Pg.Cw):(Dl x).data.toList=Pg.C0 x:=rfl
theorem Tk {x:Pg.Cw}(a:Pg.Au (Pg.trim x.Ai)≤512):(Dl x).size=512:=by
 rw[← Fi,Tj];exact Pg.Me a
theorem Mj {x:Pg.Cw}(a:Pg.Small x)(b:Pg.Au (Pg.trim x.Ai)≤512)(c:∀ r∈x.Ai,r.size≤400):Bi (Dl x)=true∧Ab (Dl x)={x with Ai:=Pg.trim x.Ai}:=
 gJ (by rw[Tj];exact Pg.cM a b c)
theorem J1 {x:Pg.Cw}(a:Pg.Au (Pg.trim x.Ai)≤512):Pg.El x=(Dl x,0):=Pg.P1 a
theorem J2 (x:Pg.Cw):(Pg.Au (Pg.trim x.Ai)≤512∧Pg.El x=(Dl x,0))∨(512<Pg.Au (Pg.trim x.Ai)∧Pg.El x=(⟨#[]⟩,18)):=by
 rcases Nat.lt_or_ge 512 (Pg.Au (Pg.trim x.Ai))with h|h
 ·exact .inr ⟨h,Pg.Zg h⟩
 ·exact .inl ⟨h,Pg.P1 h⟩
theorem xS (n:Nat):(Oct.Be (n:Int) 4).data.toList=Oct.Bl (Oct.word n) 4:=Oct.Cd _ 4 (by omega)
theorem Tl (t:ByteArray):(Md t).data.toList=Oct.Bl (Oct.word (Oct.Gy t.data.toList)) 4++t.data.toList:=by
 unfold Md;rw[ByteArray.data_append,Array.toList_append,xS]
theorem Mk (p:ByteArray)(h:p.size=512):(p.extract 4 512).data.toList=p.data.toList.drop 4:=by
 rw[show 512=4+508 from rfl,extract_eq]
 show(p.data.toList.drop 4).take 508=_
 exact List.take_of_length_le (by rw[List.length_drop,Fi];omega)
theorem G7 {p:ByteArray}(h:Bi p=true):Bi (Ek p)=true∧Ab (Ek p)=Ab p∧Ia (Ek p)=true∧(Ek p).size=512:=by
 have e:=Hm h;have a:(Ek p).data.toList=Oct.Bl (Oct.word (Oct.Gy (p.data.toList.drop 4))) 4++p.data.toList.drop 4:=by
  unfold Ek;rw[if_pos h,Tl,Mk p e]
 have b:(Ek p).size=512:=by
  rw[← Fi,a,List.length_append,Oct.Ba,List.length_drop,Fi];omega
 have c:(Ek p).data.toList.drop 4=p.data.toList.drop 4:=by rw[a];exact List.drop_left' (Oct.Ba _ 4)
 have f:=Pg.jG (q:=(Ek p).data.toList) (U5 h) (by rw[Fi];exact b) c;obtain⟨d,g⟩:=gJ f;refine⟨d,g,?_,b⟩;unfold Ia;rw[d,Bool.true_and]
 apply decide_eq_true
 apply aL
 rw[Tl,Mk _ b,c];exact a.symm
end Go.Proofs.YtpogpkonojhakaaGreatDoor
namespace Pg
def Cc (rs:List ByteArray)(j:Nat):ByteArray:=(rs[j]?).getD ⟨#[]⟩
theorem G8 {rs:List ByteArray}{j:Nat}(h:rs.length≤j):Cc rs j=⟨#[]⟩:=by
 unfold Cc;rw[List.getElem?_eq_none h];rfl
theorem Oh {rs:List ByteArray}{j:Nat}(h:j<rs.length):Cc rs j=rs[j]:=by
 unfold Cc;rw[List.getElem?_eq_getElem h];rfl
theorem Ci (rs:List ByteArray)(k:Nat):Az rs (k:Int)=Cc rs k:=by
 unfold Az Cc;rw[if_neg (by omega)];rfl
theorem nil_of_size {r:ByteArray}(h:r.size=0):r=⟨#[]⟩:=by
 apply ByteArray.ext
 exact Array.eq_empty_of_size_eq_zero h
theorem dW (rs:List ByteArray):∀ m j,Ds rs m≤j→j<m→(Cc rs j).size=0:=by
 intro m
 induction m with
 |zero=>intro j _ h;omega
 |succ m ih=>
  intro j a d;unfold Ds at a
  split at a
  ·rename_i b
   by_cases c:j=m
   ·rw[c];exact b
   ·exact ih j a (by omega)
  ·omega
theorem Ml (rs:List ByteArray)(j:Nat):Cc (trim rs) j=Cc rs j:=by
 have a:=Ot rs rs.length
 by_cases h:j<Ds rs rs.length
 ·unfold Cc trim
  rw[List.getElem?_take_of_lt h]
 ·have b:Cc (trim rs) j=⟨#[]⟩:=G8 (by unfold trim;rw[List.length_take];omega)
  rw[b]
  by_cases c:j<rs.length
  ·exact(nil_of_size (dW rs rs.length j (by omega) c)).symm
  ·exact(G8 (by omega)).symm
theorem kM {rs ss:List ByteArray}(g:Jd rs)(i:Jd ss)(h:∀ j,Cc rs j=Cc ss j):rs=ss:=by
 have key:∀ {a b:List ByteArray},Jd a→(∀ j,Cc a j=Cc b j)→a.length≤b.length:=by
  intro a b k c;rcases Sm k with h0|h0
  ·omega
  ·rcases Nat.lt_or_ge b.length a.length with l|hge
   ·exfalso
    apply h0
    have d:=c (a.length-1);have m:Cc b (a.length-1)=⟨#[]⟩:=G8 (by omega);rw[m]at d;unfold Cc at d;rw[d];rfl
   ·exact hge
 have n:rs.length=ss.length:=Nat.le_antisymm (key g h) (key i fun j=>(h j).symm)
 apply List.ext_getElem n
 intro j e f;have:=h j
 rwa[Oh e,Oh f]at this
theorem aM {rs ss:List ByteArray}(h:∀ j,Cc rs j=Cc ss j):trim rs=trim ss:=
 kM (Py rs) (Py ss) fun j=>by rw[Ml,Ml,h]
theorem Eh (rs:List ByteArray)(k:Nat)(r:ByteArray)(j:Nat):Cc (putAt rs k r) j=if j=k then r else Cc rs j:=Vk rs k r j
theorem Kt (rs:List ByteArray)(k:Nat)(r:ByteArray)(j:Nat):Cc (Sn rs k r) j=if j<k then Cc rs j else if j=k then r else Cc rs (j-1):=by
 unfold Sn
 split
 ·rename_i h
  rw[Eh]
  by_cases a:j=k
  ·rw[if_pos a,if_neg (by omega),if_pos a]
  ·rw[if_neg a]
   by_cases b:j<k
   ·rw[if_pos b]
   ·rw[if_neg b,if_neg a,G8 (by omega),G8 (by omega)]
 ·rename_i h
  unfold Cc;rw[List.append_assoc,List.getElem?_append];have c:(rs.take k).length=k:=by rw[List.length_take];omega
  rw[c]
  by_cases b:j<k
  ·rw[if_pos b,if_pos b,List.getElem?_take_of_lt b]
  ·rw[if_neg b,if_neg b,List.singleton_append]
   by_cases a:j=k
   ·rw[if_pos a,a,Nat.sub_self];rfl
   ·rw[if_neg a]
    obtain⟨m,rfl⟩:∃ m,j=k+1+m:=⟨j-(k+1),by omega⟩;rw[show k+1+m-k=m+1 by omega,List.getElem?_cons_succ,List.getElem?_drop,show k+1+m-1=k+m by omega]
theorem P7 (rs:List ByteArray)(k:Nat)(h:k<rs.length)(j:Nat):Cc (So rs k) j=if j<k then Cc rs j else Cc rs (j+1):=by
 unfold So Cc;rw[List.getElem?_append];have b:(rs.take k).length=k:=by rw[List.length_take];omega
 rw[b]
 by_cases a:j<k
 ·rw[if_pos a,if_pos a,List.getElem?_take_of_lt a]
 ·rw[if_neg a,if_neg a,List.getElem?_drop,show k+1+(j-k)=j+1 by omega]
theorem P8 (rs:List ByteArray):(Cc rs (C4 rs)).size=0:=by
 induction rs with
 |nil=>rfl
 |cons r rs a=>
  unfold C4
  split
  ·rename_i h;exact h
  ·exact a
end Pg
namespace Go.Proofs.YtpogpkonojhakaaGreatDoor
open Go.RowKit
structure Made (p q:ByteArray) (rs:List ByteArray):Prop where
 Bi:Bi q=true
 size:q.size=512
 lsn:(Ab q).lsn=(Ab p).lsn
 kind:(Ab q).kind=(Ab p).kind
 link:(Ab q).link=(Ab p).link
 Cc:∀ j,Pg.Cc (Ab q).Ai j=Pg.Cc rs j
theorem I8 {p q:ByteArray}{rs:List ByteArray}{e:Int}(g:∀ r∈rs,r.size≤400)(h:Pg.El (A4 p rs)=(q,e))(i:e=0):Made p q rs∧q=Dl (A4 p rs):=by
 rcases J2 (A4 p rs)with⟨b,c⟩|⟨b,c⟩
 ·rw[c]at h
  injection h with d _
  obtain⟨f,a⟩:=Mj (Dv p rs) b g;rw[d]at f a;refine⟨⟨f,by rw[← d];exact Tk b,by rw[a];rfl,by rw[a];rfl,by rw[a];rfl,fun j=>?_⟩,d.symm⟩;rw[a];exact Pg.Ml rs j
 ·rw[c]at h
  injection h with _ k
  omega
theorem Tm {p:ByteArray}(h:Bi p=true):Bk p ((Ab p).lsn:Nat)=Dl (Ab p):=by
 have a:=(Cf p).fine.small.1;unfold Bk;rw[if_neg (by rw[h];simp;omega)]
 rfl
theorem Ku {p q:ByteArray}{rs:List ByteArray}(c:Bi p=true)(d:(Ab q).lsn=(Ab p).lsn)(f:(Ab q).kind=(Ab p).kind)(g:(Ab q).link=(Ab p).link)(h:∀ j,Pg.Cc rs j=Pg.Cc (Ab p).Ai j):
 Pg.El (A4 q rs)=(Bk p ((Ab p).lsn:Nat),0):=by
 have a:=Cf p;have b:Pg.trim rs=(Ab p).Ai:=by rw[Pg.aM h];exact Pg.Ef a.tight
 have i:Pg.Au (Pg.trim (A4 q rs).Ai)≤512:=by show Pg.Au (Pg.trim rs)≤512;rw[b];exact a.fits
 rw[Tm c,J1 i];have e:Pg.C0 (A4 q rs)=Pg.C0 (Ab p):=by
  unfold Pg.C0;have k:(A4 q rs).Ai=rs:=rfl;rw[k,b,Pg.Ef a.tight];unfold Pg.L7 Pg.Lt;rw[show(A4 q rs).lsn=(Ab p).lsn from d,show(A4 q rs).kind=(Ab p).kind from f,show(A4 q rs).link=(Ab p).link from g]
 unfold Dl;rw[e]
theorem Gh {a b:ByteArray}{x y:Int}(h:(a,x)=(b,y)):a=b∧x=y:=by injection h with c d;exact⟨c,d⟩
theorem F1 {b:Bool}(h:¬ b=false):b=true:=by cases b;exact absurd rfl h;rfl
theorem D0 (p:ByteArray):∀ r∈(Ab p).Ai,r.size≤400:=(Cf p).fine.each
theorem Xi {p q r:ByteArray}{i:Int}(h:Iy p i r=(q,0)):∃ k:Nat,i=k∧Bi p=true∧(Pg.Cc (Ab p).Ai k).size=0∧He r=true∧k≤512∧Made p q (Pg.putAt (Ab p).Ai k r):=by
 unfold Iy at h
 split at h
 ·have:=(Gh h).2;omega
 ·rename_i b
  split at h
  ·have:=(Gh h).2;omega
  ·rename_i e
   obtain⟨k,rfl⟩:=Int.eq_ofNat_of_zero_le (show 0≤i by omega);rw[Pg.Ci]at h
   split at h
   ·have:=(Gh h).2;omega
   ·rename_i c
    split at h
    ·have:=(Gh h).2;omega
    ·rename_i d
     split at h
     ·have:=(Gh h).2;omega
     ·rename_i f
      have a:He r=true:=(by simpa using d);refine⟨k,rfl,F1 b,by simpa using c,a,by omega,(I8 (Pg.Gt (D0 p) (D5 a).2) h rfl).1⟩
theorem Xj {p q:ByteArray}{i:Int}(h:Lv p i=(q,0)):∃ k:Nat,i=k∧Bi p=true∧(Pg.Cc (Ab p).Ai k).size≠0∧k<(Ab p).Ai.length∧Made p q (Pg.putAt (Ab p).Ai k ⟨#[]⟩):=by
 unfold Lv at h
 split at h
 ·have:=(Gh h).2;omega
 ·rename_i b
  split at h
  ·have:=(Gh h).2;omega
  ·rename_i a
   obtain⟨c,d⟩:=Pg.I5 a;obtain⟨k,rfl⟩:=Int.eq_ofNat_of_zero_le c;rw[Pg.Ci]at a;exact⟨k,rfl,F1 b,a,by omega,(I8 (Pg.Gt (D0 p) (by show(0:Nat)≤400;omega)) h rfl).1⟩
theorem Xk {p q r:ByteArray}{i:Int}(h:Gn p i r=(q,0)):∃ k:Nat,i=k∧Bi p=true∧He r=true∧(Pg.Cc (Ab p).Ai k).size≠0∧k<(Ab p).Ai.length∧Made p q (Pg.putAt (Ab p).Ai k r):=by
 unfold Gn at h
 split at h
 ·have:=(Gh h).2;omega
 ·rename_i c
  split at h
  ·have:=(Gh h).2;omega
  ·rename_i d
   split at h
   ·have:=(Gh h).2;omega
   ·rename_i a
    have b:He r=true:=(by simpa using d);obtain⟨e,f⟩:=Pg.I5 a;obtain⟨k,rfl⟩:=Int.eq_ofNat_of_zero_le e;rw[Pg.Ci]at a;exact⟨k,rfl,F1 c,b,a,by omega,(I8 (Pg.Gt (D0 p) (D5 b).2) h rfl).1⟩
theorem Xl {p q r:ByteArray}{i:Int}(h:Og p i r=(q,0)):∃ k:Nat,i=k∧Bi p=true∧He r=true∧k≤512∧Made p q (Pg.Sn (Ab p).Ai k r):=by
 unfold Og at h
 split at h
 ·have:=(Gh h).2;omega
 ·rename_i b
  split at h
  ·have:=(Gh h).2;omega
  ·rename_i d
   obtain⟨k,rfl⟩:=Int.eq_ofNat_of_zero_le (show 0≤i by omega)
   split at h
   ·have:=(Gh h).2;omega
   ·rename_i c
    split at h
    ·have:=(Gh h).2;omega
    ·have a:He r=true:=by simpa using c
     exact⟨k,rfl,F1 b,a,by omega,(I8 (Pg.Vl (D0 p) (D5 a).2) h rfl).1⟩
theorem Xm {p q:ByteArray}{i:Int}(h:P6 p i=(q,0)):∃ k:Nat,i=k∧Bi p=true∧(Pg.Cc (Ab p).Ai k).size≠0∧k<(Ab p).Ai.length∧Made p q (Pg.So (Ab p).Ai k):=by
 unfold P6 at h
 split at h
 ·have:=(Gh h).2;omega
 ·rename_i b
  split at h
  ·have:=(Gh h).2;omega
  ·rename_i a
   obtain⟨c,d⟩:=Pg.I5 a;obtain⟨k,rfl⟩:=Int.eq_ofNat_of_zero_le c;rw[Pg.Ci]at a;exact⟨k,rfl,F1 b,a,by omega,(I8 (Pg.Vm (D0 p)) h rfl).1⟩
theorem P9 {rs:List ByteArray}{k:Nat}(h:(Pg.Cc rs k).size≠0):k<rs.length:=by
 rcases Nat.lt_or_ge k rs.length with h1|h1
 ·exact h1
 ·rw[Pg.G8 h1]at h;exact absurd rfl h
theorem Xn {p:ByteArray}{k:Nat}(h:(Pg.Cc (Ab p).Ai k).size≠0):He (Pg.Cc (Ab p).Ai k)=true:=by
 unfold He
 apply decide_eq_true
 have a:=P9 h;refine⟨by omega,?_⟩;rw[Pg.Oh a];exact D0 p _ (List.getElem_mem a)
theorem Xo {p r:ByteArray}{k:Nat}(a:Bi p=true)(c:(Pg.Cc (Ab p).Ai k).size=0)(b:He r=true)(d:k≤512):Iy p k r=Pg.El (A4 p (Pg.putAt (Ab p).Ai k r)):=by
 unfold Iy;rw[if_neg (by rw[a];simp),if_neg (by omega),if_neg (by rw[Pg.Ci];omega),if_neg (by rw[b];simp),if_neg (by omega)];rfl
theorem Xp {p:ByteArray}{k:Nat}(a:Bi p=true)(b:(Pg.Cc (Ab p).Ai k).size≠0):Lv p k=Pg.El (A4 p (Pg.putAt (Ab p).Ai k ⟨#[]⟩)):=by
 unfold Lv;rw[if_neg (by rw[a];simp),if_neg (by rw[Pg.Ci];exact b)];rfl
theorem Xq {p r:ByteArray}{k:Nat}(a:Bi p=true)(b:He r=true)(c:(Pg.Cc (Ab p).Ai k).size≠0):Gn p k r=Pg.El (A4 p (Pg.putAt (Ab p).Ai k r)):=by
 unfold Gn;rw[if_neg (by rw[a];simp),if_neg (by rw[b];simp),if_neg (by rw[Pg.Ci];exact c)];rfl
theorem gK {p r:ByteArray}{k:Nat}(a:Bi p=true)(b:He r=true)(c:k≤512):Og p k r=Pg.El (A4 p (Pg.Sn (Ab p).Ai k r)):=by
 unfold Og;rw[if_neg (by rw[a];simp),if_neg (by omega),if_neg (by rw[b];simp),if_neg (by omega)];rfl
theorem gL {p:ByteArray}{k:Nat}(a:Bi p=true)(b:(Pg.Cc (Ab p).Ai k).size≠0):P6 p k=Pg.El (A4 p (Pg.So (Ab p).Ai k)):=by
 unfold P6;rw[if_neg (by rw[a];simp),if_neg (by rw[Pg.Ci];exact b)];rfl
def Ny (p:ByteArray):ByteArray:=Bk p ((Ab p).lsn:Nat)
theorem xT {p q r:ByteArray}{i:Int}(h:Iy p i r=(q,0)):(Pg.Az (Ab p).Ai i).size=0∧q.size=512∧Lv q i=(Ny p,0):=by
 obtain⟨k,rfl,c,b,d,hk,M⟩:=Xi h;have e:=D5 d;refine⟨by rw[Pg.Ci];exact b,M.size,?_⟩;rw[Xp M.Bi (by rw[M.Cc,Pg.Eh,if_pos rfl];omega)];refine Ku c M.lsn M.kind M.link fun j=>?_;rw[Pg.Eh,M.Cc,Pg.Eh]
 by_cases a:j=k
 ·rw[if_pos a,a,Pg.nil_of_size b]
 ·rw[if_neg a,if_neg a]
theorem xU {p q:ByteArray}{i:Int}(h:Lv p i=(q,0)):(Pg.Az (Ab p).Ai i).size≠0∧q.size=512∧Iy q i (Pg.Az (Ab p).Ai i)=(Ny p,0):=by
 obtain⟨k,rfl,c,b,hk,M⟩:=Xj h;have d:=(Cf p).fine.len;rw[Pg.Ci];refine⟨b,M.size,?_⟩;rw[Xo M.Bi (by rw[M.Cc,Pg.Eh,if_pos rfl];rfl) (Xn b) (by omega)];refine Ku c M.lsn M.kind M.link fun j=>?_;rw[Pg.Eh,M.Cc,Pg.Eh]
 by_cases a:j=k
 ·rw[if_pos a,a]
 ·rw[if_neg a,if_neg a]
theorem xV {p q r:ByteArray}{i:Int}(h:Gn p i r=(q,0)):(Pg.Az (Ab p).Ai i).size≠0∧q.size=512∧Gn q i (Pg.Az (Ab p).Ai i)=(Ny p,0)∧(Ab q).lsn=(Ab p).lsn∧(Ab q).kind=(Ab p).kind∧(Ab q).link=(Ab p).link:=by
 obtain⟨k,rfl,c,d,b,hk,M⟩:=Xk h;have e:=D5 d;rw[Pg.Ci];refine⟨b,M.size,?_,M.lsn,M.kind,M.link⟩;rw[Xq M.Bi (Xn b) (by rw[M.Cc,Pg.Eh,if_pos rfl];omega)];refine Ku c M.lsn M.kind M.link fun j=>?_;rw[Pg.Eh,M.Cc,Pg.Eh]
 by_cases a:j=k
 ·rw[if_pos a,a]
 ·rw[if_neg a,if_neg a]
theorem xW {p q r:ByteArray}{i:Int}(h:Og p i r=(q,0)):q.size=512∧P6 q i=(Ny p,0):=by
 obtain⟨k,rfl,c,d,hk,M⟩:=Xl h;have e:=D5 d;refine⟨M.size,?_⟩;have b:(Pg.Cc (Ab q).Ai k).size≠0:=by rw[M.Cc,Pg.Kt,if_neg (by omega),if_pos rfl];omega
 rw[gL M.Bi b];refine Ku c M.lsn M.kind M.link fun j=>?_;rw[Pg.P7 _ _ (P9 b)]
 by_cases a:j<k
 ·rw[if_pos a,M.Cc,Pg.Kt,if_pos a]
 ·rw[if_neg a,M.Cc,Pg.Kt,if_neg (by omega),if_neg (by omega),Nat.add_sub_cancel]
theorem xX {p q:ByteArray}{i:Int}(h:P6 p i=(q,0)):q.size=512∧Og q i (Pg.Az (Ab p).Ai i)=(Ny p,0):=by
 obtain⟨k,rfl,c,d,hk,M⟩:=Xm h;have e:=(Cf p).fine.len;rw[Pg.Ci];refine⟨M.size,?_⟩;rw[gK M.Bi (Xn d) (by omega)];refine Ku c M.lsn M.kind M.link fun j=>?_;rw[Pg.Kt,M.Cc,M.Cc,Pg.P7 _ _ hk,Pg.P7 _ _ hk]
 by_cases b:j<k
 ·rw[if_pos b,if_pos b]
 ·rw[if_neg b]
  by_cases a:j=k
  ·rw[if_pos a,a]
  ·rw[if_neg a,if_neg (by omega),show j-1+1=j by omega]
end Go.Proofs.YtpogpkonojhakaaGreatDoor
namespace NumPlain
def kN (n:Int):Bool:=decide (-1000000000000000≤n)&&decide (n≤1000000000000000)
theorem pO {n:Int}(h:kN n=true): -1000000000000000≤n∧n≤1000000000000000:=by
 simpa[kN]using h
theorem pP {n:Int}(a: -1000000000000000≤n)(b:n≤1000000000000000):kN n=true:=by
 simp[kN,a,b]
def told (a b n:Int):Int×Bool:=if kN a&&kN b&&kN n then(n,true)else(0,false)
def Au (a:Int):Int:=if a<0 then -a else a
open Go.Lib
theorem J3 {d:Nat}(h:d<10):(UInt8.ofNat (48+d)).toNat=48+d:=by
 rw[UInt8.toNat_ofNat'];omega
theorem O3:∀ (u:Nat),u≤1000000000000000→parseUint10 0 (decDigits u)= .ok u:=by
 have key:∀ (u:Nat),u≤1000000000000000→∀ r,parseUint10 0 (decDigits u++r)=parseUint10 u r:=by
  intro u
  induction u using Nat.strongRecOn with
  |_ u b=>
   intro a r;rw[decDigits]
   by_cases h:u<10
   ·rw[dif_pos h]
    simp only[List.cons_append,List.nil_append,parseUint10,J3 h];rw[if_pos (by omega),if_neg (by omega),if_neg (by omega)]
    congr 1;omega
   ·rw[dif_neg h,List.append_assoc,b (u/10) (by omega) (by omega)]
    simp only[List.cons_append,List.nil_append,parseUint10,J3 (show u%10<10 by omega)];rw[if_pos (by omega),if_neg (by omega),if_neg (by omega)]
    congr 1;omega
 intro u a;have:=key u a []
 simpa[parseUint10]using this
theorem Xr (u:Nat):decDigits u≠[]:=by
 rw[decDigits];split<;>simp
theorem Tn (u:Nat):∃ c r,decDigits u=c::r∧48≤c.toNat∧c.toNat≤57:=by
 induction u using Nat.strongRecOn with
 |_ u a=>
  rw[decDigits]
  by_cases h:u<10
  ·rw[dif_pos h]
   exact⟨_,_,rfl,by rw[J3 h];omega,by rw[J3 h];omega⟩
  ·rw[dif_neg h]
   obtain⟨c,r,e,b,d⟩:=a (u/10) (by omega);exact⟨c,r++[UInt8.ofNat (48+u%10)],by rw[e];rfl,b,d⟩
theorem Lj {v:Int}(b:kN v=true):atoiAll (itoa v)= .ok v:=by
 obtain⟨g,h⟩:=pO b
 by_cases i:v<0
 ·obtain⟨u,rfl⟩:∃ u:Nat,v= -(u:Int):=⟨v.natAbs,by omega⟩
  rw[itoa_neg u (by omega)];have a:parseMag (decDigits u)= .ok u:=by rw[parseMag,if_neg (Xr u),O3 u (by omega)]
  simp only[atoiAll];rw[if_pos (by decide),a];simp only[];rw[if_neg (by simp),if_neg (by omega),if_pos (by decide)]
 ·obtain⟨u,rfl⟩:∃ u:Nat,v=(u:Int):=⟨v.natAbs,by omega⟩
  rw[itoa_nonneg u];obtain⟨c,r,e,d,f⟩:=Tn u;have a:=O3 u (by omega);rw[e]at a;simp only[e,atoiAll];rw[if_neg (by omega)];simp only[parseMag,if_neg (List.cons_ne_nil c r),a];rw[if_neg (by omega),if_neg (by omega),if_neg (by omega)]
def Fe (l:List UInt8):Int×Bool:=
 match atoiAll l with
 | .ok v=>if kN v&&decide (itoa v=l)then(v,true)else(0,false)
 |_=>(0,false)
theorem aN {v:Int}(a:kN v=true):Fe (itoa v)=(v,true):=by
 simp[Fe,Lj a,a]
theorem kO {l:List UInt8}{v:Int}(h:Fe l=(v,true)):kN v=true∧itoa v=l:=by
 unfold Fe at h
 split at h
 ·split at h
  ·rename_i a
   simp only[Bool.and_eq_true,decide_eq_true_eq]at a;simp only[Prod.mk.injEq,and_true]at h;subst h;exact a
  ·simp at h
 ·simp at h
theorem dX {l:List UInt8}(h:(Fe l).2=true):kN (Fe l).1=true∧itoa (Fe l).1=l:=
 kO (v:=(Fe l).1) (by rw[← h])
def digits:ByteArray:=⟨#[48,49,50,51,52,53,54,55,56,57]⟩
end NumPlain
namespace Go.Proofs.YtpogpkonojhakaaGreatDoor
open Go.RowKit
structure Ir where
 kind:Int
 slot:Int
 By:ByteArray
 new:ByteArray
def F3 (n:Int):ByteArray:=⟨(Lib.itoa n).toArray⟩
def Df:ByteArray×Bool:=(⟨#[]⟩,false)
def okB (x:ByteArray×Int):ByteArray×Bool:=(x.1,decide (x.2=0))
def D6 (p:ByteArray)(o:Ir):Bool:= !decide ((Pg.Az (Ab p).Ai o.slot).size=0)&&decide (o.By=Pg.Az (Ab p).Ai o.slot)
def Dp (p:ByteArray)(o:Ir):ByteArray×Bool:=
 match Lib.atoiAll o.new.data.toList with
 | .ok n=>if F3 n=o.new∧o.By=F3 ((Ab p).link:Nat)∧o.slot=0 then(Du p n,!decide ((Du p n).size=0))else Df
 |_=>Df
def Gq (p:ByteArray)(o:Ir):ByteArray×Bool:=
 if o.slot=0∧o.By=Bk p 0∧¬ o.new.size=0∧Bk o.new 0=o.new then(Bk o.new ((Ab p).lsn:Nat),!decide ((Bk o.new ((Ab p).lsn:Nat)).size=0))else Df
def Ca (p:ByteArray)(o:Ir):ByteArray×Bool:=
 if o.kind=1 then(if o.By.size=0 then okB (Iy p o.slot o.new)else Df)
 else if o.kind=2 then(if D6 p o&&decide (o.new.size=0)then okB (Lv p o.slot)else Df)
 else if o.kind=3 then(if D6 p o then okB (Gn p o.slot o.new)else Df)
 else if o.kind=4 then(if o.By.size=0 then okB (Og p o.slot o.new)else Df)
 else if o.kind=5 then(if D6 p o&&decide (o.new.size=0)then okB (P6 p o.slot)else Df)
 else if o.kind=6 then Dp p o
 else if o.kind=7 then Gq p o
 else Df
def Dg (p:ByteArray)(o:Ir):Bool:=Bi p&&(Ca p o).2
def Qa (p:ByteArray)(o:Ir):ByteArray×Int:=if Dg p o then((Ca p o).1,0)else(⟨#[]⟩,1)
def xY (k:Int):Int:=if k=1 then 2 else if k=2 then 1 else if k=4 then 5 else if k=5 then 4 else k
def gM (o:Ir):Ir:=⟨xY o.kind,o.slot,o.new,o.By⟩
theorem O4 {x:ByteArray×Int}(h:(okB x).2=true):x=(x.1,0):=by
 obtain⟨a,e⟩:=x;have:e=0:=of_decide_eq_true h;rw[this]
theorem gN {p:ByteArray}{n:Int}(h:¬ (Bk p n).size=0):Bi p=true∧0≤n∧n<281474976710656:=by
 unfold Bk at h
 split at h
 ·exact absurd rfl h
 ·rename_i a
  cases b:Bi p with
  |false=>exact absurd (.inl b) a
  |true=>exact⟨rfl,by omega,by omega⟩
theorem O5 {p:ByteArray}{n:Int}(h:¬ (Du p n).size=0):Bi p=true∧0≤n∧n<16777216:=by
 unfold Du at h
 split at h
 ·exact absurd rfl h
 ·rename_i a
  cases b:Bi p with
  |false=>exact absurd (.inl b) a
  |true=>exact⟨rfl,by omega,by omega⟩
theorem gO (p:ByteArray){l k:Nat}(d:l<281474976710656)(hk:k<16777216):Bi (Dl ⟨l,(Ab p).kind,k,(Ab p).Ai⟩)=true∧Ab (Dl ⟨l,(Ab p).kind,k,(Ab p).Ai⟩)=⟨l,(Ab p).kind,k,(Ab p).Ai⟩∧(Dl ⟨l,(Ab p).kind,k,(Ab p).Ai⟩).size=512:=by
 have a:=Cf p;have b:=Pg.Ef a.tight;have c:Pg.Au (Pg.trim (Ab p).Ai)≤512:=by rw[b];exact a.fits
 obtain⟨e,f⟩:=Mj (x:=⟨l,(Ab p).kind,k,(Ab p).Ai⟩) ⟨d,a.fine.small.2.1,hk⟩ c a.fine.each;refine⟨e,?_,Tk c⟩;rw[f];simp only[b]
theorem O6 {p:ByteArray}(h:Bi p=true){l:Nat}(a:l<281474976710656):Bk p (l:Int)=Dl ⟨l,(Ab p).kind,(Ab p).link,(Ab p).Ai⟩:=by
 unfold Bk;rw[if_neg (by rw[h];simp;omega)]
 rfl
theorem M9 {p:ByteArray}(h:Bi p=true){k:Nat}(hk:k<16777216):Du p (k:Int)=Dl ⟨(Ab p).lsn,(Ab p).kind,k,(Ab p).Ai⟩:=by
 unfold Du;rw[if_neg (by rw[h];simp;omega)]
 rfl
theorem Gu (p:ByteArray):(Ab p).lsn<281474976710656:=(Cf p).fine.small.1
theorem Lk (p:ByteArray):(Ab p).link<16777216:=(Cf p).fine.small.2.2
theorem Ik {p:ByteArray}(h:Bi p=true){l:Nat}(a:l<281474976710656):Bi (Bk p (l:Int))=true∧Ab (Bk p (l:Int))=⟨l,(Ab p).kind,(Ab p).link,(Ab p).Ai⟩∧(Bk p (l:Int)).size=512:=by
 rw[O6 h a];exact gO p a (Lk p)
theorem Vt {p:ByteArray}(h:Bi p=true){k:Nat}(hk:k<16777216):Bi (Du p (k:Int))=true∧Ab (Du p (k:Int))=⟨(Ab p).lsn,(Ab p).kind,k,(Ab p).Ai⟩∧(Du p (k:Int)).size=512:=by
 rw[M9 h hk];exact gO p (Gu p) hk
theorem Ry {p:ByteArray}(h:Bi p=true){l m:Nat}(b:l<281474976710656)(a:m<281474976710656):Bk (Bk p (l:Int)) (m:Int)=Bk p (m:Int):=by
 obtain⟨c,d,_⟩:=Ik h b;rw[O6 c a,O6 h a,d]
theorem Mm {p:ByteArray}(h:Bi p=true):Ny p=Dl (Ab p):=Tm h
theorem aO {p:ByteArray}(h:Bi p=true):Bi (Ny p)=true∧Ab (Ny p)=Ab p∧(Ny p).size=512:=Ik h (Gu p)
theorem Vu (n:Nat)(h:n<16777216):Lib.atoiAll (F3 (n:Int)).data.toList= .ok (n:Int):=by
 show Lib.atoiAll (Lib.itoa (n:Int))=_
 exact NumPlain.Lj (NumPlain.pP (by omega) (by omega))
structure vP (p q:ByteArray) (o:Ir):Prop where
 Ae:Bi q=true
 size:q.size=512
 lsn:(Ab q).lsn=(Ab p).lsn
 norm:Ny q=q
 back:Ca q (gM o)=(Ny p,true)
theorem I9 {p q:ByteArray}{rs:List ByteArray}(b:∀ r∈rs,r.size≤400)(h:Pg.El (A4 p rs)=(q,0)):Ny q=q:=by
 obtain⟨M,c⟩:=I8 b h rfl;rw[Mm M.Bi];have a:Pg.Au (Pg.trim rs)≤512:=by
  rcases J2 (A4 p rs)with⟨a,_⟩|⟨_,f⟩
  ·exact a
  ·rw[f]at h;injection h with _ h;omega
 obtain⟨_,d⟩:=Mj (Dv p rs) a b;rw[← c]at d;rw[d];have g:Pg.trim (Pg.trim rs)=Pg.trim rs:=Pg.aM fun j=>Pg.Ml rs j;have e:Pg.C0 {A4 p rs with Ai:=Pg.trim (A4 p rs).Ai}=Pg.C0 (A4 p rs):=by
  unfold Pg.C0
  show Pg.L7 _ (Pg.trim (Pg.trim rs))=Pg.L7 _ (Pg.trim rs)
  rw[g]
  rfl
 rw[c];unfold Dl;rw[e]
theorem kP {p q r:ByteArray}{i:Int}(h:Iy p i r=(q,0)):Ny q=q:=by
 obtain⟨k,rfl,b,c,a,hk,_⟩:=Xi h;rw[Xo b c a hk]at h;exact I9 (Pg.Gt (D0 p) (D5 a).2) h
theorem kQ {p q:ByteArray}{i:Int}(h:Lv p i=(q,0)):Ny q=q:=by
 obtain⟨k,rfl,a,b,hk,_⟩:=Xj h;rw[Xp a b]at h;exact I9 (Pg.Gt (D0 p) (by show 0≤400;omega)) h
theorem kR {p q r:ByteArray}{i:Int}(h:Gn p i r=(q,0)):Ny q=q:=by
 obtain⟨k,rfl,b,a,c,hk,_⟩:=Xk h;rw[Xq b a c]at h;exact I9 (Pg.Gt (D0 p) (D5 a).2) h
theorem kS {p q r:ByteArray}{i:Int}(h:Og p i r=(q,0)):Ny q=q:=by
 obtain⟨k,rfl,b,a,hk,_⟩:=Xl h;rw[gK b a hk]at h;exact I9 (Pg.Vl (D0 p) (D5 a).2) h
theorem kU {p q:ByteArray}{i:Int}(h:P6 p i=(q,0)):Ny q=q:=by
 obtain⟨k,rfl,a,b,hk,_⟩:=Xm h;rw[gL a b]at h;exact I9 (Pg.Vm (D0 p)) h
theorem Qb {p:ByteArray}{o:Ir}(h:D6 p o=true):(Pg.Az (Ab p).Ai o.slot).size≠0∧o.By=Pg.Az (Ab p).Ai o.slot:=by
 unfold D6 at h;rw[Bool.and_eq_true]at h;exact⟨by simpa using h.1,of_decide_eq_true h.2⟩
theorem To {p:ByteArray}{o:Ir}(h:o.By.size≠0)(a:Pg.Az (Ab p).Ai o.slot=o.By):D6 p o=true:=by
 unfold D6;rw[a]
 simp[h]
theorem vQ {p:ByteArray}{o:Ir}(h:Dg p o=true):vP p (Ca p o).1 o:=by
 unfold Dg at h;rw[Bool.and_eq_true]at h;obtain⟨q,a⟩:=h;obtain⟨kind,slot,By,new⟩:=o
 by_cases w:kind=1
 ·subst w
  have e:Ca p ⟨1,slot,By,new⟩=if By.size=0 then okB (Iy p slot new)else Df:=if_pos rfl
  rw[e]at a ⊢
  split at a
  ·rename_i d
   rw[if_pos d];have b:=O4 a;obtain⟨k,hk,_,r,f,_,M⟩:=Xi b;obtain⟨_,c,g⟩:=xT b;have x:=D5 f;have hold:Pg.Az (Ab (Iy p slot new).1).Ai slot=new:=(by subst hk;rw[Pg.Ci,M.Cc,Pg.Eh,if_pos rfl]);refine⟨M.Bi,c,M.lsn,kP b,?_⟩
   show(if D6 (Iy p slot new).1 ⟨2,slot,new,By⟩&&decide (By.size=0)then okB (Lv (Iy p slot new).1 slot)else Df)=_
   rw[To (by show new.size≠0;omega) hold,decide_eq_true d,g]
   rfl
  ·cases a
 by_cases y:kind=2
 ·subst y
  have e:Ca p ⟨2,slot,By,new⟩=if D6 p ⟨2,slot,By,new⟩&&decide (new.size=0)then okB (Lv p slot)else Df:=rfl
  rw[e]at a ⊢
  split at a
  ·rename_i d
   rw[if_pos d];rw[Bool.and_eq_true]at d;obtain⟨s,i⟩:=Qb d.1;have j:=of_decide_eq_true d.2;have b:=O4 a;obtain⟨k,hk,_,r,_,M⟩:=Xj b;obtain⟨_,c,g⟩:=xU b;refine⟨M.Bi,c,M.lsn,kQ b,?_⟩
   show(if new.size=0 then okB (Iy (Lv p slot).1 slot By)else Df)=_
   rw[if_pos j,show By=Pg.Az (Ab p).Ai slot from i,g]
   rfl
  ·cases a
 by_cases z:kind=3
 ·subst z
  have e:Ca p ⟨3,slot,By,new⟩=if D6 p ⟨3,slot,By,new⟩then okB (Gn p slot new)else Df:=rfl
  rw[e]at a ⊢
  split at a
  ·rename_i d
   rw[if_pos d];obtain⟨s,i⟩:=Qb d;have b:=O4 a;obtain⟨k,hk,_,f,r,_,M⟩:=Xk b;obtain⟨_,c,g,J,_⟩:=xV b;have x:=D5 f;have hold:Pg.Az (Ab (Gn p slot new).1).Ai slot=new:=(by subst hk;rw[Pg.Ci,M.Cc,Pg.Eh,if_pos rfl]);refine⟨M.Bi,c,M.lsn,kR b,?_⟩
   show(if D6 (Gn p slot new).1 ⟨3,slot,new,By⟩then okB (Gn (Gn p slot new).1 slot By)else Df)=_
   rw[if_pos (To (by show new.size≠0;omega) hold),show By=Pg.Az (Ab p).Ai slot from i,g]
   rfl
  ·cases a
 by_cases A:kind=4
 ·subst A
  have e:Ca p ⟨4,slot,By,new⟩=if By.size=0 then okB (Og p slot new)else Df:=rfl
  rw[e]at a ⊢
  split at a
  ·rename_i d
   rw[if_pos d];have b:=O4 a;obtain⟨k,hk,_,f,_,M⟩:=Xl b;obtain⟨c,g⟩:=xW b;have x:=D5 f;have hold:Pg.Az (Ab (Og p slot new).1).Ai slot=new:=(by subst hk;rw[Pg.Ci,M.Cc,Pg.Kt,if_neg (by omega),if_pos rfl]);refine⟨M.Bi,c,M.lsn,kS b,?_⟩
   show(if D6 (Og p slot new).1 ⟨5,slot,new,By⟩&&decide (By.size=0)then okB (P6 (Og p slot new).1 slot)else Df)=_
   rw[To (by show new.size≠0;omega) hold,decide_eq_true d,g]
   rfl
  ·cases a
 by_cases B:kind=5
 ·subst B
  have e:Ca p ⟨5,slot,By,new⟩=if D6 p ⟨5,slot,By,new⟩&&decide (new.size=0)then okB (P6 p slot)else Df:=rfl
  rw[e]at a ⊢
  split at a
  ·rename_i d
   rw[if_pos d];rw[Bool.and_eq_true]at d;obtain⟨s,i⟩:=Qb d.1;have j:=of_decide_eq_true d.2;have b:=O4 a;obtain⟨k,hk,_,r,_,M⟩:=Xm b;obtain⟨c,g⟩:=xX b;refine⟨M.Bi,c,M.lsn,kU b,?_⟩
   show(if new.size=0 then okB (Og (P6 p slot).1 slot By)else Df)=_
   rw[if_pos j,show By=Pg.Az (Ab p).Ai slot from i,g]
   rfl
  ·cases a
 by_cases C:kind=6
 ·subst C
  have e:Ca p ⟨6,slot,By,new⟩=Dp p ⟨6,slot,By,new⟩:=rfl;rw[e]at a ⊢;unfold Dp at a ⊢;simp only at a ⊢;obtain⟨n,j⟩:∃ n,Lib.atoiAll new.data.toList= .ok n:=by
   cases j:Lib.atoiAll new.data.toList with
   |ok n=>exact⟨n,rfl⟩
   |_=>rw[j]at a;cases a
  rw[j]at a ⊢;simp only at a ⊢
  ·split at a
   ·rename_i g
    rw[if_pos g];obtain⟨t,c2,c3⟩:=g;have r:¬ (Du p n).size=0:=(by simpa using a);obtain⟨_,E,K⟩:=O5 r;obtain⟨m,rfl⟩:=Int.eq_ofNat_of_zero_le E;have u:m<16777216:=(by omega);obtain⟨g1,g2,g3⟩:=Vt q u;have F:Du (Du p (m:Int)) ((Ab p).link:Nat)=Ny p:=by
     rw[M9 g1 (Lk p),g2,Mm q]
    refine⟨g1,g3,by rw[g2],?_,?_⟩
    ·rw[Mm g1,g2,M9 q u]
    ·show Dp (Du p (m:Int)) ⟨6,slot,new,By⟩=_
     unfold Dp;simp only;rw[c2,Vu _ (Lk p)];simp only;rw[g2];simp only;simp only[true_and]at*;rw[if_pos (by first|exact⟨rfl,t.symm,c3⟩|exact⟨trivial,t.symm,c3⟩|exact⟨t.symm,c3⟩),F];have:=(aO q).2.2;rw[this]
     rfl
   ·cases a
 by_cases D:kind=7
 ·subst D
  have e:Ca p ⟨7,slot,By,new⟩=Gq p ⟨7,slot,By,new⟩:=rfl;rw[e]at a ⊢;unfold Gq at a ⊢;simp only at a ⊢
  split at a
  ·rename_i g
   rw[if_pos g];obtain⟨t,c2,c3,c4⟩:=g;have r:¬ (Bk new ((Ab p).lsn:Nat)).size=0:=(by simpa using a);obtain⟨j,_,_⟩:=gN r;obtain⟨g1,g2,g3⟩:=Ik j (Gu p);obtain⟨i1,i2,i3⟩:=Ik q (l:=0) (by omega);refine⟨g1,g3,by rw[g2],?_,?_⟩
   ·rw[Mm g1,g2,O6 j (Gu p)]
   ·show Gq (Bk new ((Ab p).lsn:Nat)) ⟨7,slot,new,By⟩=_
    unfold Gq;simp only;have G:Bk (Bk new ((Ab p).lsn:Nat)) 0=new:=by
     have:=Ry j (Gu p) (m:=0) (by omega);exact this.trans c4
    have H:Bk (Bk p 0) 0=Bk p 0:=Ry q (l:=0) (m:=0) (by omega) (by omega);have I:Bk (Bk p 0) ((Ab p).lsn:Nat)=Ny p:=Ry q (l:=0) (by omega) (Gu p);have v:(Bk p 0).size=512:=i3;rw[c2,g2];simp only;rw[if_pos ⟨t,G.symm,by rw[v];omega,H⟩,I];have:=(aO q).2.2;rw[this]
    rfl
  ·cases a
 ·have e:Ca p ⟨kind,slot,By,new⟩=Df:=by
   unfold Ca;simp only;rw[if_neg w,if_neg y,if_neg z,if_neg A,if_neg B,if_neg C,if_neg D]
  rw[e]at a
  cases a
theorem sT {p:ByteArray}{o:Ir}(h:Dg p o=true):Qa p o=((Ca p o).1,0)∧Dg (Ca p o).1 (gM o)=true∧Qa (Ca p o).1 (gM o)=(Ny p,0):=by
 have U:=vQ h;have a:Dg (Ca p o).1 (gM o)=true:=by unfold Dg;rw[U.Ae,U.back];rfl
 refine⟨by unfold Qa;rw[if_pos h],a,?_⟩;unfold Qa;rw[if_pos a,U.back]
end Go.Proofs.YtpogpkonojhakaaGreatDoor
