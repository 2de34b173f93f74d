import Derived.Test.YtmfkhdhnbkambaaGreatDoorHw00
import Derived.Test.YtmfkhdhnbkambaaGreatDoorHw03
import Derived.Lib.AtoiAll
import Derived.Lib.ItoaMem
import Derived.Lib.ItoaLen
import Derived.Test.YtmfkhdhnbkambaaGreatDoorHw06
import Derived.Test.YtmfkhdhnbkambaaGreatDoorHw04
import Derived.Test.YtmfkhdhnbkambaaGreatDoorHw01
import Derived.Lib.SliceRun
import Derived.Deep.RegionLaw
import Derived.Deep.MidRow
import Derived.Test.YtmfkhdhnbkambaaGreatDoorHw02
set_option maxRecDepth 100000
set_option maxHeartbeats 16000000
set_option linter.unusedSimpArgs false
namespace Go.Proofs.YtmfkhdhnbkambaaGreatDoor
open Go.RowKit
theorem jO (p:ByteArray)(i:Int)(r:ByteArray)(O:p.size≤140737488355328)(w:World):
 Cr 90 #[p,i,r] w (Kn (Iw p i r)):=by
 have j:=Hq (fun W=>Ic p O W);have l:=Hq (fun W=>Iv p i O W);have v:=Hq (fun W=>Yq r W);change Hid (∀ W,Calls _ _ _ _ fun e w'=>e= .returned (.bool (Hh r))∧_)at v;have d:=Cj p;unfold Iw
 cases E:Bk p with
 |false=>
  rw[if_pos rfl];rw[E]at j;generalize Pg.Ba (Ab p).Ai i=q at l;generalize (!decide (q.size=0))=b at l;generalize Ab p=x at j;clear d E v;go_enter Tryz.func90,Tryz.ntmps90
  go_wp2_with(first|(go_at_call 43;refine(j.out _).mono ?_;rintro e t ⟨z,A,c,rfl,f,g⟩)|(go_at_call 89;refine(l.out _).mono ?_;rintro e u ⟨rfl,a⟩))
  go_ret2;exact⟨rfl,andThen g (Bd a)⟩
 |true=>
  rw[E]at j;rw[if_neg (by simp)];clear E
  by_cases G:i<0
  ·rw[if_pos G]
   generalize Pg.Ba (Ab p).Ai i=q at l;generalize (!decide (q.size=0))=b at l;generalize Ab p=x at j;clear d v;go_enter Tryz.func90,Tryz.ntmps90
   go_wp2_with(first|(go_at_call 43;refine(j.out _).mono ?_;rintro e t ⟨z,A,c,rfl,f,g⟩;obtain⟨h,m⟩:=f rfl;clear f;subst h)|(go_at_call 89;refine(l.out _).mono ?_;rintro e u ⟨rfl,a⟩;obtain⟨c0,F,c2,c3,f0,f1,f2,f3⟩:=Ey (C0 a);have s:t.heap.size<u.heap.size:=(by have:=a.size;simp at this;omega)))
   go_ret2;exact⟨rfl,andThen g (Bd a)⟩
  ·rw[if_neg G]
   obtain⟨k,rfl⟩:=Int.eq_ofNat_of_zero_le (show 0≤i by omega);have Q:(0:Int)≤(k:Int):=(by omega);clear G;rw[show((k:Int)).toNat=k from rfl]
   by_cases y:(Pg.Ba (Ab p).Ai (k:Int)).size≠0
   ·rw[if_pos y]
    rw[decide_eq_false y]at l;clear y;generalize Pg.Ba (Ab p).Ai (k:Int)=q at l;generalize Ab p=x at j;clear d v;go_enter Tryz.func90,Tryz.ntmps90
    go_wp2_with(first|(go_at_call 43;refine(j.out _).mono ?_;rintro e t ⟨z,A,c,rfl,f,g⟩;obtain⟨h,m⟩:=f rfl;clear f;subst h)|(go_at_call 89;refine(l.out _).mono ?_;rintro e u ⟨rfl,a⟩;obtain⟨c0,F,c2,c3,f0,f1,f2,f3⟩:=Ey (C0 a);have s:t.heap.size<u.heap.size:=(by have:=a.size;simp at this;omega)))
    go_ret2;exact⟨rfl,andThen g (Bd a)⟩
   ·rw[if_neg y]
    rw[decide_eq_true (Decidable.not_not.1 y)]at l;clear y;generalize Pg.Ba (Ab p).Ai (k:Int)=q at l
    cases h:Hh r with
    |false=>
     rw[if_pos rfl];rw[h]at v;generalize Ab p=x at j;clear d h;go_enter Tryz.func90,Tryz.ntmps90
     go_wp2_with(first|(go_at_call 43;refine(j.out _).mono ?_;rintro e t ⟨z,A,c,rfl,f,g⟩;obtain⟨h,m⟩:=f rfl;clear f;subst h)|(go_at_call 89;refine(l.out _).mono ?_;rintro e u ⟨rfl,a⟩;obtain⟨c0,F,c2,c3,f0,f1,f2,f3⟩:=Ey (C0 a);have s:t.heap.size<u.heap.size:=(by have:=a.size;simp at this;omega))|(go_at_call 139;refine(v.out _).mono ?_;rintro e P ⟨rfl,rfl⟩))
     go_ret2;exact⟨rfl,andThen g (Bd a)⟩
    |true=>
     rw[if_neg (by simp)];rw[h]at v;obtain⟨R,S⟩:=D8 h;clear h
     by_cases H:(512:Int)<(k:Int)
     ·rw[if_pos H]
      have B:=Hq (fun A c n W=>iQ A c n (k:Int) r H W);generalize Ab p=x at j;clear d;go_enter Tryz.func90,Tryz.ntmps90
      go_wp2_with(first|(go_at_call 43;refine(j.out _).mono ?_;rintro e t ⟨z,A,c,rfl,f,g⟩;obtain⟨h,m⟩:=f rfl;clear f;subst h)|(go_at_call 89;refine(l.out _).mono ?_;rintro e u ⟨rfl,a⟩;obtain⟨c0,F,c2,c3,f0,f1,f2,f3⟩:=Ey (C0 a);have s:t.heap.size<u.heap.size:=(by have:=a.size;simp at this;omega))|(go_at_call 139;refine(v.out _).mono ?_;rintro e P ⟨rfl,rfl⟩)|(go_at_call 140;refine(B.out _ _ _ _).mono ?_;rintro e T ⟨rfl,rfl⟩))
      go_ret2;exact⟨rfl,andThen g (Bd a)⟩
     ·rw[if_neg H]
      have I:=d.fine.len;have J:=d.fine.sum;have K:=Pg.Jh (Ab p).Ai k r;have B:=Hq (fun A c W L=>R0 (Ab p).Ai A c k r (by omega) (by omega) W L);have C:=Hq (fun A c W L=>Yx (A6 p (Pg.putAt (Ab p).Ai k r)) A c (Dz p _) (by show Pg.Ay (Pg.putAt _ _ _)≤_;omega) (.inr ((Pg.K9 _).2 (Pg.Qm d.tight k (by omega)))) W L);generalize Pg.Ek (A6 p (Pg.putAt (Ab p).Ai k r))=o at C ⊢;change Hid (∀ A c W,Cells W A c (Pg.putAt (Ab p).Ai k r)→Calls _ _ #[.agg #[.int .i64 (Ab p).lsn,.int .i64 (Ab p).kind,.int .i64 (Ab p).link,.slice A (Pg.putAt (Ab p).Ai k r).length c]] _ _)at C;clear K I J d;generalize Pg.putAt (Ab p).Ai k r=rs at B C;generalize Ab p=x at j B C;go_enter Tryz.func90,Tryz.ntmps90
      go_wp2_with(first|(go_at_call 43;refine(j.out _).mono ?_;rintro e t ⟨z,A,c,rfl,f,g⟩;obtain⟨h,m⟩:=f rfl;clear f;subst h)|(go_at_call 89;refine(l.out _).mono ?_;rintro e u ⟨rfl,a⟩;obtain⟨c0,F,c2,c3,f0,f1,f2,f3⟩:=Ey (C0 a);have s:t.heap.size<u.heap.size:=(by have:=a.size;simp at this;omega))|(go_at_call 139;refine(v.out _).mono ?_;rintro e P ⟨rfl,rfl⟩)|(go_at_call 140;refine(B.out _ _ _ (m.cells.below (Bd a))).mono ?_;rintro e T ⟨U,V,rfl,M,D⟩;obtain⟨d0,d1,d2,d3,g0,g1,g2,g3⟩:=Ey (Fa (C0 a) D))|(go_at_call 141;refine(C.out _ _ _ (Bp.set M _ s _).cells).mono ?_;rintro e X ⟨rfl,N⟩))
      go_ret2;exact⟨rfl,andThen ((andThen (andThen g (Bd a)) D).setCell g.size _) N⟩
theorem jP (p:ByteArray)(i:Int)(r:ByteArray)(K:p.size≤140737488355328)(w:World):
 Cr 92 #[p,i,r] w (Kn (Ie p i r)):=by
 have h:=Hq (fun W=>Ic p K W);have j:=Hq (fun W=>Iv p i K W);have l:=Hq (fun W=>Yq r W);change Hid (∀ W,Calls _ _ _ _ fun e w'=>e= .returned (.bool (Hh r))∧_)at l;have a:=Cj p;unfold Ie
 cases y:Bk p with
 |false=>
  rw[if_pos rfl];rw[y]at h;generalize Ab p=x at h;clear a y j l;go_enter Tryz.func92,Tryz.ntmps92
  go_wp2_with(first|(go_at_call 43;refine(h.out _).mono ?_;rintro e s ⟨z,A,c,rfl,b,f⟩))
  go_ret2;exact⟨rfl,At f⟩
 |true=>
  rw[y]at h;rw[if_neg (by simp)];clear y
  cases g:Hh r with
  |false=>
   rw[if_pos rfl];rw[g]at l;generalize Ab p=x at h;clear a g j;go_enter Tryz.func92,Tryz.ntmps92
   go_wp2_with(first|(go_at_call 43;refine(h.out _).mono ?_;rintro e s ⟨z,A,c,rfl,b,f⟩;obtain⟨g,m⟩:=b rfl;clear b;subst g)|(go_at_call 139;refine(l.out _).mono ?_;rintro e L ⟨rfl,rfl⟩))
   go_ret2;exact⟨rfl,At f⟩
  |true=>
   rw[if_neg (by simp)];rw[g]at l;obtain⟨M,N⟩:=D8 g;clear g
   by_cases n:(Pg.Ba (Ab p).Ai i).size=0
   ·rw[if_pos n]
    rw[decide_eq_true n]at j;generalize Pg.Ba (Ab p).Ai i=q at j;generalize Ab p=x at h;clear a n;go_enter Tryz.func92,Tryz.ntmps92
    go_wp2_with(first|(go_at_call 43;refine(h.out _).mono ?_;rintro e s ⟨z,A,c,rfl,b,f⟩;obtain⟨g,m⟩:=b rfl;clear b;subst g)|(go_at_call 139;refine(l.out _).mono ?_;rintro e L ⟨rfl,rfl⟩)|(go_at_call 89;refine(j.out _).mono ?_;rintro e B ⟨rfl,d⟩;obtain⟨c0,O,c2,c3,f0,f1,f2,f3⟩:=Ey (C0 d);have t:s.heap.size<B.heap.size:=(by have:=d.size;simp at this;omega)))
    go_ret2;exact⟨rfl,andThen f (Bd d)⟩
   ·rw[if_neg n]
    obtain⟨C,P⟩:=Pg.I4 n;rw[decide_eq_false n]at j;clear n;generalize Pg.Ba (Ab p).Ai i=q at j;obtain⟨k,rfl⟩:=Int.eq_ofNat_of_zero_le C;rw[show((k:Int)).toNat=k from rfl];have D:=a.fine.len;have E:=a.fine.sum;have F:=Pg.Jh (Ab p).Ai k r;have G:=Hq (fun A c W H=>R0 (Ab p).Ai A c k r (by omega) (by omega) W H);have u:=Hq (fun A c W H=>Yx (A6 p (Pg.putAt (Ab p).Ai k r)) A c (Dz p _) (by show Pg.Ay (Pg.putAt _ _ _)≤_;omega) (.inr ((Pg.K9 _).2 (Pg.Qm a.tight k (by omega)))) W H);generalize Pg.Ek (A6 p (Pg.putAt (Ab p).Ai k r))=o at u ⊢;change Hid (∀ A c W,Cells W A c (Pg.putAt (Ab p).Ai k r)→Calls _ _ #[.agg #[.int .i64 (Ab p).lsn,.int .i64 (Ab p).kind,.int .i64 (Ab p).link,.slice A (Pg.putAt (Ab p).Ai k r).length c]] _ _)at u;clear F D E a;generalize Pg.putAt (Ab p).Ai k r=rs at G u;generalize Ab p=x at h G u;go_enter Tryz.func92,Tryz.ntmps92
    go_wp2_with(first|(go_at_call 43;refine(h.out _).mono ?_;rintro e s ⟨z,A,c,rfl,b,f⟩;obtain⟨g,m⟩:=b rfl;clear b;subst g)|(go_at_call 139;refine(l.out _).mono ?_;rintro e L ⟨rfl,rfl⟩)|(go_at_call 89;refine(j.out _).mono ?_;rintro e B ⟨rfl,d⟩;obtain⟨c0,O,c2,c3,f0,f1,f2,f3⟩:=Ey (C0 d);have t:s.heap.size<B.heap.size:=(by have:=d.size;simp at this;omega))|(go_at_call 140;refine(G.out _ _ _ (m.cells.below (Bd d))).mono ?_;rintro e Q ⟨R,S,rfl,I,v⟩;obtain⟨d0,d1,d2,d3,g0,g1,g2,g3⟩:=Ey (Fa (C0 d) v))|(go_at_call 141;refine(u.out _ _ _ (Bp.set I _ t _).cells).mono ?_;rintro e T ⟨rfl,J⟩))
    go_ret2;exact⟨rfl,andThen ((andThen (andThen f (Bd d)) v).setCell f.size _) J⟩
def Og (p:ByteArray)(i:Int)(r:ByteArray):ByteArray×Int:=
 if Bk p=false then(⟨#[]⟩,1)else if i<0 then(⟨#[]⟩,1)else if Hh r=false then(⟨#[]⟩,1)else if 512<i then(⟨#[]⟩,18)else Pg.Ek (A6 p (Pg.R6 (Ab p).Ai i.toNat r))
def Py (p:ByteArray)(i:Int):ByteArray×Int:=
 if Bk p=false then(⟨#[]⟩,1)else if(Pg.Ba (Ab p).Ai i).size=0 then(⟨#[]⟩,21)else Pg.Ek (A6 p (Pg.R7 (Ab p).Ai i.toNat))
theorem sI (l:List UInt8):(⟨l.toArray⟩:ByteArray).data.toList=l:=rfl
theorem fP (p:ByteArray):(⟨p.data.toList.toArray⟩:ByteArray)=p:=by
 apply ByteArray.ext
 rw[Array.toArray_toList]
theorem Zv {p q:ByteArray}(h:p.data.toList=q.data.toList):p=q:=ByteArray.ext (Array.toList_inj.1 h)
theorem fQ {p:ByteArray}{x:Pg.Ct}(h:Pg.right p.data.toList=some x):Bk p=true∧Ab p=x:=by
 unfold Bk Ab Pg.Kb;rw[h];exact⟨rfl,rfl⟩
theorem Ul {p:ByteArray}(h:Bk p=true):Pg.right p.data.toList=some (Ab p):=by
 unfold Bk at h;unfold Ab Pg.Kb
 cases a:Pg.right p.data.toList with
 |none=>rw[a]at h;cases h
 |some x=>rfl
theorem Fh (p:ByteArray):p.data.toList.length=p.size:=by simp
def Dl (x:Pg.Ct):ByteArray:=⟨(Pg.Cx x).toArray⟩
theorem Sv (x:Pg.Ct):(Dl x).data.toList=Pg.Cx x:=rfl
theorem Sw {x:Pg.Ct}(a:Pg.Ay (Pg.trim x.Ai)≤512):(Dl x).size=512:=by
 rw[← Fh,Sv];exact Pg.Mf a
theorem Ml {x:Pg.Ct}(a:Pg.Small x)(b:Pg.Ay (Pg.trim x.Ai)≤512)(c:∀ r∈x.Ai,r.size≤400):Bk (Dl x)=true∧Ab (Dl x)={x with Ai:=Pg.trim x.Ai}:=
 fQ (by rw[Sv];exact Pg.bV a b c)
theorem J1 {x:Pg.Ct}(a:Pg.Ay (Pg.trim x.Ai)≤512):Pg.Ek x=(Dl x,0):=Pg.Pq a
theorem Mm (x:Pg.Ct):(Pg.Ay (Pg.trim x.Ai)≤512∧Pg.Ek x=(Dl x,0))∨(512<Pg.Ay (Pg.trim x.Ai)∧Pg.Ek x=(⟨#[]⟩,18)):=by
 rcases Nat.lt_or_ge 512 (Pg.Ay (Pg.trim x.Ai))with h|h
 ·exact .inr ⟨h,Pg.Yw h⟩
 ·exact .inl ⟨h,Pg.Pq h⟩
theorem wW (n:Nat):(Oct.Bh (n:Int) 4).data.toList=Oct.Bm (Oct.word n) 4:=Oct.Ca _ 4 (by omega)
theorem Sx (t:ByteArray):(Me t).data.toList=Oct.Bm (Oct.word (Oct.Gr t.data.toList)) 4++t.data.toList:=by
 unfold Me;rw[ByteArray.data_append,Array.toList_append,wW]
theorem Mn (p:ByteArray)(h:p.size=512):(p.extract 4 512).data.toList=p.data.toList.drop 4:=by
 rw[show 512=4+508 from rfl,extract_eq]
 show(p.data.toList.drop 4).take 508=_
 exact List.take_of_length_le (by rw[List.length_drop,Fh];omega)
theorem Gv {p:ByteArray}(h:Bk p=true):Bk (Eh p)=true∧Ab (Eh p)=Ab p∧Hu (Eh p)=true∧(Eh p).size=512:=by
 have e:=Hg h;have a:(Eh p).data.toList=Oct.Bm (Oct.word (Oct.Gr (p.data.toList.drop 4))) 4++p.data.toList.drop 4:=by
  unfold Eh;rw[if_pos h,Sx,Mn p e]
 have b:(Eh p).size=512:=by
  rw[← Fh,a,List.length_append,Oct.Bc,List.length_drop,Fh];omega
 have c:(Eh p).data.toList.drop 4=p.data.toList.drop 4:=by rw[a];exact List.drop_left' (Oct.Bc _ 4)
 have f:=Pg.iL (q:=(Eh p).data.toList) (Ul h) (by rw[Fh];exact b) c;obtain⟨d,g⟩:=fQ f;refine⟨d,g,?_,b⟩;unfold Hu;rw[d,Bool.true_and]
 apply decide_eq_true
 apply Zv
 rw[Sx,Mn _ b,c];exact a.symm
end Go.Proofs.YtmfkhdhnbkambaaGreatDoor
namespace Pg
def Cy (rs:List ByteArray)(j:Nat):ByteArray:=(rs[j]?).getD ⟨#[]⟩
theorem Jk {rs:List ByteArray}{j:Nat}(h:rs.length≤j):Cy rs j=⟨#[]⟩:=by
 unfold Cy;rw[List.getElem?_eq_none h];rfl
theorem Sy {rs:List ByteArray}{j:Nat}(h:j<rs.length):Cy rs j=rs[j]:=by
 unfold Cy;rw[List.getElem?_eq_getElem h];rfl
theorem C7 (rs:List ByteArray)(k:Nat):Ba rs (k:Int)=Cy rs k:=by
 unfold Ba Cy;rw[if_neg (by omega)];rfl
theorem nil_of_size {r:ByteArray}(h:r.size=0):r=⟨#[]⟩:=by
 apply ByteArray.ext
 exact Array.eq_empty_of_size_eq_zero h
theorem dE (rs:List ByteArray):∀ m j,Dv rs m≤j→j<m→(Cy rs j).size=0:=by
 intro m
 induction m with
 |zero=>intro j _ h;omega
 |succ m ih=>
  intro j a d;unfold Dv at a
  split at a
  ·rename_i b
   by_cases c:j=m
   ·rw[c];exact b
   ·exact ih j a (by omega)
  ·omega
theorem O2 (rs:List ByteArray)(j:Nat):Cy (trim rs) j=Cy rs j:=by
 have a:=Oq rs rs.length
 by_cases h:j<Dv rs rs.length
 ·unfold Cy trim
  rw[List.getElem?_take_of_lt h]
 ·have b:Cy (trim rs) j=⟨#[]⟩:=Jk (by unfold trim;rw[List.length_take];omega)
  rw[b]
  by_cases c:j<rs.length
  ·exact(nil_of_size (dE rs rs.length j (by omega) c)).symm
  ·exact(Jk (by omega)).symm
theorem jQ {rs ss:List ByteArray}(g:Jc rs)(i:Jc ss)(h:∀ j,Cy rs j=Cy ss j):rs=ss:=by
 have key:∀ {a b:List ByteArray},Jc a→(∀ j,Cy a j=Cy b j)→a.length≤b.length:=by
  intro a b k c;rcases R5 k with h0|h0
  ·omega
  ·rcases Nat.lt_or_ge b.length a.length with l|hge
   ·exfalso
    apply h0
    have d:=c (a.length-1);have m:Cy b (a.length-1)=⟨#[]⟩:=Jk (by omega);rw[m]at d;unfold Cy at d;rw[d];rfl
   ·exact hge
 have n:rs.length=ss.length:=Nat.le_antisymm (key g h) (key i fun j=>(h j).symm)
 apply List.ext_getElem n
 intro j e f;have:=h j
 rwa[Sy e,Sy f]at this
theorem Zw {rs ss:List ByteArray}(h:∀ j,Cy rs j=Cy ss j):trim rs=trim ss:=
 jQ (Pn rs) (Pn ss) fun j=>by rw[O2,O2,h]
theorem Em (rs:List ByteArray)(k:Nat)(r:ByteArray)(j:Nat):Cy (putAt rs k r) j=if j=k then r else Cy rs j:=U1 rs k r j
theorem Ks (rs:List ByteArray)(k:Nat)(r:ByteArray)(j:Nat):Cy (R6 rs k r) j=if j<k then Cy rs j else if j=k then r else Cy rs (j-1):=by
 unfold R6
 split
 ·rename_i h
  rw[Em]
  by_cases a:j=k
  ·rw[if_pos a,if_neg (by omega),if_pos a]
  ·rw[if_neg a]
   by_cases b:j<k
   ·rw[if_pos b]
   ·rw[if_neg b,if_neg a,Jk (by omega),Jk (by omega)]
 ·rename_i h
  unfold Cy;rw[List.append_assoc,List.getElem?_append];have c:(rs.take k).length=k:=by rw[List.length_take];omega
  rw[c]
  by_cases b:j<k
  ·rw[if_pos b,if_pos b,List.getElem?_take_of_lt b]
  ·rw[if_neg b,if_neg b,List.singleton_append]
   by_cases a:j=k
   ·rw[if_pos a,a,Nat.sub_self];rfl
   ·rw[if_neg a]
    obtain⟨m,rfl⟩:∃ m,j=k+1+m:=⟨j-(k+1),by omega⟩;rw[show k+1+m-k=m+1 by omega,List.getElem?_cons_succ,List.getElem?_drop,show k+1+m-1=k+m by omega]
theorem Pz (rs:List ByteArray)(k:Nat)(h:k<rs.length)(j:Nat):Cy (R7 rs k) j=if j<k then Cy rs j else Cy rs (j+1):=by
 unfold R7 Cy;rw[List.getElem?_append];have b:(rs.take k).length=k:=by rw[List.length_take];omega
 rw[b]
 by_cases a:j<k
 ·rw[if_pos a,if_pos a,List.getElem?_take_of_lt a]
 ·rw[if_neg a,if_neg a,List.getElem?_drop,show k+1+(j-k)=j+1 by omega]
theorem jR (rs:List ByteArray):(Cy rs (Db rs)).size=0:=by
 induction rs with
 |nil=>rfl
 |cons r rs a=>
  unfold Db
  split
  ·rename_i h;exact h
  ·exact a
end Pg
namespace Go.Proofs.YtmfkhdhnbkambaaGreatDoor
open Go.RowKit
structure Made (p q:ByteArray) (rs:List ByteArray):Prop where
 Bk:Bk q=true
 size:q.size=512
 lsn:(Ab q).lsn=(Ab p).lsn
 kind:(Ab q).kind=(Ab p).kind
 link:(Ab q).link=(Ab p).link
 Cy:∀ j,Pg.Cy (Ab q).Ai j=Pg.Cy rs j
theorem I7 {p q:ByteArray}{rs:List ByteArray}{e:Int}(g:∀ r∈rs,r.size≤400)(h:Pg.Ek (A6 p rs)=(q,e))(i:e=0):Made p q rs∧q=Dl (A6 p rs):=by
 rcases Mm (A6 p rs)with⟨b,c⟩|⟨b,c⟩
 ·rw[c]at h
  injection h with d _
  obtain⟨f,a⟩:=Ml (Dz p rs) b g;rw[d]at f a;refine⟨⟨f,by rw[← d];exact Sw b,by rw[a];rfl,by rw[a];rfl,by rw[a];rfl,fun j=>?_⟩,d.symm⟩;rw[a];exact Pg.O2 rs j
 ·rw[c]at h
  injection h with _ k
  omega
theorem Sz {p:ByteArray}(h:Bk p=true):Bl p ((Ab p).lsn:Nat)=Dl (Ab p):=by
 have a:=(Cj p).fine.small.1;unfold Bl;rw[if_neg (by rw[h];simp;omega)]
 rfl
theorem Kt {p q:ByteArray}{rs:List ByteArray}(c:Bk p=true)(d:(Ab q).lsn=(Ab p).lsn)(f:(Ab q).kind=(Ab p).kind)(g:(Ab q).link=(Ab p).link)(h:∀ j,Pg.Cy rs j=Pg.Cy (Ab p).Ai j):
 Pg.Ek (A6 q rs)=(Bl p ((Ab p).lsn:Nat),0):=by
 have a:=Cj p;have b:Pg.trim rs=(Ab p).Ai:=by rw[Pg.Zw h];exact Pg.Ee a.tight
 have i:Pg.Ay (Pg.trim (A6 q rs).Ai)≤512:=by show Pg.Ay (Pg.trim rs)≤512;rw[b];exact a.fits
 rw[Sz c,J1 i];have e:Pg.Cx (A6 q rs)=Pg.Cx (Ab p):=by
  unfold Pg.Cx;have k:(A6 q rs).Ai=rs:=rfl;rw[k,b,Pg.Ee a.tight];unfold Pg.L8 Pg.Ls;rw[show(A6 q rs).lsn=(Ab p).lsn from d,show(A6 q rs).kind=(Ab p).kind from f,show(A6 q rs).link=(Ab p).link from g]
 unfold Dl;rw[e]
theorem Gd {a b:ByteArray}{x y:Int}(h:(a,x)=(b,y)):a=b∧x=y:=by injection h with c d;exact⟨c,d⟩
theorem Fz {b:Bool}(h:¬ b=false):b=true:=by cases b;exact absurd rfl h;rfl
theorem En (p:ByteArray):∀ r∈(Ab p).Ai,r.size≤400:=(Cj p).fine.each
theorem Ww {p q r:ByteArray}{i:Int}(h:Iw p i r=(q,0)):∃ k:Nat,i=k∧Bk p=true∧(Pg.Cy (Ab p).Ai k).size=0∧Hh r=true∧k≤512∧Made p q (Pg.putAt (Ab p).Ai k r):=by
 unfold Iw at h
 split at h
 ·have:=(Gd h).2;omega
 ·rename_i b
  split at h
  ·have:=(Gd h).2;omega
  ·rename_i e
   obtain⟨k,rfl⟩:=Int.eq_ofNat_of_zero_le (show 0≤i by omega);rw[Pg.C7]at h
   split at h
   ·have:=(Gd h).2;omega
   ·rename_i c
    split at h
    ·have:=(Gd h).2;omega
    ·rename_i d
     split at h
     ·have:=(Gd h).2;omega
     ·rename_i f
      have a:Hh r=true:=(by simpa using d);refine⟨k,rfl,Fz b,by simpa using c,a,by omega,(I7 (Pg.Gm (En p) (D8 a).2) h rfl).1⟩
theorem Wx {p q:ByteArray}{i:Int}(h:Mg p i=(q,0)):∃ k:Nat,i=k∧Bk p=true∧(Pg.Cy (Ab p).Ai k).size≠0∧k<(Ab p).Ai.length∧Made p q (Pg.putAt (Ab p).Ai k ⟨#[]⟩):=by
 unfold Mg at h
 split at h
 ·have:=(Gd h).2;omega
 ·rename_i b
  split at h
  ·have:=(Gd h).2;omega
  ·rename_i a
   obtain⟨c,d⟩:=Pg.I4 a;obtain⟨k,rfl⟩:=Int.eq_ofNat_of_zero_le c;rw[Pg.C7]at a;exact⟨k,rfl,Fz b,a,by omega,(I7 (Pg.Gm (En p) (by show(0:Nat)≤400;omega)) h rfl).1⟩
theorem Wy {p q r:ByteArray}{i:Int}(h:Ie p i r=(q,0)):∃ k:Nat,i=k∧Bk p=true∧Hh r=true∧(Pg.Cy (Ab p).Ai k).size≠0∧k<(Ab p).Ai.length∧Made p q (Pg.putAt (Ab p).Ai k r):=by
 unfold Ie at h
 split at h
 ·have:=(Gd h).2;omega
 ·rename_i c
  split at h
  ·have:=(Gd h).2;omega
  ·rename_i d
   split at h
   ·have:=(Gd h).2;omega
   ·rename_i a
    have b:Hh r=true:=(by simpa using d);obtain⟨e,f⟩:=Pg.I4 a;obtain⟨k,rfl⟩:=Int.eq_ofNat_of_zero_le e;rw[Pg.C7]at a;exact⟨k,rfl,Fz c,b,a,by omega,(I7 (Pg.Gm (En p) (D8 b).2) h rfl).1⟩
theorem Wz {p q r:ByteArray}{i:Int}(h:Og p i r=(q,0)):∃ k:Nat,i=k∧Bk p=true∧Hh r=true∧k≤512∧Made p q (Pg.R6 (Ab p).Ai k r):=by
 unfold Og at h
 split at h
 ·have:=(Gd h).2;omega
 ·rename_i b
  split at h
  ·have:=(Gd h).2;omega
  ·rename_i d
   obtain⟨k,rfl⟩:=Int.eq_ofNat_of_zero_le (show 0≤i by omega)
   split at h
   ·have:=(Gd h).2;omega
   ·rename_i c
    split at h
    ·have:=(Gd h).2;omega
    ·have a:Hh r=true:=by simpa using c
     exact⟨k,rfl,Fz b,a,by omega,(I7 (Pg.U2 (En p) (D8 a).2) h rfl).1⟩
theorem W7 {p q:ByteArray}{i:Int}(h:Py p i=(q,0)):∃ k:Nat,i=k∧Bk p=true∧(Pg.Cy (Ab p).Ai k).size≠0∧k<(Ab p).Ai.length∧Made p q (Pg.R7 (Ab p).Ai k):=by
 unfold Py at h
 split at h
 ·have:=(Gd h).2;omega
 ·rename_i b
  split at h
  ·have:=(Gd h).2;omega
  ·rename_i a
   obtain⟨c,d⟩:=Pg.I4 a;obtain⟨k,rfl⟩:=Int.eq_ofNat_of_zero_le c;rw[Pg.C7]at a;exact⟨k,rfl,Fz b,a,by omega,(I7 (Pg.U3 (En p)) h rfl).1⟩
theorem oY {rs:List ByteArray}{k:Nat}(h:(Pg.Cy rs k).size≠0):k<rs.length:=by
 rcases Nat.lt_or_ge k rs.length with h1|h1
 ·exact h1
 ·rw[Pg.Jk h1]at h;exact absurd rfl h
theorem W8 {p:ByteArray}{k:Nat}(h:(Pg.Cy (Ab p).Ai k).size≠0):Hh (Pg.Cy (Ab p).Ai k)=true:=by
 unfold Hh
 apply decide_eq_true
 have a:=oY h;refine⟨by omega,?_⟩;rw[Pg.Sy a];exact En p _ (List.getElem_mem a)
theorem W9 {p r:ByteArray}{k:Nat}(a:Bk p=true)(c:(Pg.Cy (Ab p).Ai k).size=0)(b:Hh r=true)(d:k≤512):Iw p k r=Pg.Ek (A6 p (Pg.putAt (Ab p).Ai k r)):=by
 unfold Iw;rw[if_neg (by rw[a];simp),if_neg (by omega),if_neg (by rw[Pg.C7];omega),if_neg (by rw[b];simp),if_neg (by omega)];rfl
theorem fR {p:ByteArray}{k:Nat}(a:Bk p=true)(b:(Pg.Cy (Ab p).Ai k).size≠0):Mg p k=Pg.Ek (A6 p (Pg.putAt (Ab p).Ai k ⟨#[]⟩)):=by
 unfold Mg;rw[if_neg (by rw[a];simp),if_neg (by rw[Pg.C7];exact b)];rfl
theorem fS {p r:ByteArray}{k:Nat}(a:Bk p=true)(b:Hh r=true)(c:(Pg.Cy (Ab p).Ai k).size≠0):Ie p k r=Pg.Ek (A6 p (Pg.putAt (Ab p).Ai k r)):=by
 unfold Ie;rw[if_neg (by rw[a];simp),if_neg (by rw[b];simp),if_neg (by rw[Pg.C7];exact c)];rfl
theorem fT {p r:ByteArray}{k:Nat}(a:Bk p=true)(b:Hh r=true)(c:k≤512):Og p k r=Pg.Ek (A6 p (Pg.R6 (Ab p).Ai k r)):=by
 unfold Og;rw[if_neg (by rw[a];simp),if_neg (by omega),if_neg (by rw[b];simp),if_neg (by omega)];rfl
theorem fU {p:ByteArray}{k:Nat}(a:Bk p=true)(b:(Pg.Cy (Ab p).Ai k).size≠0):Py p k=Pg.Ek (A6 p (Pg.R7 (Ab p).Ai k)):=by
 unfold Py;rw[if_neg (by rw[a];simp),if_neg (by rw[Pg.C7];exact b)];rfl
def Ny (p:ByteArray):ByteArray:=Bl p ((Ab p).lsn:Nat)
theorem wX {p q r:ByteArray}{i:Int}(h:Iw p i r=(q,0)):(Pg.Ba (Ab p).Ai i).size=0∧q.size=512∧Mg q i=(Ny p,0):=by
 obtain⟨k,rfl,c,b,d,hk,M⟩:=Ww h;have e:=D8 d;refine⟨by rw[Pg.C7];exact b,M.size,?_⟩;rw[fR M.Bk (by rw[M.Cy,Pg.Em,if_pos rfl];omega)];refine Kt c M.lsn M.kind M.link fun j=>?_;rw[Pg.Em,M.Cy,Pg.Em]
 by_cases a:j=k
 ·rw[if_pos a,a,Pg.nil_of_size b]
 ·rw[if_neg a,if_neg a]
theorem wY {p q:ByteArray}{i:Int}(h:Mg p i=(q,0)):(Pg.Ba (Ab p).Ai i).size≠0∧q.size=512∧Iw q i (Pg.Ba (Ab p).Ai i)=(Ny p,0):=by
 obtain⟨k,rfl,c,b,hk,M⟩:=Wx h;have d:=(Cj p).fine.len;rw[Pg.C7];refine⟨b,M.size,?_⟩;rw[W9 M.Bk (by rw[M.Cy,Pg.Em,if_pos rfl];rfl) (W8 b) (by omega)];refine Kt c M.lsn M.kind M.link fun j=>?_;rw[Pg.Em,M.Cy,Pg.Em]
 by_cases a:j=k
 ·rw[if_pos a,a]
 ·rw[if_neg a,if_neg a]
theorem wZ {p q r:ByteArray}{i:Int}(h:Ie p i r=(q,0)):(Pg.Ba (Ab p).Ai i).size≠0∧q.size=512∧Ie q i (Pg.Ba (Ab p).Ai i)=(Ny p,0)∧(Ab q).lsn=(Ab p).lsn∧(Ab q).kind=(Ab p).kind∧(Ab q).link=(Ab p).link:=by
 obtain⟨k,rfl,c,d,b,hk,M⟩:=Wy h;have e:=D8 d;rw[Pg.C7];refine⟨b,M.size,?_,M.lsn,M.kind,M.link⟩;rw[fS M.Bk (W8 b) (by rw[M.Cy,Pg.Em,if_pos rfl];omega)];refine Kt c M.lsn M.kind M.link fun j=>?_;rw[Pg.Em,M.Cy,Pg.Em]
 by_cases a:j=k
 ·rw[if_pos a,a]
 ·rw[if_neg a,if_neg a]
theorem xA {p q r:ByteArray}{i:Int}(h:Og p i r=(q,0)):q.size=512∧Py q i=(Ny p,0):=by
 obtain⟨k,rfl,c,d,hk,M⟩:=Wz h;have e:=D8 d;refine⟨M.size,?_⟩;have b:(Pg.Cy (Ab q).Ai k).size≠0:=by rw[M.Cy,Pg.Ks,if_neg (by omega),if_pos rfl];omega
 rw[fU M.Bk b];refine Kt c M.lsn M.kind M.link fun j=>?_;rw[Pg.Pz _ _ (oY b)]
 by_cases a:j<k
 ·rw[if_pos a,M.Cy,Pg.Ks,if_pos a]
 ·rw[if_neg a,M.Cy,Pg.Ks,if_neg (by omega),if_neg (by omega),Nat.add_sub_cancel]
theorem xB {p q:ByteArray}{i:Int}(h:Py p i=(q,0)):q.size=512∧Og q i (Pg.Ba (Ab p).Ai i)=(Ny p,0):=by
 obtain⟨k,rfl,c,d,hk,M⟩:=W7 h;have e:=(Cj p).fine.len;rw[Pg.C7];refine⟨M.size,?_⟩;rw[fT M.Bk (W8 d) (by omega)];refine Kt c M.lsn M.kind M.link fun j=>?_;rw[Pg.Ks,M.Cy,M.Cy,Pg.Pz _ _ hk,Pg.Pz _ _ hk]
 by_cases b:j<k
 ·rw[if_pos b,if_pos b]
 ·rw[if_neg b]
  by_cases a:j=k
  ·rw[if_pos a,a]
  ·rw[if_neg a,if_neg (by omega),show j-1+1=j by omega]
end Go.Proofs.YtmfkhdhnbkambaaGreatDoor
namespace NumPlain
def jS (n:Int):Bool:=decide (-1000000000000000≤n)&&decide (n≤1000000000000000)
theorem oZ {n:Int}(h:jS n=true): -1000000000000000≤n∧n≤1000000000000000:=by
 simpa[jS]using h
theorem pA {n:Int}(a: -1000000000000000≤n)(b:n≤1000000000000000):jS n=true:=by
 simp[jS,a,b]
def told (a b n:Int):Int×Bool:=if jS a&&jS b&&jS n then(n,true)else(0,false)
def Ay (a:Int):Int:=if a<0 then -a else a
open Go.Lib
theorem J2 {d:Nat}(h:d<10):(UInt8.ofNat (48+d)).toNat=48+d:=by
 rw[UInt8.toNat_ofNat'];omega
theorem O3:∀ (u:Nat),u≤1000000000000000→parseUint10 0 (decDigits u)= .ok u:=by
 have key:∀ (u:Nat),u≤1000000000000000→∀ r,parseUint10 0 (decDigits u++r)=parseUint10 u r:=by
  intro u
  induction u using Nat.strongRecOn with
  |_ u b=>
   intro a r;rw[decDigits]
   by_cases h:u<10
   ·rw[dif_pos h]
    simp only[List.cons_append,List.nil_append,parseUint10,J2 h];rw[if_pos (by omega),if_neg (by omega),if_neg (by omega)]
    congr 1;omega
   ·rw[dif_neg h,List.append_assoc,b (u/10) (by omega) (by omega)]
    simp only[List.cons_append,List.nil_append,parseUint10,J2 (show u%10<10 by omega)];rw[if_pos (by omega),if_neg (by omega),if_neg (by omega)]
    congr 1;omega
 intro u a;have:=key u a []
 simpa[parseUint10]using this
theorem Xa (u:Nat):decDigits u≠[]:=by
 rw[decDigits];split<;>simp
theorem S0 (u:Nat):∃ c r,decDigits u=c::r∧48≤c.toNat∧c.toNat≤57:=by
 induction u using Nat.strongRecOn with
 |_ u a=>
  rw[decDigits]
  by_cases h:u<10
  ·rw[dif_pos h]
   exact⟨_,_,rfl,by rw[J2 h];omega,by rw[J2 h];omega⟩
  ·rw[dif_neg h]
   obtain⟨c,r,e,b,d⟩:=a (u/10) (by omega);exact⟨c,r++[UInt8.ofNat (48+u%10)],by rw[e];rfl,b,d⟩
theorem Lj {v:Int}(b:jS v=true):atoiAll (itoa v)= .ok v:=by
 obtain⟨g,h⟩:=oZ b
 by_cases i:v<0
 ·obtain⟨u,rfl⟩:∃ u:Nat,v= -(u:Int):=⟨v.natAbs,by omega⟩
  rw[itoa_neg u (by omega)];have a:parseMag (decDigits u)= .ok u:=by rw[parseMag,if_neg (Xa u),O3 u (by omega)]
  simp only[atoiAll];rw[if_pos (by decide),a];simp only[];rw[if_neg (by simp),if_neg (by omega),if_pos (by decide)]
 ·obtain⟨u,rfl⟩:∃ u:Nat,v=(u:Int):=⟨v.natAbs,by omega⟩
  rw[itoa_nonneg u];obtain⟨c,r,e,d,f⟩:=S0 u;have a:=O3 u (by omega);rw[e]at a;simp only[e,atoiAll];rw[if_neg (by omega)];simp only[parseMag,if_neg (List.cons_ne_nil c r),a];rw[if_neg (by omega),if_neg (by omega),if_neg (by omega)]
def Fc (l:List UInt8):Int×Bool:=
 match atoiAll l with
 | .ok v=>if jS v&&decide (itoa v=l)then(v,true)else(0,false)
 |_=>(0,false)
theorem Zx {v:Int}(a:jS v=true):Fc (itoa v)=(v,true):=by
 simp[Fc,Lj a,a]
theorem jT {l:List UInt8}{v:Int}(h:Fc l=(v,true)):jS v=true∧itoa v=l:=by
 unfold Fc at h
 split at h
 ·split at h
  ·rename_i a
   simp only[Bool.and_eq_true,decide_eq_true_eq]at a;simp only[Prod.mk.injEq,and_true]at h;subst h;exact a
  ·simp at h
 ·simp at h
theorem dF {l:List UInt8}(h:(Fc l).2=true):jS (Fc l).1=true∧itoa (Fc l).1=l:=
 jT (v:=(Fc l).1) (by rw[← h])
def digits:ByteArray:=⟨#[48,49,50,51,52,53,54,55,56,57]⟩
end NumPlain
namespace Go.Proofs.YtmfkhdhnbkambaaGreatDoor
open Go.RowKit
structure Im where
 kind:Int
 slot:Int
 By:ByteArray
 new:ByteArray
def F1 (n:Int):ByteArray:=⟨(Lib.itoa n).toArray⟩
def Df:ByteArray×Bool:=(⟨#[]⟩,false)
def okB (x:ByteArray×Int):ByteArray×Bool:=(x.1,decide (x.2=0))
def Eu (p:ByteArray)(o:Im):Bool:= !decide ((Pg.Ba (Ab p).Ai o.slot).size=0)&&decide (o.By=Pg.Ba (Ab p).Ai o.slot)
def Ds (p:ByteArray)(o:Im):ByteArray×Bool:=
 match Lib.atoiAll o.new.data.toList with
 | .ok n=>if F1 n=o.new∧o.By=F1 ((Ab p).link:Nat)∧o.slot=0 then(Dy p n,!decide ((Dy p n).size=0))else Df
 |_=>Df
def Gk (p:ByteArray)(o:Im):ByteArray×Bool:=
 if o.slot=0∧o.By=Bl p 0∧¬ o.new.size=0∧Bl o.new 0=o.new then(Bl o.new ((Ab p).lsn:Nat),!decide ((Bl o.new ((Ab p).lsn:Nat)).size=0))else Df
def Cb (p:ByteArray)(o:Im):ByteArray×Bool:=
 if o.kind=1 then(if o.By.size=0 then okB (Iw p o.slot o.new)else Df)
 else if o.kind=2 then(if Eu p o&&decide (o.new.size=0)then okB (Mg p o.slot)else Df)
 else if o.kind=3 then(if Eu p o then okB (Ie p o.slot o.new)else Df)
 else if o.kind=4 then(if o.By.size=0 then okB (Og p o.slot o.new)else Df)
 else if o.kind=5 then(if Eu p o&&decide (o.new.size=0)then okB (Py p o.slot)else Df)
 else if o.kind=6 then Ds p o
 else if o.kind=7 then Gk p o
 else Df
def Dm (p:ByteArray)(o:Im):Bool:=Bk p&&(Cb p o).2
def S1 (p:ByteArray)(o:Im):ByteArray×Int:=if Dm p o then((Cb p o).1,0)else(⟨#[]⟩,1)
def xC (k:Int):Int:=if k=1 then 2 else if k=2 then 1 else if k=4 then 5 else if k=5 then 4 else k
def fV (o:Im):Im:=⟨xC o.kind,o.slot,o.new,o.By⟩
theorem O4 {x:ByteArray×Int}(h:(okB x).2=true):x=(x.1,0):=by
 obtain⟨a,e⟩:=x;have:e=0:=of_decide_eq_true h;rw[this]
theorem fW {p:ByteArray}{n:Int}(h:¬ (Bl p n).size=0):Bk p=true∧0≤n∧n<281474976710656:=by
 unfold Bl at h
 split at h
 ·exact absurd rfl h
 ·rename_i a
  cases b:Bk p with
  |false=>exact absurd (.inl b) a
  |true=>exact⟨rfl,by omega,by omega⟩
theorem O5 {p:ByteArray}{n:Int}(h:¬ (Dy p n).size=0):Bk p=true∧0≤n∧n<16777216:=by
 unfold Dy at h
 split at h
 ·exact absurd rfl h
 ·rename_i a
  cases b:Bk p with
  |false=>exact absurd (.inl b) a
  |true=>exact⟨rfl,by omega,by omega⟩
theorem fX (p:ByteArray){l k:Nat}(d:l<281474976710656)(hk:k<16777216):Bk (Dl ⟨l,(Ab p).kind,k,(Ab p).Ai⟩)=true∧Ab (Dl ⟨l,(Ab p).kind,k,(Ab p).Ai⟩)=⟨l,(Ab p).kind,k,(Ab p).Ai⟩∧(Dl ⟨l,(Ab p).kind,k,(Ab p).Ai⟩).size=512:=by
 have a:=Cj p;have b:=Pg.Ee a.tight;have c:Pg.Ay (Pg.trim (Ab p).Ai)≤512:=by rw[b];exact a.fits
 obtain⟨e,f⟩:=Ml (x:=⟨l,(Ab p).kind,k,(Ab p).Ai⟩) ⟨d,a.fine.small.2.1,hk⟩ c a.fine.each;refine⟨e,?_,Sw c⟩;rw[f];simp only[b]
theorem O6 {p:ByteArray}(h:Bk p=true){l:Nat}(a:l<281474976710656):Bl p (l:Int)=Dl ⟨l,(Ab p).kind,(Ab p).link,(Ab p).Ai⟩:=by
 unfold Bl;rw[if_neg (by rw[h];simp;omega)]
 rfl
theorem Nc {p:ByteArray}(h:Bk p=true){k:Nat}(hk:k<16777216):Dy p (k:Int)=Dl ⟨(Ab p).lsn,(Ab p).kind,k,(Ab p).Ai⟩:=by
 unfold Dy;rw[if_neg (by rw[h];simp;omega)]
 rfl
theorem Gn (p:ByteArray):(Ab p).lsn<281474976710656:=(Cj p).fine.small.1
theorem Lk (p:ByteArray):(Ab p).link<16777216:=(Cj p).fine.small.2.2
theorem Ii {p:ByteArray}(h:Bk p=true){l:Nat}(a:l<281474976710656):Bk (Bl p (l:Int))=true∧Ab (Bl p (l:Int))=⟨l,(Ab p).kind,(Ab p).link,(Ab p).Ai⟩∧(Bl p (l:Int)).size=512:=by
 rw[O6 h a];exact fX p a (Lk p)
theorem Va {p:ByteArray}(h:Bk p=true){k:Nat}(hk:k<16777216):Bk (Dy p (k:Int))=true∧Ab (Dy p (k:Int))=⟨(Ab p).lsn,(Ab p).kind,k,(Ab p).Ai⟩∧(Dy p (k:Int)).size=512:=by
 rw[Nc h hk];exact fX p (Gn p) hk
theorem Rh {p:ByteArray}(h:Bk p=true){l m:Nat}(b:l<281474976710656)(a:m<281474976710656):Bl (Bl p (l:Int)) (m:Int)=Bl p (m:Int):=by
 obtain⟨c,d,_⟩:=Ii h b;rw[O6 c a,O6 h a,d]
theorem Mo {p:ByteArray}(h:Bk p=true):Ny p=Dl (Ab p):=Sz h
theorem Zy {p:ByteArray}(h:Bk p=true):Bk (Ny p)=true∧Ab (Ny p)=Ab p∧(Ny p).size=512:=Ii h (Gn p)
theorem Vb (n:Nat)(h:n<16777216):Lib.atoiAll (F1 (n:Int)).data.toList= .ok (n:Int):=by
 show Lib.atoiAll (Lib.itoa (n:Int))=_
 exact NumPlain.Lj (NumPlain.pA (by omega) (by omega))
structure vA (p q:ByteArray) (o:Im):Prop where
 Ad:Bk q=true
 size:q.size=512
 lsn:(Ab q).lsn=(Ab p).lsn
 norm:Ny q=q
 back:Cb q (fV o)=(Ny p,true)
theorem I8 {p q:ByteArray}{rs:List ByteArray}(b:∀ r∈rs,r.size≤400)(h:Pg.Ek (A6 p rs)=(q,0)):Ny q=q:=by
 obtain⟨M,c⟩:=I7 b h rfl;rw[Mo M.Bk];have a:Pg.Ay (Pg.trim rs)≤512:=by
  rcases Mm (A6 p rs)with⟨a,_⟩|⟨_,f⟩
  ·exact a
  ·rw[f]at h;injection h with _ h;omega
 obtain⟨_,d⟩:=Ml (Dz p rs) a b;rw[← c]at d;rw[d];have g:Pg.trim (Pg.trim rs)=Pg.trim rs:=Pg.Zw fun j=>Pg.O2 rs j;have e:Pg.Cx {A6 p rs with Ai:=Pg.trim (A6 p rs).Ai}=Pg.Cx (A6 p rs):=by
  unfold Pg.Cx
  show Pg.L8 _ (Pg.trim (Pg.trim rs))=Pg.L8 _ (Pg.trim rs)
  rw[g]
  rfl
 rw[c];unfold Dl;rw[e]
theorem jU {p q r:ByteArray}{i:Int}(h:Iw p i r=(q,0)):Ny q=q:=by
 obtain⟨k,rfl,b,c,a,hk,_⟩:=Ww h;rw[W9 b c a hk]at h;exact I8 (Pg.Gm (En p) (D8 a).2) h
theorem jV {p q:ByteArray}{i:Int}(h:Mg p i=(q,0)):Ny q=q:=by
 obtain⟨k,rfl,a,b,hk,_⟩:=Wx h;rw[fR a b]at h;exact I8 (Pg.Gm (En p) (by show 0≤400;omega)) h
theorem jW {p q r:ByteArray}{i:Int}(h:Ie p i r=(q,0)):Ny q=q:=by
 obtain⟨k,rfl,b,a,c,hk,_⟩:=Wy h;rw[fS b a c]at h;exact I8 (Pg.Gm (En p) (D8 a).2) h
theorem jX {p q r:ByteArray}{i:Int}(h:Og p i r=(q,0)):Ny q=q:=by
 obtain⟨k,rfl,b,a,hk,_⟩:=Wz h;rw[fT b a hk]at h;exact I8 (Pg.U2 (En p) (D8 a).2) h
theorem jY {p q:ByteArray}{i:Int}(h:Py p i=(q,0)):Ny q=q:=by
 obtain⟨k,rfl,a,b,hk,_⟩:=W7 h;rw[fU a b]at h;exact I8 (Pg.U3 (En p)) h
theorem P0 {p:ByteArray}{o:Im}(h:Eu p o=true):(Pg.Ba (Ab p).Ai o.slot).size≠0∧o.By=Pg.Ba (Ab p).Ai o.slot:=by
 unfold Eu at h;rw[Bool.and_eq_true]at h;exact⟨by simpa using h.1,of_decide_eq_true h.2⟩
theorem Ta {p:ByteArray}{o:Im}(h:o.By.size≠0)(a:Pg.Ba (Ab p).Ai o.slot=o.By):Eu p o=true:=by
 unfold Eu;rw[a]
 simp[h]
theorem vB {p:ByteArray}{o:Im}(h:Dm p o=true):vA p (Cb p o).1 o:=by
 unfold Dm at h;rw[Bool.and_eq_true]at h;obtain⟨q,a⟩:=h;obtain⟨kind,slot,By,new⟩:=o
 by_cases w:kind=1
 ·subst w
  have e:Cb p ⟨1,slot,By,new⟩=if By.size=0 then okB (Iw p slot new)else Df:=if_pos rfl
  rw[e]at a ⊢
  split at a
  ·rename_i d
   rw[if_pos d];have b:=O4 a;obtain⟨k,hk,_,r,f,_,M⟩:=Ww b;obtain⟨_,c,g⟩:=wX b;have x:=D8 f;have hold:Pg.Ba (Ab (Iw p slot new).1).Ai slot=new:=(by subst hk;rw[Pg.C7,M.Cy,Pg.Em,if_pos rfl]);refine⟨M.Bk,c,M.lsn,jU b,?_⟩
   show(if Eu (Iw p slot new).1 ⟨2,slot,new,By⟩&&decide (By.size=0)then okB (Mg (Iw p slot new).1 slot)else Df)=_
   rw[Ta (by show new.size≠0;omega) hold,decide_eq_true d,g]
   rfl
  ·cases a
 by_cases y:kind=2
 ·subst y
  have e:Cb p ⟨2,slot,By,new⟩=if Eu p ⟨2,slot,By,new⟩&&decide (new.size=0)then okB (Mg p slot)else Df:=rfl
  rw[e]at a ⊢
  split at a
  ·rename_i d
   rw[if_pos d];rw[Bool.and_eq_true]at d;obtain⟨s,i⟩:=P0 d.1;have j:=of_decide_eq_true d.2;have b:=O4 a;obtain⟨k,hk,_,r,_,M⟩:=Wx b;obtain⟨_,c,g⟩:=wY b;refine⟨M.Bk,c,M.lsn,jV b,?_⟩
   show(if new.size=0 then okB (Iw (Mg p slot).1 slot By)else Df)=_
   rw[if_pos j,show By=Pg.Ba (Ab p).Ai slot from i,g]
   rfl
  ·cases a
 by_cases z:kind=3
 ·subst z
  have e:Cb p ⟨3,slot,By,new⟩=if Eu p ⟨3,slot,By,new⟩then okB (Ie p slot new)else Df:=rfl
  rw[e]at a ⊢
  split at a
  ·rename_i d
   rw[if_pos d];obtain⟨s,i⟩:=P0 d;have b:=O4 a;obtain⟨k,hk,_,f,r,_,M⟩:=Wy b;obtain⟨_,c,g,J,_⟩:=wZ b;have x:=D8 f;have hold:Pg.Ba (Ab (Ie p slot new).1).Ai slot=new:=(by subst hk;rw[Pg.C7,M.Cy,Pg.Em,if_pos rfl]);refine⟨M.Bk,c,M.lsn,jW b,?_⟩
   show(if Eu (Ie p slot new).1 ⟨3,slot,new,By⟩then okB (Ie (Ie p slot new).1 slot By)else Df)=_
   rw[if_pos (Ta (by show new.size≠0;omega) hold),show By=Pg.Ba (Ab p).Ai slot from i,g]
   rfl
  ·cases a
 by_cases A:kind=4
 ·subst A
  have e:Cb p ⟨4,slot,By,new⟩=if By.size=0 then okB (Og p slot new)else Df:=rfl
  rw[e]at a ⊢
  split at a
  ·rename_i d
   rw[if_pos d];have b:=O4 a;obtain⟨k,hk,_,f,_,M⟩:=Wz b;obtain⟨c,g⟩:=xA b;have x:=D8 f;have hold:Pg.Ba (Ab (Og p slot new).1).Ai slot=new:=(by subst hk;rw[Pg.C7,M.Cy,Pg.Ks,if_neg (by omega),if_pos rfl]);refine⟨M.Bk,c,M.lsn,jX b,?_⟩
   show(if Eu (Og p slot new).1 ⟨5,slot,new,By⟩&&decide (By.size=0)then okB (Py (Og p slot new).1 slot)else Df)=_
   rw[Ta (by show new.size≠0;omega) hold,decide_eq_true d,g]
   rfl
  ·cases a
 by_cases B:kind=5
 ·subst B
  have e:Cb p ⟨5,slot,By,new⟩=if Eu p ⟨5,slot,By,new⟩&&decide (new.size=0)then okB (Py p slot)else Df:=rfl
  rw[e]at a ⊢
  split at a
  ·rename_i d
   rw[if_pos d];rw[Bool.and_eq_true]at d;obtain⟨s,i⟩:=P0 d.1;have j:=of_decide_eq_true d.2;have b:=O4 a;obtain⟨k,hk,_,r,_,M⟩:=W7 b;obtain⟨c,g⟩:=xB b;refine⟨M.Bk,c,M.lsn,jY b,?_⟩
   show(if new.size=0 then okB (Og (Py p slot).1 slot By)else Df)=_
   rw[if_pos j,show By=Pg.Ba (Ab p).Ai slot from i,g]
   rfl
  ·cases a
 by_cases C:kind=6
 ·subst C
  have e:Cb p ⟨6,slot,By,new⟩=Ds p ⟨6,slot,By,new⟩:=rfl;rw[e]at a ⊢;unfold Ds at a ⊢;simp only at a ⊢;obtain⟨n,j⟩:∃ n,Lib.atoiAll new.data.toList= .ok n:=by
   cases j:Lib.atoiAll new.data.toList with
   |ok n=>exact⟨n,rfl⟩
   |_=>rw[j]at a;cases a
  rw[j]at a ⊢;simp only at a ⊢
  ·split at a
   ·rename_i g
    rw[if_pos g];obtain⟨t,c2,c3⟩:=g;have r:¬ (Dy p n).size=0:=(by simpa using a);obtain⟨_,E,K⟩:=O5 r;obtain⟨m,rfl⟩:=Int.eq_ofNat_of_zero_le E;have u:m<16777216:=(by omega);obtain⟨g1,g2,g3⟩:=Va q u;have F:Dy (Dy p (m:Int)) ((Ab p).link:Nat)=Ny p:=by
     rw[Nc g1 (Lk p),g2,Mo q]
    refine⟨g1,g3,by rw[g2],?_,?_⟩
    ·rw[Mo g1,g2,Nc q u]
    ·show Ds (Dy p (m:Int)) ⟨6,slot,new,By⟩=_
     unfold Ds;simp only;rw[c2,Vb _ (Lk p)];simp only;rw[g2];simp only;simp only[true_and]at*;rw[if_pos (by first|exact⟨rfl,t.symm,c3⟩|exact⟨trivial,t.symm,c3⟩|exact⟨t.symm,c3⟩),F];have:=(Zy q).2.2;rw[this]
     rfl
   ·cases a
 by_cases D:kind=7
 ·subst D
  have e:Cb p ⟨7,slot,By,new⟩=Gk p ⟨7,slot,By,new⟩:=rfl;rw[e]at a ⊢;unfold Gk at a ⊢;simp only at a ⊢
  split at a
  ·rename_i g
   rw[if_pos g];obtain⟨t,c2,c3,c4⟩:=g;have r:¬ (Bl new ((Ab p).lsn:Nat)).size=0:=(by simpa using a);obtain⟨j,_,_⟩:=fW r;obtain⟨g1,g2,g3⟩:=Ii j (Gn p);obtain⟨i1,i2,i3⟩:=Ii q (l:=0) (by omega);refine⟨g1,g3,by rw[g2],?_,?_⟩
   ·rw[Mo g1,g2,O6 j (Gn p)]
   ·show Gk (Bl new ((Ab p).lsn:Nat)) ⟨7,slot,new,By⟩=_
    unfold Gk;simp only;have G:Bl (Bl new ((Ab p).lsn:Nat)) 0=new:=by
     have:=Rh j (Gn p) (m:=0) (by omega);exact this.trans c4
    have H:Bl (Bl p 0) 0=Bl p 0:=Rh q (l:=0) (m:=0) (by omega) (by omega);have I:Bl (Bl p 0) ((Ab p).lsn:Nat)=Ny p:=Rh q (l:=0) (by omega) (Gn p);have v:(Bl p 0).size=512:=i3;rw[c2,g2];simp only;rw[if_pos ⟨t,G.symm,by rw[v];omega,H⟩,I];have:=(Zy q).2.2;rw[this]
    rfl
  ·cases a
 ·have e:Cb p ⟨kind,slot,By,new⟩=Df:=by
   unfold Cb;simp only;rw[if_neg w,if_neg y,if_neg z,if_neg A,if_neg B,if_neg C,if_neg D]
  rw[e]at a
  cases a
theorem sJ {p:ByteArray}{o:Im}(h:Dm p o=true):S1 p o=((Cb p o).1,0)∧Dm (Cb p o).1 (fV o)=true∧S1 (Cb p o).1 (fV o)=(Ny p,0):=by
 have U:=vB h;have a:Dm (Cb p o).1 (fV o)=true:=by unfold Dm;rw[U.Ad,U.back];rfl
 refine⟨by unfold S1;rw[if_pos h],a,?_⟩;unfold S1;rw[if_pos a,U.back]
end Go.Proofs.YtmfkhdhnbkambaaGreatDoor
namespace Lg
open Rc
def Gw (F N:Nat)(d:Dk):List UInt8:=flat ((d.sectors.drop F).take N)
theorem pB {F N:Nat}{d:Dk}(a:Whole d.sectors)(b:F+N≤d.sectors.length):(Gw F N d).length=N*128:=by
 unfold Gw;rw[Co ((a.drop F).take N),List.length_take,List.length_drop]
 congr 1;omega
theorem pC {L:List ByteArray}{F N j:Nat}{b:ByteArray}(e:j<N):((L.set (F+j) b).drop F).take N=((L.drop F).take N).set j b:=by
 refine List.ext_getElem? fun i=>?_;simp only[List.getElem?_take,List.getElem?_drop,List.getElem?_set,List.length_take,List.length_drop]
 by_cases a:i<N
 ·by_cases d:i=j
  ·subst d
   simp only[if_pos a,if_pos]
   by_cases c:F+i<L.length
   ·rw[if_pos c,if_pos (by omega)]
   ·rw[if_neg c,if_neg (by omega)]
  ·simp only[if_pos a]
   rw[if_neg (by omega),if_neg (by omega)]
 ·rw[if_neg a]
  rw[if_neg (by omega),if_neg a]
theorem jZ (n:Nat):∀ l:List UInt8,l.length≤n→flat (Pv l)=l++List.replicate ((Pv l).length*128-l.length) 0:=by
 induction n with
 |zero=>
  intro l e;rw[List.eq_nil_of_length_eq_zero (l:=l) (by omega),Ih];rfl
 |succ n ih=>
  intro l e
  by_cases h:l=[]
  ·rw[h,Ih];rfl
  ·have i:0<l.length:=by cases l with
    |nil=>contradiction
    |cons a l=>simp
   have f:(Ke (l.take 128)).data.toList=l.take 128++List.replicate (128-(l.take 128).length) 0:=(by unfold Ke;rfl);rw[M9 h,Fg,f,ih _ (by rw[List.length_drop];omega),List.length_cons];have b:=Qr _ (l.drop 128) (Nat.le_refl _)
   by_cases d:l.length≤128
   ·have c:l.drop 128=[]:=List.drop_eq_nil_of_le d
    rw[c,Ih,List.take_of_length_le d]
    simp
   ·have c:(l.take 128).length=128:=by rw[List.length_take];omega
    rw[c,Nat.sub_self,List.replicate_zero,List.append_nil,← List.append_assoc,List.take_append_drop,List.length_drop];rw[List.length_drop]at b;have g:(Pv (l.drop 128)).length*128-(l.length-128)=((Pv (l.drop 128)).length+1)*128-l.length:=(by omega);rw[g]
theorem pD:flat [C9]=List.replicate 128 0:=by
 have h:∀ l:List UInt8,flat [⟨l.toArray⟩]=l:=fun l=>by unfold flat;simp
 exact h _
theorem pE {L:List ByteArray}(h:Whole L)(i:Nat)(hi:i<L.length):(L[i]?.getD ⟨#[]⟩).data.toList=((flat L).drop (i*128)).take 128∧(L[i]?.getD ⟨#[]⟩).size=128:=by
 rw[List.getElem?_eq_getElem hi,Option.getD_some];refine⟨?_,h _ (List.getElem_mem hi)⟩;rw[← jD h,List.drop_eq_getElem_cons hi,Fg,List.take_left' (by have:=h _ (List.getElem_mem hi);simpa using this)]
structure G8 (F N:Nat) (d:Dk) (g:Lo) (r1 r2:List Rec):Prop where
 whole:Whole d.sectors
 room:F+N≤d.sectors.length
 hf:g.from_=(F:Int)
 hn:g.n=(N:Int)
 row:Row 0 (r1++r2)
 pre:(Gw F N d).take (bytes r1).length=bytes r1
 safe:g.safe=((bytes r1).length:Int)
 end_:g.end_=((bytes (r1++r2)).length:Int)
 tail:g.tail=⟨((bytes (r1++r2)).drop ((bytes r1).length-(bytes r1).length%128)).toArray⟩
 fit:(bytes (r1++r2)).length≤N*128
theorem Ku (a b:List Rec):(bytes (a++b)).length=(bytes a).length+(bytes b).length:=by rw[Lh,List.length_append]
theorem kA (r:Rec):bytes [r]=D5 r:=by unfold bytes;simp
theorem Km {l:List Rec}(h:(bytes l).length=0):l=[]:=by
 cases l with
 |nil=>rfl
 |cons r l=>rw[Sm,List.length_append,Mi]at h;omega
theorem G8.P1 {F N:Nat}{d:Dk}{g:Lo}{a b:List Rec}(h:G8 F N d g a b):(g.tail.size:Int)=g.end_-(((bytes a).length/128*128:Nat):Int):=by
 have c:=Ku a b;rw[h.tail,h.end_]
 show((((bytes (a++b)).drop ((bytes a).length-(bytes a).length%128)).toArray.size:Nat):Int)=_
 rw[List.size_toArray,List.length_drop];omega
theorem G8.new {F N:Nat}{d:Dk}(a:Whole d.sectors)(b:F+N≤d.sectors.length):G8 F N d ⟨F,N,0,0,⟨#[]⟩⟩ [] []:=
 ⟨a,b,rfl,rfl,trivial,rfl,rfl,rfl,rfl,Nat.zero_le _⟩
theorem G8.append {F N:Nat}{d:Dk}{g:Lo}{a b:List Rec}(h:G8 F N d g a b)(r:Rec):
 (As g r=(g,0,1))∨(As g r=(g,0,18))∨
 ((As g r).2=(g.end_+1,0)∧G8 F N d (As g r).1 a (b++[{r with lsn:=g.end_+1}])):=by
 by_cases c:Bu {r with lsn:=g.end_+1}
 ·by_cases j:g.n*128-((D5 {r with lsn:=g.end_+1}).length:Int)<g.end_
  ·refine .inr (.inl ?_)
   unfold As;simp only;rw[if_neg (fun f=>f c),if_pos j]
  ·refine .inr (.inr ?_)
   have e:As g r=({g with end_:=g.end_+((D5 {r with lsn:=g.end_+1}).length:Int),tail:=g.tail++⟨(D5 {r with lsn:=g.end_+1}).toArray⟩},g.end_+1,0):=by
    unfold As;simp only;rw[if_neg (fun f=>f c),if_neg j]
   rw[e];refine⟨rfl,?_⟩;have i:bytes (a++(b++[{r with lsn:=g.end_+1}]))=bytes (a++b)++D5 {r with lsn:=g.end_+1}:=by
    rw[← List.append_assoc,Lh (a++b),kA]
   refine⟨h.whole,h.room,h.hf,h.hn,?_,h.pre,h.safe,?_,?_,?_⟩
   ·rw[← List.append_assoc,cT]
    refine⟨h.row,c,?_,trivial⟩
    show g.end_+1=_
    rw[h.end_];simp
   ·show g.end_+_=_
    rw[i,List.length_append,h.end_];omega
   ·show g.tail++_=_
    have k:=Ku a b;rw[i,h.tail,List.drop_append_of_le_length (by omega)]
    apply ByteArray.ext
    rw[ByteArray.data_append]
    simp
   ·rw[i,List.length_append]
    have l:=h.hn;have m:=h.end_;omega
 ·refine .inl ?_
  unfold As;simp only;rw[if_pos c]
structure Mp (F N f:Nat) (s n t:List UInt8) (all:List ByteArray):Prop where
 whole:Whole all
 fits:f+all.length≤N
 some_:0<all.length
 flat_:n=s.take (f*128)++(flat all++s.drop ((f+all.length)*128))
 len:s.length=N*128
theorem Mp.pF {F N f:Nat}{s n t:List UInt8}{all:List ByteArray}(h:Mp F N f s n t all):n.length=N*128:=by
 have a:=h.fits;have b:=h.len;rw[h.flat_,List.length_append,List.length_append,Co h.whole,List.length_take,List.length_drop];omega
theorem Mp.piece {F N f:Nat}{s n t:List UInt8}{all:List ByteArray}(h:Mp F N f s n t all)(i:Nat)(hi:i<all.length):(all[i]?.getD ⟨#[]⟩).data.toList=(n.drop ((f+i)*128)).take 128∧(all[i]?.getD ⟨#[]⟩).size=128:=by
 obtain⟨a,b⟩:=pE h.whole i hi;refine⟨?_,b⟩;have c:=h.fits;have d:=h.len;have e:=Co h.whole;rw[a,h.flat_,show(f+i)*128=f*128+i*128 by omega,← List.drop_drop,List.drop_left' (by rw[List.length_take];omega),List.drop_append_of_le_length (by omega),List.take_append_of_le_length (by rw[List.length_drop];omega)]
theorem Mp.start {F N f:Nat}{s n t:List UInt8}{all:List ByteArray}(h:Mp F N f s n t all):mix s n ((f+all.length)*128)=s:=by
 have a:=h.fits;have b:=h.len;have c:=Co h.whole;unfold mix;rw[h.flat_,← List.append_assoc,List.drop_left' (by rw[List.length_append,List.length_take];omega),List.take_append_drop]
theorem Mp.xD {F N f:Nat}{s n t:List UInt8}{all:List ByteArray}(h:Mp F N f s n t all):mix s n (f*128)=n:=by
 refine uZ (by rw[h.len,h.pF]) fun i a=>?_;have b:=h.fits;have c:=h.len;rw[h.flat_,List.getElem?_append_left (by rw[List.length_take];omega),List.getElem?_take,if_pos a]
theorem dG {F N f:Nat}{s n t:List UInt8}{all:List ByteArray}(u:Mp F N f s n t all):∀ (i:Nat),i≤all.length→∀ d:Dk,Whole d.sectors→F+N≤d.sectors.length→d.down=false→-1≤d.left→Gw F N d=mix s n ((f+i)*128)→
 ((Cm ((F:Int)+f) all i d).2=0∧(Cm ((F:Int)+f) all i d).1.down=false∧-1≤(Cm ((F:Int)+f) all i d).1.left∧(d.left= -1→(Cm ((F:Int)+f) all i d).1.left= -1)∧Gw F N (Cm ((F:Int)+f) all i d).1=mix s n (f*128)∧Whole (Cm ((F:Int)+f) all i d).1.sectors∧(Cm ((F:Int)+f) all i d).1.sectors.length=d.sectors.length)∨
 ((Cm ((F:Int)+f) all i d).2=20∧d.left≠-1∧(∃ q,Gw F N (Cm ((F:Int)+f) all i d).1=mix s n q)∧Whole (Cm ((F:Int)+f) all i d).1.sectors∧(Cm ((F:Int)+f) all i d).1.sectors.length=d.sectors.length):=by
 intro i
 induction i with
 |zero=>
  intro _ d l E k B v;exact .inl ⟨rfl,k,B,fun h=>h,by unfold Cm;exact v,l,rfl⟩
 |succ i G=>
  intro J d l E k B v;obtain⟨w,c⟩:=u.piece i (by omega);have C:=u.fits;have j:Hm d ((F:Int)+f+(i:Int)):=⟨by omega,by omega⟩
  by_cases D:d.left=0
  ·have e:C6 d ((F:Int)+f+(i:Int)) (all[i]?.getD ⟨#[]⟩)=({d with down:=true},20):=by
    unfold C6;rw[k,if_neg (by simp),if_neg (fun x=>x ⟨j,c⟩),if_pos D]
   have y:Cm ((F:Int)+f) all (i+1) d=({d with down:=true},20):=by
    unfold Cm;rw[e,if_neg (show ¬ (20:Int)=0 by decide)]
   rw[y];exact .inr ⟨rfl,by omega,⟨_,v⟩,l,rfl⟩
  ·obtain⟨d2,g⟩:=ex ({d with sectors:=d.sectors.set ((F:Int)+f+(i:Int)).toNat (all[i]?.getD ⟨#[]⟩),left:=if 0<d.left then d.left-1 else d.left}:Dk)
   have e:C6 d ((F:Int)+f+(i:Int)) (all[i]?.getD ⟨#[]⟩)=(d2,0):=by
    unfold C6;rw[k,if_neg (by simp),if_neg (fun x=>x ⟨j,c⟩),if_neg D,g,← k]
   have y:Cm ((F:Int)+f) all (i+1) d=Cm ((F:Int)+f) all i d2:=by
    conv=>lhs;unfold Cm
    rw[e,if_pos rfl]
   rw[y];have m:((F:Int)+f+(i:Int)).toNat=F+(f+i):=(by omega);have a:d2.sectors=d.sectors.set (F+(f+i)) (all[i]?.getD ⟨#[]⟩):=(by rw[g,← m]);have b:d2.left=if 0<d.left then d.left-1 else d.left:=by rw[g]
   have hlen:d2.sectors.length=d.sectors.length:=(by rw[a,List.length_set]);have o:Gw F N d2=mix s n ((f+i)*128):=by
    unfold Gw;rw[a,pC (by omega)];refine oQ ((l.drop F).take N) c (by rw[List.length_take,List.length_drop];omega) (by rw[u.len,u.pF]) ?_ w;have:(f+i+1)*128=(f+(i+1))*128:=(by omega);rw[this];exact v
   have z:Whole d2.sectors:=(by rw[a];exact l.set _ c);have H:=G (by omega) d2 z (by omega) (by rw[g];exact k) (by rw[b];split<;>omega) o;have p:d.left= -1→d2.left= -1:=fun r=>by rw[b,if_neg (by omega)];exact r
   rcases H with⟨A,a2,a3,a4,a5,I,K⟩|⟨A,a2,a3,a4,a5⟩
   ·exact .inl ⟨A,a2,a3,fun r=>a4 (p r),a5,I,by omega⟩
   ·exact .inr ⟨A,fun r=>a2 (p r),a3,a4,by omega⟩
theorem G8.Fk {F N:Nat}{d:Dk}{g:Lo}{a b:List Rec}(h:G8 F N d g a b):Fk g=(((bytes a).length/128:Nat):Int):=by
 unfold Lg.Fk;have:=h.P1;rw[this];omega
theorem G8.uN {F N:Nat}{d:Dk}{g:Lo}{a c:List Rec}(h:G8 F N d g a c)(A:c≠[]):
 ∃ n,Mp F N ((bytes a).length/128) (Gw F N d) n [] (Gj g)∧jC n (a++c):=by
 obtain⟨X,o⟩:=ex ((bytes a).length);obtain⟨Y,p⟩:=ex ((bytes (a++c)).length);have B:=Ku a c;have w:0<(bytes c).length:=Nat.pos_of_ne_zero fun m=>A (Km m);have j:=h.fit;have q:=pB (N:=N) h.whole h.room;have f:g.tail.data.toList=(bytes (a++c)).drop (X-X%128):=by rw[h.tail,o]
 have r:g.tail.size=Y-(X-X%128):=by
  have:g.tail.data.toList.length=g.tail.size:=by simp
  rw[← this,f,List.length_drop,p]
 have C:=Jz g.tail;have k:flat (Il g.tail)=(bytes (a++c)).drop (X-X%128)++List.replicate ((Il g.tail).length*128-g.tail.size) 0:=by
  unfold Il;rw[jZ _ _ (Nat.le_refl _),f,List.length_drop,← f,r,← p]
 obtain⟨z,m,s,D⟩:∃ z,flat (Gj g)=(bytes (a++c)).drop (X-X%128)++List.replicate z 0∧(X/128+(Gj g).length≤N)∧(128≤z∨Y+z=N*128):=by
  unfold Gj;rw[h.Fk,h.hn,← o]
  by_cases x:(((X/128:Nat):Int)+((Il g.tail).length:Int))<(N:Int)
  ·rw[if_pos x]
   refine⟨(Il g.tail).length*128-g.tail.size+128,?_,?_,.inl (by omega)⟩
   ·rw[Qp,k,pD,List.append_assoc,List.replicate_append_replicate]
   ·rw[List.length_append];simp;omega
  ·rw[if_neg x]
   refine⟨(Il g.tail).length*128-g.tail.size,k,?_,.inr ?_⟩
   ·omega
   ·omega
 have l:Whole (Gj g):=by
  unfold Gj
  split
  ·intro b E
   rcases List.mem_append.1 E with h3|h3
   ·exact Nb _ b h3
   ·rw[List.mem_singleton.1 h3];exact Iz
  ·exact Nb _
 have t:0<(Gj g).length:=by
  have:(Il g.tail).length≤(Gj g).length:=by unfold Gj;split<;>simp
  omega
 have u:=Co l;rw[m,List.length_append,List.length_drop,List.length_replicate,← p]at u;obtain⟨n,y⟩:=ex ((Gw F N d).take (X/128*128)++(flat (Gj g)++(Gw F N d).drop ((X/128+(Gj g).length)*128)));have v:Mp F N (X/128) (Gw F N d) n [] (Gj g):=⟨l,s,t,y,q⟩;have e:n=bytes (a++c)++(List.replicate z 0++(Gw F N d).drop ((X/128+(Gj g).length)*128)):=by
  have G:(Gw F N d).take (X/128*128)=(bytes (a++c)).take (X/128*128):=by
   have h3:=congrArg (List.take (X/128*128)) h.pre;rw[List.take_take,Nat.min_eq_left (by omega)]at h3;rw[h3,Lh,List.take_append_of_le_length (by omega)]
  rw[y,m,G,show X-X%128=X/128*128 by omega,List.append_assoc,← List.append_assoc,List.take_append_drop]
 refine⟨n,by rw[← o];exact v,h.row,?_,?_,?_⟩
 ·rw[e,List.take_left' rfl]
 ·rw[v.pF];exact j
 ·intro i h3 I H
  rw[v.pF]at H;rw[e,List.getElem?_append_right h3,List.getElem?_append_left (by rw[List.length_replicate];omega),List.getElem?_replicate,if_pos (by omega)]
theorem G8.force {F N:Nat}{d:Dk}{g:Lo}{a b:List Rec}(h:G8 F N d g a b)(s:d.down=false)(t: -1≤d.left):
 ((Bi d g).2.2=0∧G8 F N (Bi d g).1 (Bi d g).2.1 (a++b) []∧(Bi d g).1.down=false∧-1≤(Bi d g).1.left∧(d.left= -1→(Bi d g).1.left= -1)∧(Bi d g).1.sectors.length=d.sectors.length∧(Bi d g).2.1.safe=(Bi d g).2.1.end_∧(jC (Gw F N d) a∨b≠[]→jC (Gw F N (Bi d g).1) (a++b)))∨
 ((Bi d g).2.2=20∧b≠[]∧(Bi d g).2.1=g∧d.left≠-1∧Whole (Bi d g).1.sectors∧(Bi d g).1.sectors.length=d.sectors.length∧∃ n q,jC n (a++b)∧n.length=N*128∧Gw F N (Bi d g).1=mix (Gw F N d) n q):=by
 by_cases m:b=[]
 ·subst m
  have c:g.safe=g.end_:=by rw[h.safe,h.end_,List.append_nil]
  have e:Bi d g=(d,g,0):=by unfold Bi;rw[if_pos c]
  rw[e];refine .inl ⟨rfl,?_,s,t,fun hx=>hx,rfl,c,fun hx=>?_⟩
  ·have u:=h
   rw[← List.append_nil a]at u
   simpa using u
  ·rcases hx with hx|hx
   ·simpa using hx
   ·exact absurd rfl hx
 ·have c:¬ g.safe=g.end_:=by
   have v:0<(bytes b).length:=Nat.pos_of_ne_zero fun y=>m (Km y);have p:=Ku a b;rw[h.safe,h.end_];omega
  obtain⟨n,j,r⟩:=h.uN m;have i:g.from_+Lg.Fk g=(F:Int)+(((bytes a).length/128:Nat):Int):=by rw[h.hf,h.Fk]
  have w:=dG j (Gj g).length (Nat.le_refl _) d h.whole h.room s t j.start.symm;rw[← i]at w;rcases w with⟨o,a2,a3,a4,a5,z,x⟩|⟨o,a2,a3,a4,a5⟩
  ·have e:Bi d g=((Cm (g.from_+Lg.Fk g) (Gj g) (Gj g).length d).1,J0 g,0):=by
    unfold Bi;rw[if_neg c];simp only;rw[if_pos o]
   rw[e];refine .inl ⟨rfl,?_,a2,a3,a4,x,rfl,fun _=>by show jC (Gw F N _) _;rw[a5,j.xD];exact r⟩;have k:Gw F N (Cm (g.from_+Lg.Fk g) (Gj g) (Gj g).length d).1=n:=(by rw[a5,j.xD]);have A:=h.P1;have f:=h.end_;refine⟨z,by rw[x];exact h.room,h.hf,h.hn,by rw[List.append_nil];exact h.row,?_,?_,?_,?_,by rw[List.append_nil];exact h.fit⟩
   ·show(Gw F N (Cm (g.from_+Lg.Fk g) (Gj g) (Gj g).length d).1).take _=_
    rw[k];exact r.pre
   ·show g.end_=_
    exact f
   ·show g.end_=_
    rw[List.append_nil];exact f
   ·show g.tail.extract (g.tail.size-(g.end_%128).toNat) g.tail.size=_
    have p:=Ku a b;have l:g.tail.size=(bytes (a++b)).length-(bytes a).length/128*128:=(by omega);rw[List.append_nil,f]
    apply ByteArray.ext
    rw[ByteArray.data_extract,h.tail]
    apply Array.toList_inj.1
    rw[Array.toList_extract];simp only[List.extract_eq_drop_take'];rw[← h.tail,l];have B:(((((bytes (a++b)).length:Nat):Int)%128).toNat)=(bytes (a++b)).length%128:=(by omega);rw[B];rw[List.drop_take,List.drop_drop,List.take_of_length_le (by rw[List.length_drop];omega)]
    congr 1;omega
  ·have e:Bi d g=((Cm (g.from_+Lg.Fk g) (Gj g) (Gj g).length d).1,g,20):=by
    unfold Bi;rw[if_neg c];simp only;rw[if_neg (show ¬ _ by rw[o];decide),o]
   rw[e];obtain⟨q,C⟩:=a3;exact .inr ⟨rfl,m,rfl,a2,a4,a5,n,q,r,j.pF,C⟩
end Lg
namespace Tx
open Rc Lg
def Mq (r:Rec):Prop:=1≤r.txn∧1≤r.kind∧r.kind≤7
instance (r:Rec):Decidable (Mq r):=by unfold Mq;exact inferInstance
def O7 (r:Rec)(t:Be):Be:=⟨t.txn,r.lsn,if r.kind=1∨r.kind=2 then r.lsn else if r.kind=3∨r.kind=4 then r.next else t.next,if r.kind=5 then true else t.done⟩
def Cv:List Be→Int→Option Nat
 |[],_=>none
 |t::l,n=>if t.txn=n then some 0 else(Cv l n).map (·+1)
theorem F3 {l:List Be}{n:Int}{i:Nat}(h:Cv l n=some i):∃ hi:i<l.length,l[i].txn=n∧∀ j (hj:j<i),l[j].txn≠n:=by
 induction l generalizing i with
 |nil=>cases h
 |cons t l ih=>
  unfold Cv at h
  split at h
  ·rename_i a
   injection h with h;subst h
   exact⟨by simp,a,fun j hj=>absurd hj (by omega)⟩
  ·rename_i a
   cases b:Cv l n with
   |none=>rw[b]at h;cases h
   |some k=>
    rw[b]at h
    injection h with h
    have c:i=k+1:=h.symm;subst c;obtain⟨d,e,f⟩:=ih b;refine⟨by simpa using d,by simpa using e,fun j hj=>?_⟩
    cases j with
    |zero=>simpa using a
    |succ j=>simpa using f j (by omega)
theorem Qt {l:List Be}{n:Int}(h:Cv l n=none):∀ t∈l,t.txn≠n:=by
 induction l with
 |nil=>intro t a;cases a
 |cons t l c=>
  unfold Cv at h
  split at h
  ·cases h
  ·rename_i a
   cases b:Cv l n with
   |some k=>rw[b]at h;cases h
   |none=>
    intro u d;rcases List.mem_cons.1 d with e|e
    ·rw[e];exact a
    ·exact c b u e
theorem kB {l:List Be}{n:Int}{i:Nat}(hi:i<l.length)(h:l[i].txn=n)(b:∀ j (hj:j<i),l[j].txn≠n):Cv l n=some i:=by
 cases a:Cv l n with
 |none=>exact absurd h (Qt a _ (List.getElem_mem hi))
 |some k=>
  obtain⟨e,c,d⟩:=F3 a;rcases Nat.lt_trichotomy k i with h4|h4|h4
  ·exact absurd c (b k h4)
  ·rw[h4]
  ·exact absurd h (d i h4)
theorem kC {l:List Be}{n:Int}(h:∀ t∈l,t.txn≠n):Cv l n=none:=by
 cases a:Cv l n with
 |none=>rfl
 |some k=>obtain⟨b,c,_⟩:=F3 a;exact absurd c (h _ (List.getElem_mem b))
def El (l:List Be)(r:Rec):List Be:=
 if ¬ Mq r then l else
 match Cv l r.txn with
 |none=>if r.kind=7 then l else l++[O7 r ⟨r.txn,0,0,false⟩]
 |some i=>if r.kind=7 then l.take i++l.drop (i+1)else l.take i++O7 r (l[i]?.getD ⟨0,0,0,false⟩)::l.drop (i+1)
theorem kD (l:List Be)(r:Rec):(El l r).length≤l.length+1:=by
 unfold El
 split
 ·omega
 ·cases a:Cv l r.txn with
  |none=>simp only;split<;>simp
  |some i=>
   obtain⟨b,_⟩:=F3 a;simp only
   split
   ·rw[List.length_append,List.length_take,List.length_drop];omega
   ·rw[List.length_append,List.length_take,List.length_cons,List.length_drop];omega
structure St where
 zlog:Int
 zpages:Int
 zframes:Int
 Az:Dk
 log:Lo
 hand:Int
 txns:List Be
 next:Int
def Ha (s:St)(n:Int):Be×Bool:=match Cv s.txns n with
 |none=>(⟨0,0,0,false⟩,false)
 |some i=>(s.txns[i]?.getD ⟨0,0,0,false⟩,true)
def Zz (s:St)(n:Int):Int:=(Ha s n).1.last
noncomputable def Xb (s:St) (r:Rec):St×Int:=
 if(As s.log r).2.2=0 then({s with log:=(As s.log r).1,txns:=El s.txns {r with lsn:=(As s.log r).2.1}},0)else(s,(As s.log r).2.2)
noncomputable def O8 (s:St) (n:Int) (opn:Bool) (r:Rec):St×Int:=
 if(Ha s n).2=false then(s,21)else if opn=true∧(Ha s n).1.done=true then(s,17)else Xb s {r with txn:=n,prev:=(Ha s n).1.last}
def Z5 (m:Int):Rec:=⟨0,0,0,4,0,m,0,Jo,0,0,Ce,[],[]⟩
noncomputable def Tb (s:St) (n m:Int):St×Int:=O8 s n true (Z5 m)
def fresh (n:Nat):St:=⟨n,0,0,Li (n+1),⟨1,n,0,0,⟨#[]⟩⟩,0,[],1⟩
end Tx
namespace Lg
open Rc
theorem Z6 (n:Nat):Whole (Li n).sectors:=fun b a=>by
 have:b=C9:=by
  have h:=List.mem_replicate.1 a;exact h.2
 rw[this];exact Iz
theorem G8.sK {N:Nat}{d:Dk}{g:Lo}{a b:List Rec}(h:G8 1 N d g a b)(c:N≤4000):0≤g.end_∧g.end_≤512000∧(g.tail.size:Int)≤g.end_∧g.end_%128≤(g.tail.size:Int)∧g.from_=1∧g.n=(N:Int)∧0≤g.safe∧g.safe≤g.end_:=by
 have e:=h.end_;have f:=h.P1;have i:=h.fit;have j:=Ku a b;have k:=h.safe;exact⟨by omega,by omega,by omega,by omega,h.hf,h.hn,by omega,by omega⟩
end Lg
namespace Tx
open Rc Lg
def Good (N:Nat)(s:St):Prop:=∃ r1 r2,G8 1 N s.Az s.log r1 r2∧s.Az.down=false∧s.Az.left= -1∧s.Az.sectors.length=N+1∧jC (Gw 1 N s.Az) r1∧(r1++r2).foldl El []=s.txns
def Has (L:List Rec)(x:Int):Prop:=∃ r∈L,r.kind=5∧r.txn=x
end Tx
namespace Lg
open Rc
end Lg
namespace Tx
open Rc Lg
theorem sL {s:St}{r:Rec}{g:Lo}(h:As s.log r=(g,s.log.end_+1,0)):Xb s r=({s with log:=g,txns:=El s.txns {r with lsn:=s.log.end_+1}},0):=by
 unfold Xb;rw[h];simp only;rw[if_pos trivial]
structure Z7 (s:St):Prop where
 e0:0≤s.log.end_
 e1:s.log.end_≤512000
 t0:(s.log.tail.size:Int)≤s.log.end_
 t1:s.log.end_%128≤(s.log.tail.size:Int)
 f:s.log.from_=1
 n0:0≤s.log.n
 n1:s.log.n≤4000
 s0:0≤s.log.safe
 s1:s.log.safe≤s.log.end_
theorem sM {N:Nat}{d:Dk}{s:St}{a b:List Rec}(h:G8 1 N d s.log a b)(c:N≤4000):Z7 s:=by
 obtain⟨e,a2,a3,a4,a5,i,f,g⟩:=h.sK c;exact⟨e,a2,a3,a4,a5,by omega,by omega,f,g⟩
def Oh:Option Nat→Int
 |none=> -1
 |some k=>(k:Int)
end Tx
namespace Go.Proofs.YtmfkhdhnbkambaaGreatDoor
open Go.RowKit
theorem kE (t:Rc.Be)(n:Int)(g:Nat)(w:World)(h:w.cell? ⟨g,0,none⟩=some (.int .i64 n)):
 Cr 237 #[wQ t,.pointer (some ⟨g,0,none⟩)] w (.bool (decide (t.txn=n))):=by
 obtain⟨a,b,c,d⟩:=t;have f:g<w.heap.size:=by
  rcases Nat.lt_or_ge g w.heap.size with h1|h1
  ·exact h1
  ·unfold World.cell? at h
   rw[Array.getElem?_eq_none h1]at h
   cases h
 have j:(w.alloc (.cells #[a,b,c,d] 59)).cell? ⟨g,0,none⟩=some (.int .i64 n):=((Ac w _).cell (p:=⟨g,0,none⟩) f).trans h;simp only
 by_cases e:a=n
 ·subst e
  rw[decide_eq_true rfl];have i:(a==a)=true:=by simp
  go_enter Tryz.func237,Tryz.ntmps237;go_wp2_with fail;go_ret;exact⟨by simp,Ac _ _⟩
 ·rw[decide_eq_false e]
  have i:(a==n)=false:=by simpa using e
  clear e;go_enter Tryz.func237,Tryz.ntmps237;go_wp2_with fail;go_ret;exact⟨by simp[*],Ac _ _⟩
def F4 (o:Option Nat)(w:World)(e:Ending)(w':World):Prop:=e= .returned (.int .i64 (Tx.Oh o))∧Bw w w'
theorem dH (l:List Rc.Be)(n:Int)(Z:l.length≤140737488355328)(A:Option Addr)(c g:Nat)(w:World)(G:Xx w A c l)(H:w.cell? ⟨g,0,none⟩=some (.int .i64 n))(u:g<w.heap.size):
 Cq 76 #[.slice A l.length c,.func (.func 237) #[] #[.pointer (some ⟨g,0,none⟩)]] w (F4 (Tx.Cv l n) w):=by
 have L:=Hq G;have M:=Hq (fun t W (m:Bw w W)=>kE t n g W ((m.cell (p:=⟨g,0,none⟩) u).trans H));have I:=Hq (fun(k:Nat) w' (hk:k<l.length) (h1:l[k].txn=n) (B:∀ j (b:j<k),l[j].txn≠n) (m:Bw w w')=>show F4 (Tx.Cv l n) w (.returned (.int .i64 (k:Int))) w' from⟨by rw[Tx.kB hk h1 B];rfl,m⟩);have J:=Hq (fun w' (B:∀ j (b:j<l.length),l[j].txn≠n) (m:Bw w w')=>show F4 (Tx.Cv l n) w (.returned (.int .i64 (-1))) w' from⟨by
  rw[Tx.kC fun t N=>by
   obtain⟨j,b,rfl⟩:=List.getElem_of_mem N;exact B j b]
  rfl,m⟩)
 generalize F4 (Tx.Cv l n) w=Q at I J ⊢;clear G H u;go_enter Tryz.func76,Tryz.ntmps76;go_wp2_with fail
 go_loopw [8] (fun i wr=>∃ k:Nat,k≤l.length∧i= .int .i64 k∧(∀ j (b:j<l.length),j<k→l[j].txn≠n)∧Bw w wr) (fun i _=>l.length-(intOf i).toNat)
 case atStart=>exact⟨0,Nat.zero_le _,rfl,fun _ _ h=>absurd h (by omega),Below.refl _ _⟩
 case round=>
  obtain⟨k,hk,rfl,q,o⟩:=hrel;have C:=Hq q;have d:=Hq o;clear q
  by_cases v:k<l.length
  ·obtain⟨b',off,rfl,hc,O,a⟩:=Bz Dr (L.out.below o) v
   have K:=a 0 _ rfl;have P:=a 1 _ rfl;have R:=a 2 _ rfl;have S:=a 3 _ rfl;clear a o;simp only[Nat.add_zero]at K;have y:=Hq (show ¬ l[k].txn=n→∀ j (b:j<l.length),j<k+1→l[j].txn≠n from fun h j b D=>by
    rcases Nat.lt_or_eq_of_le (Nat.le_of_lt_succ D)with h1|h1
    ·exact C.out j b h1
    ·subst h1;exact h)
   have z:=Hq (show l[k].txn=n→∀ w',Bw w w'→Q (.returned (.int .i64 (k:Int))) w' from fun h w' m=>I.out k w' v h (fun j b=>C.out j (by omega) b) m);have f:=Hq (fun W m=>M.out l[k] W m);generalize l[k]=x at K P R S z y f;have T:IntKind.i64.wrap ((k:Int)+1)=(k:Int)+1:=IntWalk.i64_in _ (by omega)
   by_cases s:x.txn=n
   ·have E:=Hq (z.out s)
    rw[decide_eq_true s]at f;clear z y s;obtain⟨U,V,X,fd⟩:=x
    go_wp2_with((go_at_call 237;(with_reducible refine(f.out _ d.out).mono ?_);rintro e w' ⟨rfl,r⟩))
    exact E.out _ (Ag d.out r)
   ·have F:=Hq (y.out s)
    rw[decide_eq_false s]at f;clear z y s;obtain⟨U,V,X,fd⟩:=x
    go_wp2_with((go_at_call 237;(with_reducible refine(f.out _ d.out).mono ?_);rintro e w' ⟨rfl,r⟩))
    go_roundw
    case rel=>exact⟨k+1,by omega,by go_num,F.out,Ag d.out r⟩
    case measure=>simp[intOf];omega
  ·obtain rfl:k=l.length:=by omega
   have Y:=Hq (J.out wr (fun j b=>C.out j b b) d.out);clear o;go_wp2_with fail;exact Y.out
theorem Tc (l:List Rc.Be)(n:Int)(g:l.length≤140737488355328)(A:Option Addr)(c:Nat)(w:World)(f:Xx w A c l):
 Cq 195 #[.slice A l.length c,n] w (F4 (Tx.Cv l n) w):=by
 have a:=Hq (dH l n g A c w.heap.size (w.alloc (.cells #[n] 3)) (f.below (Ac w _)) (by rw[World.cell?_alloc_new];rfl) (by simp));have b:=Hq (fun w' (d:Bw w w')=>show F4 (Tx.Cv l n) w (.returned (.int .i64 (Tx.Oh (Tx.Cv l n)))) w' from⟨rfl,d⟩);generalize F4 (Tx.Cv l n) w=Q at b ⊢;unfold F4 at a;generalize Tx.Oh (Tx.Cv l n)=r at a b;clear f;go_enter Tryz.func195,Tryz.ntmps195
 go_wp2_with((go_at_call 76;(with_reducible refine a.out.mono ?_);rintro e w' ⟨rfl,d⟩))
 exact b.out _ (Ag (Ac _ _) d)
theorem Xc:(Tryz.prog.info? 59).map (fun i=>(i.zero,i.size,i.bytes))=some (some (.agg #[(),(),(),false]),4,32):=by kernel_rfl
theorem fY (t:Rc.Be):∀ u∈F6 t,u.oneCell'=true:=by
 intro u a;simp only[F6,List.mem_cons,List.not_mem_nil,or_false]at a;rcases a with rfl|rfl|rfl|rfl<;>rfl
theorem Ri (l:List Rc.Be):∀ u∈l.flatMap F6,u.oneCell'=true:=by
 intro u a;obtain⟨t,_,b⟩:=List.mem_flatMap.1 a;exact fY t u b
theorem pG {w:World}{B size n c g:Nat}{e:TypeId}{xs:List Value}(h:w.ownsRow B e size (.slice (some ⟨g,0,none⟩) n c) n xs)(j:Nat)(o:j<n*size):
 w.cell? ⟨g,j,none⟩=xs[j]?∧w.frozen? ⟨g,j,none⟩=false∧∀ x,(w.setCell ⟨g,j,none⟩ x).ownsRow B e size (.slice (some ⟨g,0,none⟩) n c) n (xs.set j x):=by
 obtain⟨q,r⟩:=h;rcases r with⟨s,_⟩|⟨z,cap,cur,t,u,f,p,d,k,a⟩
 ·cases s
 ·injection t with b v l
  injection b with b
  injection b with b _ _
  subst b l;have y:n*size≤c*size:=Nat.mul_le_mul_right _ p;refine⟨?_,Ap f j,fun x=>⟨by rw[List.length_set];exact q,.inr ⟨g,c,cur.setIfInBounds j x,rfl,u,Cp j f x,p,d,by rw[Array.size_setIfInBounds];exact k,?_⟩⟩⟩
  ·rw[Aa f j,← a,List.getElem?_take,if_pos o,Array.getElem?_toList]
  ·rw[← a]
   refine List.ext_getElem? fun i=>?_;rw[List.getElem?_set,List.getElem?_take,List.length_take,List.getElem?_take,Array.toList_setIfInBounds,List.getElem?_set];have A:cur.toList.length=cur.size:=by simp
   by_cases m:j=i
   ·subst m
    rw[if_pos rfl,if_pos rfl,if_pos o,if_pos (by omega),if_pos (by omega)]
   ·rw[if_neg m,if_neg m]
theorem Sn {α:Type}{enc:α→List Value}{k:Nat}(hk:∀ x,(enc x).length=k):∀ (l:List α) (j f:Nat) (y:α) (x:Value) (hj:j<l.length),f<k→enc y=(enc l[j]).set f x→(l.flatMap enc).set (j*k+f) x=(l.set j y).flatMap enc:=by
 intro l
 induction l with
 |nil=>intro j f y x hj;simp at hj
 |cons a l ih=>
  intro j f y x hj c b
  cases j with
  |zero=>
   simp only[List.getElem_cons_zero]at b;rw[List.flatMap_cons,List.set_cons_zero,List.flatMap_cons,b,Nat.zero_mul,Nat.zero_add,List.set_append_left _ _ (by rw[hk];exact c)]
  |succ j=>
   simp only[List.getElem_cons_succ]at b;rw[List.flatMap_cons,List.set_cons_succ,List.flatMap_cons,List.set_append_right _ _ (by rw[hk,Nat.succ_mul];omega)]
   congr 1
   rw[show(j+1)*k+f-(enc a).length=j*k+f by rw[hk,Nat.succ_mul];omega];exact ih j f y x (by simpa using hj) c b
theorem Ll {g:Nat}{T:TypeId}{fr:Nat×Nat}:∀ (vs:List Value) (o:Nat) (cs:Array Value) (w:World),w.heap[g]? =some (.cells cs T fr)→∃ cs':Array Value,(w.setCells g o vs).heap[g]? =some (.cells cs' T fr)∧cs'.size=cs.size∧∀ j,cs'[j]? =if o≤j∧j<o+vs.length∧j<cs.size then vs[j-o]? else cs[j]? :=by
 intro vs
 induction vs with
 |nil=>intro o cs w h;exact⟨cs,h,rfl,fun j=>by rw[if_neg (by simp;omega)]⟩
 |cons v vs ih=>
  intro o cs w h;obtain⟨cs',d,f,i⟩:=ih (o+1) _ _ (Cp o h v);refine⟨cs',d,by rw[f,Array.size_setIfInBounds],fun j=>?_⟩;rw[i,Array.size_setIfInBounds,Array.getElem?_setIfInBounds]
  by_cases b:j=o
  ·subst b
   rw[if_neg (by omega),if_pos rfl]
   by_cases a:j<cs.size
   ·rw[if_pos a,if_pos ⟨Nat.le_refl _,by simp,a⟩,Nat.sub_self];rfl
   ·rw[if_neg a,if_neg (by omega),Array.getElem?_eq_none (by omega)]
  ·by_cases c:o+1≤j∧j<o+1+vs.length∧j<cs.size
   ·rw[if_pos c,if_pos (by simp;omega)]
    obtain⟨m,rfl⟩:∃ m,j=o+1+m:=⟨j-(o+1),by omega⟩;rw[show o+1+m-(o+1)=m by omega,show o+1+m-o=m+1 by omega,List.getElem?_cons_succ]
   ·rw[if_neg c,if_neg (fun e=>b e.symm),if_neg (by simp;omega)]
theorem Jl {B g:Nat}(a:B≤g):∀ (vs:List Value) (o:Nat) (w:World),Below B w (w.setCells g o vs):=by
 intro vs
 induction vs with
 |nil=>intro o w;exact Below.refl _ _
 |cons v vs b=>
  intro o w;exact((Below.refl B w).setCell (p:=⟨g,o,none⟩) a v).trans (b (o+1) _)
theorem Td (l:List Rc.Be)(q:l.length≤1000000)(A:Option Addr)(c:Nat)(w:World)(a:Xx w A c l):
 Cq 81 #[.slice A l.length c] w fun e w'=>∃ v,e= .returned v∧Dt F6 4 59 w.heap.size w' v l∧Bw w w':=by
 obtain⟨i0,k,d,f,g⟩:=info_parts Xc;have m:=Hq a
 cases A with
 |none=>
  have h:l=[]:=by
   rcases Nat.eq_zero_or_pos l.length with h0|h0
   ·exact List.eq_nil_of_length_eq_zero h0
   ·obtain⟨b,off,e,_⟩:=a h0
    cases e
  subst h;clear a m;have n:∀ w,(binOp .eql 34 (.slice none 0 c) (.slice none 0 0)).run Tryz.prog w= .ok (.bool true) w:=fun w=>Lib.run_eql_slice_nil w 34 59 none 0 c 0 0 dI;simp only[List.length_nil];go_enter Tryz.func81,Tryz.ntmps81;go_wp2_with fail;go_ret;exact⟨_,rfl,N9 _ _ _ _,Below.refl _ _⟩
 |some ad=>
  have i:=Hq (a.below (Ac w (.cells #[] 59)));have n:∀ w,(binOp .eql 34 (.slice (some ad) l.length c) (.slice none 0 0)).run Tryz.prog w= .ok (.bool false) w:=fun w=>Lib.run_eql_slice_nil w 34 59 (some ad) l.length c 0 0 dI;clear a;go_enter Tryz.func81,Tryz.ntmps81
  go_wp2_with(at_builtin;refine Da Kr fun K o=>Mx (w.alloc (.cells #[] 59)) (.tmp 5) (.tmp 6) 34 59 i0 (.agg #[(),(),(),false]) 4 32 dI k d f g rfl (by omega) rfl w.heap.size _ 0 [] rfl (L6 w 59 4) (some ad) l.length c (l.flatMap F6) rfl i.out (by rw[Co Dr]) (Ri l) (by omega) (by omega) (by simp) ?_;intro v2 r j s p;refine o _ _ ?_)
  go_ret;rw[List.nil_append,Nat.zero_add]at j;exact⟨_,rfl,j,(Ac w (.cells #[] 59)).trans p⟩
def vC (n:Nat):List Value:=(Builtin.zeroCells (Value.cells (.agg #[(),(),(),false])) n).toList
theorem fZ (n:Nat):(vC n).length=n*4:=by simp[vC,Builtin.zeroCells,Value.cells]
theorem Xd (w:World)(b o n c:Nat)(l:0<n)(f:∀ j,j<n*4→(w.cell? ⟨b,o+j,none⟩).isSome=true)(g:∀ j,j<n*4→w.frozen? ⟨b,o+j,none⟩=false)(ty:TypeId):
 (Builtin.clear_ #[34] ty #[.slice (some ⟨b,o,none⟩) n c]).run Tryz.prog w= .ok (.tuple #[]) (w.setCells b o (vC n)):=by
 have h:∀ w,(zeroValue 59).run Tryz.prog w= .ok (.agg #[(),(),(),false]) w:=Tryz.zeroValue59;have a:=run_storeCells_cells (P:=Tryz.prog) b o (vC n) 0 w (by rw[fZ];simpa using f) (by rw[fZ];simpa using g) (by
  intro v d
  simp[vC,Builtin.zeroCells,Value.cells]at d
  obtain⟨i,_,rfl⟩:=d;have e:i%4<4:=Nat.mod_lt _ (by omega);generalize i%4=k at e;rcases k with _|_|_|_|k
  ·rfl
  ·rfl
  ·rfl
  ·rfl
  ·omega)
 simp only[Nat.add_zero]at a;unfold vC at a ⊢;obtain⟨m,rfl⟩:∃ m,n=m+1:=⟨n-1,by omega⟩
 simp[Builtin.clear_,run_underlying dI,h,a]
theorem Z8 (l:List Rc.Be)(hl:l.length≤1000000)(i:Nat)(hi:i<l.length)(B g c:Nat)(w:World)(ho:Dt F6 4 59 B w (.slice (some ⟨g,0,none⟩) l.length c) l):
 Cq 276 #[.slice (some ⟨g,0,none⟩) l.length c,.int .i64 (i:Int),.int .i64 ((i:Int)+1)] w fun e w'=>∃ v,e= .returned v∧Dt F6 4 59 B w' v (l.take i++l.drop (i+1))∧Below B w w':=by
 obtain⟨i0,N,ao,O,aq⟩:=info_parts Xc;obtain⟨n,P⟩:=ex l.length;obtain⟨j,hj⟩:=ex (i+1);have x:((i:Int)+1)=(j:Int):=by omega
 rw[x];have HO:=Hq ho;obtain⟨y,h2⟩:=ho;rcases h2 with⟨Q,_⟩|⟨g',cap,cur,hv,p,hh,R,k,T,b⟩
 ·cases Q
 injection hv with f ar U
 injection f with f
 injection f with f _ _
 subst f U;rw[← P]at R b y hl hi ⊢;have J:=Hq hh;have HT:=Hq b;have au:i≤j:=by omega
 have av:j≤n:=by omega
 have aw:((i:Int)==(j:Int))=false:=by simp;omega
 have ag:(i:Int)≤(j:Int):=by omega
 have ah:(j:Int)≤(n:Int):=by omega
 have ai:(n:Int)≤(c:Int):=by omega
 have aj:(j:Int)≤(c:Int):=by omega
 have ak:(i:Int)≤(c:Int):=by omega
 have V:c≤maxLen:=k;have W:=Hq P;have X:=Hq hj;clear y hh b k HO P hj x;go_enter Tryz.func276,Tryz.ntmps276;obtain⟨news,a⟩:=ex ((l.drop j).flatMap F6);have d:news.length=(n-j)*4:=by rw[a,Co Dr,List.length_drop,W.out]
 have Y:=Hq a;have Z:=Hq (show ∀ u∈news,u.oneCell'=true from by rw[a];exact Ri _);obtain⟨M,a1,o⟩:∃ M:Addr,(if c=j then(some ⟨g,0,none⟩:Option Addr)else some ⟨g,j*4,none⟩)=some M∧∀ t u,news[t]? =some u→w.drew.cell? (M.add t)=some u:=by
  by_cases z:c=j
  ·refine⟨_,by rw[if_pos z],fun t u A=>?_⟩
   have Q:news.length=0:=(by rw[d];omega);rw[List.length_eq_zero_iff.1 Q]at A
   simp at A
  ·refine⟨_,by rw[if_neg z],fun t u A=>?_⟩
   have q:t<(n-j)*4:=(by rw[← d];exact(List.getElem?_eq_some_iff.1 A).1);rw[Addr.add_mid]
   show w.cell? ⟨g,j*4+t,none⟩=some u
   rw[Aa J.out,← A,a];have h5:(l.flatMap F6)[j*4+t]? =((l.drop j).flatMap F6)[t]? :=by
    have h6:l.flatMap F6=(l.take j).flatMap F6++(l.drop j).flatMap F6:=(by rw[← List.flatMap_append,List.take_append_drop]);have h7:((l.take j).flatMap F6).length=j*4:=(by rw[Co Dr,List.length_take];have:=W.out;omega);rw[h6,List.getElem?_append_right (by omega),h7,Nat.add_sub_cancel_left]
   rw[← h5,← HT.out,List.getElem?_take,if_pos (by omega),Array.getElem?_toList]
 have C:=Hq o;have a6:=Hq (show ∀ t,t<news.length→(w.drew.cell? ⟨g,0+i*4+t,none⟩).isSome=true∧w.drew.frozen? ⟨g,0+i*4+t,none⟩=false from fun t q=>by
  rw[d]at q;refine⟨?_,Ap (show w.drew.heap[g]? =_ from J.out) _⟩
  show(w.cell? ⟨g,0+i*4+t,none⟩).isSome=true
  rw[Aa J.out,Array.getElem?_eq_getElem (by omega)]
  rfl)
 obtain⟨m,hm⟩:=ex (i+(n-j));have a7:m<n:=by have:=X.out;omega
 have D:m+1=n:=by have:=X.out;omega
 obtain⟨W1,r⟩:=ex (w.drew.setCells g (0+i*4) news);obtain⟨E,F,k2,k3⟩:=Ll news (0+i*4) cur w.drew J.out;rw[← r]at F;have ax:=fun ty=>Xd W1 g (m*4) (n-m) (c-m) (by omega) (fun t q=>by rw[Aa F,Array.getElem?_eq_getElem (by omega)];rfl) (fun t q=>Ap F _) ty;have a8:=Hq F;have aa:=Hq k2;have ad:=Hq k3;have G:=Hq r;have HM:=Hq hm;have H:=Hq d;have s:i+(n-j)≤c:=by omega
 have ay:(m:Int)≤(n:Int):=by omega
 have al:(m:Int)≤(c:Int):=by omega
 have an:¬ c=m:=by omega
 clear a o hm D r F k2 k3 d a7;go_upto_region 5 with fail;refine G7 (S:=(fun _=>True)) (fun h=>?_) (by trivial);refine Bb 0 ?_;refine Bb 1 ?_;refine Bb 2 ?_;refine Bb 3 ?_;refine Bb 4 ?_;refine Bb 5 ?_;refine Dg 6 fun K hK=>?_
 try rw[a1]
 refine step_append_room rfl (.tmp 22) (.tmp 25) 34 rfl 59 i0 4 dI N O g 0 i c rfl M (n-j) (c-j) news rfl H.out C.out Z.out s a6.out ?_;rw[← G.out,← HM.out];refine Cw hK (fun h=>?_) (by trivial);clear hK K;refine Bb 7 ?_
 try simp only[Act.put,List.setIfInBounds_toArray,List.set_cons_zero]
 refine wpAnyH_done Kr ?_ _;clear h;go_wp2_with fail;go_ret;obtain⟨I,q1,q2,q3⟩:=Ll (vC (n-m)) (m*4) E W1 a8.out;have az:=W.out;have ae:=X.out;have b0:=HM.out;have af:=aa.out;refine⟨_,rfl,?_,?_⟩
 ·have hlen:(l.take i++l.drop (i+1)).length=m:=by rw[List.length_append,List.length_take,List.length_drop];omega
  show World.ownsRow _ B 59 4 _ (l.take i++l.drop (i+1)).length ((l.take i++l.drop (i+1)).flatMap F6)
  rw[hlen];refine⟨by rw[Co Dr,hlen],.inr ⟨g,c,I,rfl,p,q1,by omega,V,by rw[q2,af];exact T,?_⟩⟩;have e1:((l.take i).flatMap F6).length=i*4:=by rw[Co Dr,List.length_take];omega
  have e2:l.flatMap F6=(l.take i).flatMap F6++(l.drop i).flatMap F6:=by rw[← List.flatMap_append,List.take_append_drop]
  refine List.ext_getElem? fun t=>?_;rw[List.getElem?_take]
  by_cases q:t<m*4
  ·rw[if_pos q,Array.getElem?_toList,q3,if_neg (by omega),ad.out,List.flatMap_append]
   by_cases b1:t<i*4
   ·rw[if_neg (by omega),List.getElem?_append_left (by omega)]
    have h8:=congrArg (fun L=>L[t]?) HT.out;simp only[List.getElem?_take]at h8;rw[if_pos (by omega),Array.getElem?_toList,e2,List.getElem?_append_left (by omega)]at h8;exact h8
   ·have d:=H.out
    rw[if_pos (by omega),List.getElem?_append_right (by omega),e1,Y.out,ae]
    congr 1
    omega
  ·rw[if_neg q,List.getElem?_eq_none (by rw[Co Dr,hlen];omega)]
 ·rw[G.out]
  exact(((Below.refl B w).drew).trans (Jl p _ _ _)).trans (Jl p _ _ _)
end Go.Proofs.YtmfkhdhnbkambaaGreatDoor
namespace Tx
open Rc
theorem pH {l:List Be}{r:Rec}(h:¬ Mq r):El l r=l:=by unfold El;rw[if_pos h]
theorem dJ {l:List Be}{r:Rec}(h:Mq r)(a:Cv l r.txn=none)(hk:r.kind=7):El l r=l:=by unfold El;rw[if_neg (fun b=>b h),a];simp only;rw[if_pos hk]
theorem kG {l:List Be}{r:Rec}(h:Mq r)(a:Cv l r.txn=none)(hk:¬ r.kind=7):El l r=(l++[(⟨r.txn,0,0,false⟩:Be)]).set l.length (O7 r ⟨r.txn,0,0,false⟩):=by
 unfold El;rw[if_neg (fun b=>b h),a];simp only;rw[if_neg hk,List.set_append_right _ _ (Nat.le_refl _),Nat.sub_self];rfl
theorem kH {l:List Be}{r:Rec}{i:Nat}(h:Mq r)(a:Cv l r.txn=some i)(hk:r.kind=7):El l r=l.take i++l.drop (i+1):=by unfold El;rw[if_neg (fun b=>b h),a];simp only;rw[if_pos hk]
theorem kI {l:List Be}{r:Rec}{i:Nat}(h:Mq r)(a:Cv l r.txn=some i)(hk:¬ r.kind=7)(hi:i<l.length):El l r=l.set i (O7 r l[i]):=by
 unfold El;rw[if_neg (fun b=>b h),a];simp only;rw[if_neg hk,List.getElem?_eq_getElem hi,Option.getD_some,List.set_eq_take_append_cons_drop,if_pos hi]
end Tx
namespace Go.Proofs.YtmfkhdhnbkambaaGreatDoor
open Go.RowKit
theorem Fe {w:World}{B g N c:Nat}{M:List Rc.Be}(h:w.ownsRow B 59 4 (.slice (some ⟨g,0,none⟩) N c) N (M.flatMap F6))(j:M.length=N)(k:Nat)(hk:k<M.length)(f:Nat)(a:f<4)(x:Value)(y:Rc.Be)(b:F6 y=(F6 M[k]).set f x):
 w.cell? ⟨g,k*4+f,none⟩=(F6 M[k])[f]?∧w.frozen? ⟨g,k*4+f,none⟩=false∧(w.setCell ⟨g,k*4+f,none⟩ x).ownsRow B 59 4 (.slice (some ⟨g,0,none⟩) N c) N ((M.set k y).flatMap F6):=by
 obtain⟨d,e,i⟩:=pG h (k*4+f) (by omega);refine⟨by rw[d,Jt Dr M k f hk a],e,?_⟩;rw[← Sn Dr M k f y x hk a b];exact i x
theorem J3 {w:World}{B size n:Nat}{e:TypeId}{v:Value}{xs:List Value}(h:w.ownsRow B e size v n xs)(d:0<n):∃ g c,v= .slice (some ⟨g,0,none⟩) n c∧B≤g:=by
 rcases h.2 with⟨_,f⟩|⟨g,cap,cur,a,b,_⟩
 ·omega
 ·exact⟨g,cap,a,b⟩
def Nd (l:List Rc.Be)(A:Option Addr)(w:World)(e:Ending)(w':World):Prop:=
 ∃ A' c',e= .returned (.slice A' l.length c')∧Xx w' A' c' l∧(A'=A∨De w.heap.size w' 59 A')∧Bw w w'
theorem pI {l:List Rc.Be}{A:Option Addr}{w w':World}{g N c B:Nat}(h:w'.ownsRow B 59 4 (.slice (some ⟨g,0,none⟩) N c) N (l.flatMap F6))(a:l.length=N)(b:w.heap.size≤B)(d:Bw w w'):Nd l A w (.returned (.slice (some ⟨g,0,none⟩) N c)) w':=by
 subst a;exact⟨_,_,rfl,Cz h,.inr ((De.own h).mono b),d⟩
theorem kJ (l:List Rc.Be)(hl:l.length≤900000)(A:Option Addr)(c:Nat)(r:Rc.Rec)(AT AD:Option Addr)(n1 c1 m1 d1:Nat)(w:World)(hr:Xx w A c l):
 Cq 242 #[.slice A l.length c,D9 r (.slice AT n1 c1) (.slice AD m1 d1)] w (Nd (Tx.El l r) A w):=by
 have HR:=Hq hr;have o:=Hq (fun w' (h:Tx.El l r=l) (hb:Bw w w')=>show Nd (Tx.El l r) A w (.returned (.slice A l.length c)) w' from by rw[h];exact⟨A,c,rfl,hr.below hb,.inl rfl,hb⟩);have K:=Hq (fun(M:List Rc.Be) (g N c B:Nat) w' (h:Tx.El l r=M) (ho:w'.ownsRow B 59 4 (.slice (some ⟨g,0,none⟩) N c) N (M.flatMap F6)) (hN:M.length=N) (hB:w.heap.size≤B) (hb:Bw w w')=>show Nd (Tx.El l r) A w (.returned (.slice (some ⟨g,0,none⟩) N c)) w' from by rw[h];exact pI ho hN hB hb);have Y:=Hq (fun(M:List Rc.Be) (v:Value) (B:Nat) w' (h:Tx.El l r=M) (ho:Dt F6 4 59 B w' v M) (hB:w.heap.size≤B) (hb:Bw w w')=>show Nd (Tx.El l r) A w (.returned v) w' from by
  rw[h];obtain⟨A2,c2,rfl⟩:=E1 ho;exact⟨_,_,rfl,Cz ho,.inr ((De.own ho).mono hB),hb⟩)
 have N0:=Hq (@Tx.pH l r);have N1:=Hq (@Tx.dJ l r);have N2:=Hq (@Tx.kG l r);have N3:=Hq (fun i=> @Tx.kH l r i);have N4:=Hq (fun i=> @Tx.kI l r i);have ae:=Hq (fun n W (hb:Bw w W)=>Tc l n (by omega) A c W (hr.below hb));have a1:=Hq (fun W (hb:Bw w W)=>Td l (by omega) A c W (hr.below hb));generalize Tx.El l r=R at*;generalize Nd R A w=Q at o K Y ⊢;clear hr;obtain⟨a,prev,u,kind,Ad,next,nu,⟨ok,os,oo,on⟩,S,root,⟨ek,ep,es⟩,ts,ds⟩:=r;dsimp only[D9,D3];obtain⟨W0,x⟩:=ex (w.alloc (.cells (Cn a prev u kind Ad next nu ok os oo on S root ek ep es (.slice AT n1 c1) (.slice AD m1 d1)) 49));have H0:=Hq (show W0.heap[w.heap.size]? =some (.cells (Cn a prev u kind Ad next nu ok os oo on S root ek ep es (.slice AT n1 c1) (.slice AD m1 d1)) 49 (0,0))from by rw[x];exact heap_alloc_new _ _);have B0:=Hq (show Bw w W0 from by rw[x];exact Ac _ _);have ar:=Aa H0.out
 by_cases T:Tx.Mq ⟨a,prev,u,kind,Ad,next,nu,⟨ok,os,oo,on⟩,S,root,⟨ek,ep,es⟩,ts,ds⟩
 rotate_left
 ·have HS:=Hq (N0.out T)
  unfold Tx.Mq at T;simp only at T;clear N0 N1 N2 N3 N4 ae a1 K Y HR
  by_cases h1:u<1
  ·go_enter Tryz.func242,Tryz.ntmps242
   go_upto_region 1 with fail;rw[← x];clear x;go_wp2_with fail;exact o.out _ HS.out B0.out
  by_cases h2:kind<1
  ·go_enter Tryz.func242,Tryz.ntmps242
   go_upto_region 1 with fail;rw[← x];clear x;go_wp2_with fail;exact o.out _ HS.out B0.out
  by_cases h3:kind=8
  ·have b0:(kind==8)=true:=by simpa using h3
   clear T h3;go_enter Tryz.func242,Tryz.ntmps242;go_upto_region 1 with fail;rw[← x];clear x;go_wp2_with fail;exact o.out _ HS.out B0.out
  ·have b0:(kind==8)=false:=by simpa using h3
   have h4:9≤kind:=(by omega);clear T h3;go_enter Tryz.func242,Tryz.ntmps242;go_upto_region 1 with fail;rw[← x];clear x;go_wp2_with fail;exact o.out _ HS.out B0.out
 have af:=Hq T;unfold Tx.Mq at T;simp only at T;have h1:¬ u<1:=by omega
 have h2:¬ kind<1:=by omega
 have h3:(kind==8)=false:=by simp;omega
 have h4:¬ 9≤kind:=by omega
 have au:=Hq (show 1≤kind∧kind≤7 from T.2);have C:=ae.out u W0 B0.out;unfold F4 at C;clear N0 T
 cases hp:Tx.Cv l u with
 |none=>
  rw[hp]at C;simp only[Tx.Oh]at C
  by_cases I:kind=7
  ·have HS:=Hq (N1.out af.out hp I)
   have ag:(kind==7)=true:=(by simpa using I);clear N1 N2 N3 N4 ae a1 K Y HR hp I;go_enter Tryz.func242,Tryz.ntmps242;go_upto_region 1 with fail;rw[← x];clear x
   go_upto_region 4 with(go_at_call 195;(with_reducible refine C.mono ?_);rintro e w1 ⟨rfl,q⟩;have a6:=Aa (Af H0.out q))
   have H1:=Hq (Af H0.out q);have B1:=Hq (Ag B0.out q);clear q a6 ar;have ah:=Aa H1.out;go_wp2_with fail;exact o.out _ HS.out B1.out
  ·have D:=Hq (N2.out af.out hp I)
   have ag:(kind==7)=false:=(by simpa using I);clear N1 N2 N3 N4 ae Y HR hp o;go_enter Tryz.func242,Tryz.ntmps242;go_upto_region 1 with fail;rw[← x];clear x
   go_upto_region 4 with(go_at_call 195;(with_reducible refine C.mono ?_);rintro e w1 ⟨rfl,q⟩;have a6:=Aa (Af H0.out q))
   have H1:=Hq (Af H0.out q);have B1:=Hq (Ag B0.out q);clear q a6 ar;have ah:=Aa H1.out;have O:=a1.out w1 B1.out;clear a1;have b1:(l.length:Int)<((l.length+1:Nat):Int):=by omega
   go_upto_region 12 with(first
    |(go_at_call 81;(with_reducible refine O.mono ?_);rintro e w2 ⟨v2,rfl,U,V⟩;obtain⟨A2,c2,rfl⟩:=E1 U;have H2:=Hq (Af H1.out V);have b2:=Aa H2.out;have b3:=V.size)
    |(at_builtin;refine Hz Kr (.tmp 48) (.tmp 52) 34 59 dI Xc rfl (by omega) (by omega) rfl w1.heap.size _ l.length (l.flatMap F6) rfl (Bg U (Ac w2 _)) w2.heap.size (F6 ⟨u,0,0,false⟩) 59 rfl (heap_alloc_new w2 _) rfl (fY _) (by omega) (by simp;omega) ?_;intro v3 w3 a7 b4 ai))
   have aj:w.heap.size+1≤w1.heap.size:=(by have:=Bt H1.out;omega);have HX:=Hq (show w3.heap[w.heap.size]? =some (.cells (Cn a prev u kind Ad next nu ok os oo on S root ek ep es (.slice AT n1 c1) (.slice AD m1 d1)) 49 (0,0))from(ai.block _ (by omega)).trans (Af H2.out (Ac w2 _)));have HB:=Hq (show Bw w w3 from((B1.out.trans (V.mono (by omega))).trans ((Ac w2 _).mono (by omega))).trans (ai.mono (by omega)));obtain⟨g,cap,rfl,ak⟩:=J3 a7 (by omega);have ax:w.heap.size+1≤g:=(by omega);obtain⟨L,hL⟩:∃ L:List Rc.Be,L=l++[⟨u,0,0,false⟩]:=⟨_,rfl⟩;have ay:l.flatMap F6++F6 ⟨u,0,0,false⟩=L.flatMap F6:=(by rw[hL,List.flatMap_append];simp);rw[ay]at a7;obtain⟨N,hN⟩:=ex (l.length+1);rw[← hN]at a7;rw[← hN];obtain⟨k,hk⟩:=ex l.length;rw[← hk];have HO:=Hq (On a7 aj);have Z:=Hq (show L.length=N from by rw[hL,hN,List.length_append,List.length_singleton]);have al:k<L.length:=(by rw[hL,hk,List.length_append,List.length_singleton];omega);have P:=Hq (show R=L.set k (Tx.O7 ⟨a,prev,u,kind,Ad,next,nu,⟨ok,os,oo,on⟩,S,root,⟨ek,ep,es⟩,ts,ds⟩ L[k])from by
    have e:L[k]=⟨u,0,0,false⟩:=(by subst hL hk;simp);rw[e,hL,hk];exact D.out)
   clear D;have D:=P;clear P hL ay hN hk a7 b4 ai U V b2 b3 ah H2 H1 B1 aj b1 ak B0 H0 O C;obtain⟨W,a8⟩:=ex w3;rw[← a8]at HX HB HO;rw[← a8];clear a8;obtain⟨t,ht⟩:=ex (L[k]);obtain⟨z,tl,X,E⟩:=t;obtain⟨s1,s2,s3⟩:=Fe HO.out Z.out k al 1 (by omega) (.int .i64 a) ⟨z,a,X,E⟩ (by rw[← ht];rfl);rw[← ht]at s1;simp only[F6]at s1;have HT:=Hq ht;have F:=Hq s3;have av:=Aa HX.out;have an:w.heap.size≠g:=(by omega);have ao:=Z.out;rw[ao]at al;have b5:(k:Int)<(N:Int):=(by omega);have b6:(0:Int)≤(k:Int):=(by omega);clear ht s3 ao;go_upto_region 14 with fail;have aq:=Hq (show(W.setCell ⟨g,k*4+1,none⟩ (.int .i64 a)).heap[w.heap.size]? =some (.cells (Cn a prev u kind Ad next nu ok os oo on S root ek ep es (.slice AT n1 c1) (.slice AD m1 d1)) 49 (0,0))from(Below.heap_setCell _ _ _ _ an).trans HX.out);have G:=Hq (HB.out.trans ((Below.refl w.heap.size W).setCell (p:=⟨g,k*4+1,none⟩) (by show w.heap.size≤g;omega) (.int .i64 a)));obtain⟨W2,aa⟩:=ex (W.setCell ⟨g,k*4+1,none⟩ (.int .i64 a));rw[← aa]at aq G F;rw[← aa];clear aa HX HB HO av s1 s2;have az:=Aa aq.out;have j:=Hq (show(L.set k ⟨z,a,X,E⟩).length=N from by rw[List.length_set];exact Z.out);have J:=Hq (show k<(L.set k ⟨z,a,X,E⟩).length from by have:=j.out;omega);have b:∀ y,(L.set k ⟨z,a,X,E⟩).set k y=L.set k y:=fun y=>List.set_set ..;have f:=Hq (show(L.set k ⟨z,a,X,E⟩)[k]'J.out=⟨z,a,X,E⟩from by simp);have m:=Hq (fun y w' (hy:y=Tx.O7 ⟨a,prev,u,kind,Ad,next,nu,⟨ok,os,oo,on⟩,S,root,⟨ek,ep,es⟩,ts,ds⟩ ⟨z,tl,X,E⟩) (ho:w'.ownsRow (w.heap.size+1) 59 4 (.slice (some ⟨g,0,none⟩) N cap) N ((L.set k y).flatMap F6)) (hb:Bw w w')=>K.out (L.set k y) g N cap (w.heap.size+1) w' (by rw[hy,HT.out];exact D.out) ho (by rw[List.length_set];exact Z.out) (by omega) hb);clear D K HT;have aw:kind=1∨kind=2∨kind=3∨kind=4∨kind=5∨kind=6:=(by have:=au.out;omega);clear au h2 h3 h4 I af;rcases aw with rfl|rfl|rfl|rfl|rfl|rfl
   ·obtain⟨H,u2,s⟩:=Fe F.out j.out k J.out 2 (by omega) (.int .i64 a) ⟨z,a,a,E⟩ (by rw[f.out];rfl)
    rw[f.out]at H;simp only[F6]at H;rw[b]at s;have d:=Hq (m.out ⟨z,a,a,E⟩ _ rfl s (G.out.trans ((Below.refl w.heap.size W2).setCell (p:=⟨g,k*4+2,none⟩) (by show w.heap.size≤g;omega) (.int .i64 a))));clear s b;go_wp2_with fail;exact d.out
   ·obtain⟨H,u2,s⟩:=Fe F.out j.out k J.out 2 (by omega) (.int .i64 a) ⟨z,a,a,E⟩ (by rw[f.out];rfl)
    rw[f.out]at H;simp only[F6]at H;rw[b]at s;have d:=Hq (m.out ⟨z,a,a,E⟩ _ rfl s (G.out.trans ((Below.refl w.heap.size W2).setCell (p:=⟨g,k*4+2,none⟩) (by show w.heap.size≤g;omega) (.int .i64 a))));clear s b;go_wp2_with fail;exact d.out
   ·obtain⟨H,u2,s⟩:=Fe F.out j.out k J.out 2 (by omega) (.int .i64 next) ⟨z,a,next,E⟩ (by rw[f.out];rfl)
    rw[f.out]at H;simp only[F6]at H;rw[b]at s;have d:=Hq (m.out ⟨z,a,next,E⟩ _ rfl s (G.out.trans ((Below.refl w.heap.size W2).setCell (p:=⟨g,k*4+2,none⟩) (by show w.heap.size≤g;omega) (.int .i64 next))));clear s b;go_wp2_with fail;exact d.out
   ·obtain⟨H,u2,s⟩:=Fe F.out j.out k J.out 2 (by omega) (.int .i64 next) ⟨z,a,next,E⟩ (by rw[f.out];rfl)
    rw[f.out]at H;simp only[F6]at H;rw[b]at s;have d:=Hq (m.out ⟨z,a,next,E⟩ _ rfl s (G.out.trans ((Below.refl w.heap.size W2).setCell (p:=⟨g,k*4+2,none⟩) (by show w.heap.size≤g;omega) (.int .i64 next))));clear s b;go_wp2_with fail;exact d.out
   ·obtain⟨H,u2,s⟩:=Fe F.out j.out k J.out 3 (by omega) (.bool true) ⟨z,a,X,true⟩ (by rw[f.out];rfl)
    rw[f.out]at H;simp only[F6]at H;rw[b]at s;have d:=Hq (m.out ⟨z,a,X,true⟩ _ rfl s (G.out.trans ((Below.refl w.heap.size W2).setCell (p:=⟨g,k*4+3,none⟩) (by show w.heap.size≤g;omega) (.bool true))));clear s b;go_wp2_with fail;exact d.out
   ·have d:=Hq (m.out ⟨z,a,X,E⟩ _ rfl F.out G.out)
    clear b;go_wp2_with fail;exact d.out
 |some i=>
  rw[hp]at C;simp only[Tx.Oh]at C;obtain⟨hi,-⟩:=Tx.F3 hp;have b7:¬ (i:Int)<0:=by omega
  by_cases I:kind=7
  ·have HS:=Hq (N3.out i af.out hp I)
   have ag:(kind==7)=true:=(by simpa using I);clear N1 N2 N3 N4 ae K HR hp I o;go_enter Tryz.func242,Tryz.ntmps242;go_upto_region 1 with fail;rw[← x];clear x
   go_upto_region 4 with(go_at_call 195;(with_reducible refine C.mono ?_);rintro e w1 ⟨rfl,q⟩;have a6:=Aa (Af H0.out q))
   have H1:=Hq (Af H0.out q);have B1:=Hq (Ag B0.out q);clear q a6 ar;have ah:=Aa H1.out;have O:=a1.out w1 B1.out;clear a1;have b8:IntKind.i64.wrap ((i:Int)+1)=(i:Int)+1:=IntWalk.i64_in _ (by omega)
   go_wp2_with(first
    |(go_at_call 81;(with_reducible refine O.mono ?_);rintro e w2 ⟨v2,rfl,U,V⟩;obtain⟨g,cap,rfl,ax⟩:=J3 U (by omega);have HD:=Hq (Z8 l (by omega) i hi w1.heap.size g cap w2 U))
    |(go_at_call 276;(with_reducible refine HD.out.mono ?_);rintro e w3 ⟨v3,rfl,a7,ai⟩))
   exact Y.out _ _ _ _ HS.out a7 B1.out.size ((B1.out.trans (V.mono B1.out.size)).trans (ai.mono B1.out.size))
  ·have D:=Hq (N4.out i af.out hp I hi)
   have ag:(kind==7)=false:=(by simpa using I);clear N1 N2 N3 N4 ae Y HR hp o;go_enter Tryz.func242,Tryz.ntmps242;go_upto_region 1 with fail;rw[← x];clear x
   go_upto_region 4 with(go_at_call 195;(with_reducible refine C.mono ?_);rintro e w1 ⟨rfl,q⟩;have a6:=Aa (Af H0.out q))
   have H1:=Hq (Af H0.out q);have B1:=Hq (Ag B0.out q);clear q a6 ar;have ah:=Aa H1.out;have O:=a1.out w1 B1.out;clear a1
   go_upto_region 12 with(go_at_call 81;(with_reducible refine O.mono ?_);rintro e w2 ⟨v2,rfl,U,V⟩)
   have aj:w.heap.size+1≤w1.heap.size:=(by have:=Bt H1.out;omega);have HX:=Hq (Af H1.out V);have HB:=Hq (show Bw w w2 from B1.out.trans (V.mono (by omega)));obtain⟨g,cap,rfl,ak⟩:=J3 U (by omega);have ax:w.heap.size+1≤g:=(by omega);have ad:=On U aj;obtain⟨L,hL⟩:∃ L:List Rc.Be,L=l:=⟨_,rfl⟩;obtain⟨N,hN⟩:=ex l.length;obtain⟨k,hk⟩:=ex i;rw[← hN]at ad;rw[← hN];rw[← hL]at ad;rw[← hk];have HO:=Hq ad;have Z:=Hq (show L.length=N from by rw[hL,hN]);have al:k<L.length:=(by rw[hL,hk];exact hi);have P:=Hq (show R=L.set k (Tx.O7 ⟨a,prev,u,kind,Ad,next,nu,⟨ok,os,oo,on⟩,S,root,⟨ek,ep,es⟩,ts,ds⟩ L[k])from by
    subst hL hk;exact D.out)
   clear D;have D:=P;clear P hL hN hk U ad V ah H1 B1 aj ak B0 H0 O C hi b7;obtain⟨W,a8⟩:=ex w2;rw[← a8]at HX HB HO;rw[← a8];clear a8;obtain⟨t,ht⟩:=ex (L[k]);obtain⟨z,tl,X,E⟩:=t;obtain⟨s1,s2,s3⟩:=Fe HO.out Z.out k al 1 (by omega) (.int .i64 a) ⟨z,a,X,E⟩ (by rw[← ht];rfl);rw[← ht]at s1;simp only[F6]at s1;have HT:=Hq ht;have F:=Hq s3;have av:=Aa HX.out;have an:w.heap.size≠g:=(by omega);have ao:=Z.out;rw[ao]at al;have b5:(k:Int)<(N:Int):=(by omega);have b6:(0:Int)≤(k:Int):=(by omega);clear ht s3 ao;go_upto_region 14 with fail;have aq:=Hq (show(W.setCell ⟨g,k*4+1,none⟩ (.int .i64 a)).heap[w.heap.size]? =some (.cells (Cn a prev u kind Ad next nu ok os oo on S root ek ep es (.slice AT n1 c1) (.slice AD m1 d1)) 49 (0,0))from(Below.heap_setCell _ _ _ _ an).trans HX.out);have G:=Hq (HB.out.trans ((Below.refl w.heap.size W).setCell (p:=⟨g,k*4+1,none⟩) (by show w.heap.size≤g;omega) (.int .i64 a)));obtain⟨W2,aa⟩:=ex (W.setCell ⟨g,k*4+1,none⟩ (.int .i64 a));rw[← aa]at aq G F;rw[← aa];clear aa HX HB HO av s1 s2;have az:=Aa aq.out;have j:=Hq (show(L.set k ⟨z,a,X,E⟩).length=N from by rw[List.length_set];exact Z.out);have J:=Hq (show k<(L.set k ⟨z,a,X,E⟩).length from by have:=j.out;omega);have b:∀ y,(L.set k ⟨z,a,X,E⟩).set k y=L.set k y:=fun y=>List.set_set ..;have f:=Hq (show(L.set k ⟨z,a,X,E⟩)[k]'J.out=⟨z,a,X,E⟩from by simp);have m:=Hq (fun y w' (hy:y=Tx.O7 ⟨a,prev,u,kind,Ad,next,nu,⟨ok,os,oo,on⟩,S,root,⟨ek,ep,es⟩,ts,ds⟩ ⟨z,tl,X,E⟩) (ho:w'.ownsRow (w.heap.size+1) 59 4 (.slice (some ⟨g,0,none⟩) N cap) N ((L.set k y).flatMap F6)) (hb:Bw w w')=>K.out (L.set k y) g N cap (w.heap.size+1) w' (by rw[hy,HT.out];exact D.out) ho (by rw[List.length_set];exact Z.out) (by omega) hb);clear D K HT;have aw:kind=1∨kind=2∨kind=3∨kind=4∨kind=5∨kind=6:=(by have:=au.out;omega);clear au h2 h3 h4 I af;rcases aw with rfl|rfl|rfl|rfl|rfl|rfl
   ·obtain⟨H,u2,s⟩:=Fe F.out j.out k J.out 2 (by omega) (.int .i64 a) ⟨z,a,a,E⟩ (by rw[f.out];rfl)
    rw[f.out]at H;simp only[F6]at H;rw[b]at s;have d:=Hq (m.out ⟨z,a,a,E⟩ _ rfl s (G.out.trans ((Below.refl w.heap.size W2).setCell (p:=⟨g,k*4+2,none⟩) (by show w.heap.size≤g;omega) (.int .i64 a))));clear s b;go_wp2_with fail;exact d.out
   ·obtain⟨H,u2,s⟩:=Fe F.out j.out k J.out 2 (by omega) (.int .i64 a) ⟨z,a,a,E⟩ (by rw[f.out];rfl)
    rw[f.out]at H;simp only[F6]at H;rw[b]at s;have d:=Hq (m.out ⟨z,a,a,E⟩ _ rfl s (G.out.trans ((Below.refl w.heap.size W2).setCell (p:=⟨g,k*4+2,none⟩) (by show w.heap.size≤g;omega) (.int .i64 a))));clear s b;go_wp2_with fail;exact d.out
   ·obtain⟨H,u2,s⟩:=Fe F.out j.out k J.out 2 (by omega) (.int .i64 next) ⟨z,a,next,E⟩ (by rw[f.out];rfl)
    rw[f.out]at H;simp only[F6]at H;rw[b]at s;have d:=Hq (m.out ⟨z,a,next,E⟩ _ rfl s (G.out.trans ((Below.refl w.heap.size W2).setCell (p:=⟨g,k*4+2,none⟩) (by show w.heap.size≤g;omega) (.int .i64 next))));clear s b;go_wp2_with fail;exact d.out
   ·obtain⟨H,u2,s⟩:=Fe F.out j.out k J.out 2 (by omega) (.int .i64 next) ⟨z,a,next,E⟩ (by rw[f.out];rfl)
    rw[f.out]at H;simp only[F6]at H;rw[b]at s;have d:=Hq (m.out ⟨z,a,next,E⟩ _ rfl s (G.out.trans ((Below.refl w.heap.size W2).setCell (p:=⟨g,k*4+2,none⟩) (by show w.heap.size≤g;omega) (.int .i64 next))));clear s b;go_wp2_with fail;exact d.out
   ·obtain⟨H,u2,s⟩:=Fe F.out j.out k J.out 3 (by omega) (.bool true) ⟨z,a,X,true⟩ (by rw[f.out];rfl)
    rw[f.out]at H;simp only[F6]at H;rw[b]at s;have d:=Hq (m.out ⟨z,a,X,true⟩ _ rfl s (G.out.trans ((Below.refl w.heap.size W2).setCell (p:=⟨g,k*4+3,none⟩) (by show w.heap.size≤g;omega) (.bool true))));clear s b;go_wp2_with fail;exact d.out
   ·have d:=Hq (m.out ⟨z,a,X,E⟩ _ rfl F.out G.out)
    clear b;go_wp2_with fail;exact d.out
end Go.Proofs.YtmfkhdhnbkambaaGreatDoor
namespace Tx
theorem Te {s:St}{n:Int}(h:Cv s.txns n=none):Ha s n=(⟨0,0,0,false⟩,false):=by unfold Ha;rw[h]
theorem Oi {s:St}{n:Int}{i:Nat}(h:Cv s.txns n=some i)(hi:i<s.txns.length):Ha s n=(s.txns[i],true):=by unfold Ha;rw[h];simp only;rw[List.getElem?_eq_getElem hi,Option.getD_some]
end Tx
namespace Go.Proofs.YtmfkhdhnbkambaaGreatDoor
open Go.RowKit
theorem pJ {P:Program}{ops:Array Oper}{rest:List Oper}{op:Oper}{a:Act}{w:World}{Q:Exit→Act→World→Prop}(e:Region.wanted op (yielded ops a.tmps)=true)(ty:TypeId)(x:Operand)(f:op.op= .load ty x)
 (b o:Nat) (g:a.eval x= .pointer (some ⟨b,o,none⟩)) (part cells:Array Value) (t:TypeId) (i:w.heap[b]? =some (.cells cells t (0,0))) (k:(cells.toList.drop o).take part.size=part.toList) (d:TypeDesc)
 (l:P.underlying ty=some d) (m:d.isRow=true) (hi:(P.info? ty).map (·.size)=some part.size)
 (h:wpList P ops Q rest (a.put op.dst (.agg part)) w):wpList P ops Q (op::rest) a w:=
 Da e fun K n=>by
  refine wp_load_mid ty x f b o g part.toList d (fun j v c=>?_) l m (by simpa using hi) ?_
  ·rw[Aa i]
   have p:j<part.size:=(by have:=(List.getElem?_eq_some_iff.1 c).1;simpa using this);rw[← k,List.getElem?_take,if_pos p,List.getElem?_drop,Array.getElem?_toList]at c;exact c
  ·simpa using n _ _ h
theorem lP {P:Program}{ops:Array Oper}{rest:List Oper}{op:Oper}{a:Act}{w:World}{Q:Exit→Act→World→Prop}{ty:TypeId}{x:Operand}{b o:Nat}(part:Array Value){cells:Array Value}{t:TypeId}{d:TypeDesc}(c:w.heap[b]? =some (.cells cells t (0,0)))(e:P.underlying ty=some d)(h:wpList P ops Q rest (a.put op.dst (.agg part)) w)(f:op.op= .load ty x:=by exact rfl)(g:a.eval x= .pointer (some ⟨b,o,none⟩):=by with_unfolding_all exact rfl)(i:Region.wanted op (yielded ops a.tmps)=true:=by kernel_rfl)(j:(cells.toList.drop o).take part.size=part.toList:=by kernel_rfl)(k:d.isRow=true:=by kernel_rfl)(hi:(P.info? ty).map (·.size)=some part.size:=by kernel_rfl):wpList P ops Q (op::rest) a w:=pJ i ty x f b o g part cells t c j d e k hi h
theorem sO {P:Program}{ops:Array Oper}{rest:List Oper}{op:Oper}{a:Act}{w:World}{Q:Exit→Act→World→Prop}(g:Region.wanted op (yielded ops a.tmps)=true)(ty:TypeId)(x y:Operand)(j:op.op= .store ty x y)
 (b o:Nat) (part cur res:Array Value) (t:TypeId) (k:a.eval x= .pointer (some ⟨b,o,none⟩)) (hy:a.eval y= .agg part) (l:w.heap[b]? =some (.cells cur t (0,0))) (m:res=(cur.toList.take o++part.toList++cur.toList.drop (o+part.toList.length)).toArray)
 (e:decide (o+part.toList.length≤cur.size)=true) (hi:(P.info? ty).map (·.size)=some part.size) (n:part.all (·.oneCell')=true) (h:wpList P ops Q rest (a.put op.dst undef) (w.setRow b res)):wpList P ops Q (op::rest) a w:=
 Da g fun K p=>by
  have c:=run_storeCells_at P b o t part.toList 0 cur w l (by rw[Nat.add_zero];exact of_decide_eq_true e) (fun v q=>(Array.all_eq_true_iff_forall_mem.1 n) v (by simpa using q));rw[Nat.add_zero,← m]at c;have d:(storeVar ty ⟨b,o,none⟩ (.agg part)).run P w= .ok () (w.setRow b res):=by
   cases f:P.info? ty with
   |none=>simp[f]at hi
   |some i=>
    have r:part.size=i.size:=by simp[f]at hi;omega
    simp[storeVar,sizeOf,typeInfo,f,Value.cells,r,c]
  unfold Oper.wp execOp;simp only[j,k,hy,Instr.storeAt,Instr.sureAddr,Sem.run_bind,Sem.run_pure,Result.andThen_ok,d];exact p _ _ h
theorem lU {P:Program}{ops:Array Oper}{rest:List Oper}{op:Oper}{a:Act}{w:World}{Q:Exit→Act→World→Prop}{ty:TypeId}{x y:Operand}{b o:Nat}(part:Array Value){cur:Array Value}(res:Array Value){t:TypeId}(c:w.heap[b]? =some (.cells cur t (0,0)))(h:wpList P ops Q rest (a.put op.dst undef) (w.setRow b res))(d:op.op= .store ty x y:=by exact rfl)(e:a.eval x= .pointer (some ⟨b,o,none⟩):=by with_unfolding_all exact rfl)(hy:a.eval y= .agg part:=by with_unfolding_all exact rfl)(f:Region.wanted op (yielded ops a.tmps)=true:=by kernel_rfl)(g:res=(cur.toList.take o++part.toList++cur.toList.drop (o+part.toList.length)).toArray:=by kernel_rfl)(i:decide (o+part.toList.length≤cur.size)=true:=by kernel_rfl)(hi:(P.info? ty).map (·.size)=some part.size:=by kernel_rfl)(j:part.all (·.oneCell')=true:=by kernel_rfl):wpList P ops Q (op::rest) a w:=sO f ty x y d b o part cur res t e hy c g i hi j h
structure SP where
 A:Option Addr
 c:Nat
 F:Option Addr
 fn:Nat
 fc:Nat
 T:Option Addr
 tc:Nat
abbrev Ah (s:Tx.St)(p:SP):Value:=.agg #[s.zlog,s.zpages,s.zframes,.slice p.A s.Az.sectors.length p.c,s.Az.left,s.Az.down,s.log.from_,s.log.n,s.log.end_,s.log.safe,s.log.tail,.slice p.F p.fn p.fc,s.hand,.slice p.T s.txns.length p.tc,s.next]
structure Ei (w:World) (s:Tx.St) (p:SP):Prop where
 dk:Dd w s.Az p.A p.c
 dt:De 0 w 9 p.A
 tx:Xx w p.T p.tc s.txns
 tt:De 0 w 59 p.T
theorem Ei.below {w w':World}{s:Tx.St}{p:SP}(h:Ei w s p)(a:Bw w w'):Ei w' s p:=⟨h.dk.below a,h.dt.below a,h.tx.below a,h.tt.below a⟩
theorem Ei.other {w:World}{s:Tx.St}{p:SP}(h:Ei w s p){b:Nat}{cur:Array Value}{t:TypeId}{fr:Nat×Nat}(a:w.heap[b]? =some (.cells cur t fr))(c:t≠9)(d:t≠59)(cs:Array Value):Ei (w.setRow b cs) s p:=
 ⟨⟨h.dt.Ia h.dk.secs a c cs,h.dk.small⟩,h.dt.row b cs,h.tt.Ia h.tx a d cs,h.tt.row b cs⟩
theorem Ei.set {w:World}{s:Tx.St}{p:SP}(h:Ei w s p){b:Nat}{cur:Array Value}{t:TypeId}{fr:Nat×Nat}(a:w.heap[b]? =some (.cells cur t fr))(c:t≠9)(d:t≠59)(j:Nat)(v:Value):Ei (w.setCell ⟨b,j,none⟩ v) s p:=by
 rw[setCell_eq_setRow w b j cur t fr v a];exact h.other a c d _
theorem O9 (r:Rc.Rec)(w:World)(a:r.txns=[])(b:r.dirty=[]):Ig w r none 0 none 0:=by
 refine⟨?_,?_,by rw[a,b];exact⟨Nat.zero_le _,Nat.zero_le _⟩⟩
 ·rw[a];exact Reads.none_ _ _ _ _
 ·rw[b];exact Reads.none_ _ _ _ _
theorem Vc (s:Tx.St)(p:SP)(n:Int)(J:s.txns.length≤800000)(w:World)(h:Ei w s p):
 Cr 154 #[Ah s p,n] w (.tuple #[wQ (Tx.Ha s n).1,.bool (Tx.Ha s n).2]):=by
 have d:=fun W (hb:Bw w W)=>Tc s.txns n (by omega) p.T p.tc W (h.tx.below hb);have q:=Hq h.tx;clear h;obtain⟨t,u,y,⟨L,z,B⟩,⟨C,D,E,F,G⟩,H,k,I⟩:=s;obtain⟨A,c,V,fn,X,TA,Y⟩:=p;simp only at d q J;dsimp only[Ah]
 cases o:Tx.Cv k n with
 |none=>
  rw[Tx.Te (s:=⟨t,u,y,⟨L,z,B⟩,⟨C,D,E,F,G⟩,H,k,I⟩) o];rw[o]at d;unfold F4 at d;simp only[Tx.Oh]at d;have K:=Hq d;clear d;go_enter Tryz.func154,Tryz.ntmps154;go_upto_region 1 with fail;have f:=Lx w #[t,u,y,.slice A L.length c,z,B,C,D,E,F,G,.slice V fn X,H,.slice TA k.length Y,I] 36 #[(),(),(),false] 59;obtain⟨W0,g⟩:=E0 f;rw[← g]at f ⊢;clear g;have M:=Aa f.out.Ao
  go_wp2_with(first
   |(go_at_call 195;(with_reducible refine(K.out _ f.out.below).mono ?_);rintro e Z ⟨rfl,l⟩;have H1:=Hq (f.out.step l))
   |with_reducible refine lS #[(),(),(),false] H1.out.Aq ?_)
  refine rT2 false H1.out.Aq oH ?_;exact⟨rfl,(H1.out.row 1 _ _ rfl).below⟩
 |some i=>
  obtain⟨N,-⟩:=Tx.F3 o;rw[Tx.Oi (s:=⟨t,u,y,⟨L,z,B⟩,⟨C,D,E,F,G⟩,H,k,I⟩) o N];simp only;rw[o]at d;unfold F4 at d;simp only[Tx.Oh]at d;have K:=Hq d;clear d;have a1:(0:Int)≤(i:Int):=by omega
  have a6:(i:Int)<(k.length:Int):=by omega
  obtain⟨b,off,rfl,a7,O,a⟩:=Bz Dr q.out N;generalize k[i]=x at a ⊢;obtain⟨P,Q,R,S⟩:=x;have m:=Hq a;clear a o N;go_enter Tryz.func154,Tryz.ntmps154;go_upto_region 1 with fail;have f:=Lx w #[t,u,y,.slice A L.length c,z,B,C,D,E,F,G,.slice V fn X,H,.slice (some ⟨b,off,none⟩) k.length Y,I] 36 #[(),(),(),false] 59;obtain⟨W0,g⟩:=E0 f;rw[← g]at f ⊢;clear g;have M:=Aa f.out.Ao
  go_wp2_with(first
   |(go_at_call 195;(with_reducible refine(K.out _ f.out.below).mono ?_);rintro e Z ⟨rfl,l⟩;have H1:=Hq (f.out.step l);have a8:=Aa H1.out.Ao;have r:Z.rangeAt b (off+i*4) [.int .i64 P,.int .i64 Q,.int .i64 R,.bool S]:=fun j v hj=>(by rw[H1.out.below.cell (p:=⟨b,off+i*4+j,none⟩) O];exact m.out j v hj);have U:=Hq r;clear r)
   |with_reducible refine wpList_load_mid rfl 59 (.tmp 16) rfl b (off+i*4) rfl [.int .i64 P,.int .i64 Q,.int .i64 R,.bool S] _ U.out oH Kr Kr ?_
   |with_reducible refine lS #[P,Q,R,S] H1.out.Aq ?_)
  refine rT2 true H1.out.Aq oH ?_;exact⟨rfl,(H1.out.row 1 _ _ rfl).below⟩
theorem kK (s:Tx.St)(p:SP)(n:Int)(f:s.txns.length≤800000)(w:World)(h:Ei w s p):
 Cr 112 #[Ah s p,n] w (.int .i64 (Tx.Zz s n)):=by
 have g:=Hq (fun W (m:Bw w W)=>Vc s p n f W (h.below m));unfold Tx.Zz;generalize Tx.Ha s n=x at g ⊢;obtain⟨⟨i,j,k,l⟩,ok⟩:=x;clear h;obtain⟨q,r,t,⟨L,u,v⟩,⟨y,z,B,C,D⟩,E,F,G⟩:=s;obtain⟨A,c,H,fn,I,J,K⟩:=p;dsimp only[Ah]at g ⊢;go_enter Tryz.func112,Tryz.ntmps112;go_upto_region 1 with fail;have a:=bP w #[q,r,t,.slice A L.length c,u,v,y,z,B,C,D,.slice H fn I,E,.slice J F.length K,G] 36;obtain⟨P,b⟩:=E0 a;rw[← b]at a ⊢;clear b
 go_upto_region 2 with(first
  |with_reducible refine lL a.out.Ao Ar ?_
  |(go_at_call 154;(with_reducible refine(g.out _ a.out.below).mono ?_);rintro e M ⟨rfl,d⟩)
  |with_reducible refine sN #[i,j,k,l] ?_)
 have N:=Aa (heap_alloc_new M (.cells #[i,j,k,l] 59));have O:=Hq (Ag a.out.below (Aj (o:=.cells #[i,j,k,l] 59) d));clear d;go_wp2_with fail;go_ret;exact⟨rfl,O.out⟩
end Go.Proofs.YtmfkhdhnbkambaaGreatDoor
namespace Lg
open Rc
structure Al (l:Lo):Prop where
 s0:0≤l.safe
 se:l.safe≤l.end_
 tl:l.end_-(l.tail.size:Int)=l.safe-l.safe%128
theorem Al.first {l:Lo}(h:Al l):Fk l=l.safe/128:=by
 have b:=h.s0;have a:=h.tl;unfold Fk;rw[a];omega
end Lg
namespace Tx
open Rc Lg
theorem kL {l:Lo}(r:Rec)(h:Al l):Al (As l r).1:=by
 have d:=h.s0;have g:=h.se;have i:=h.tl
 by_cases a:Bu {r with lsn:=l.end_+1}
 ·by_cases c:l.n*128-((D5 {r with lsn:=l.end_+1}).length:Int)<l.end_
  ·unfold As
   simp only;rw[if_neg (fun b=>b a),if_pos c];exact h
  ·have e:(As l r).1={l with end_:=l.end_+((D5 {r with lsn:=l.end_+1}).length:Int),tail:=l.tail++⟨(D5 {r with lsn:=l.end_+1}).toArray⟩}:=by
    unfold As;simp only;rw[if_neg (fun b=>b a),if_neg c]
   rw[e];have f:(⟨(D5 {r with lsn:=l.end_+1}).toArray⟩:ByteArray).size=(D5 {r with lsn:=l.end_+1}).length:=(by show(D5 {r with lsn:=l.end_+1}).toArray.size=_;simp);refine⟨d,?_,?_⟩
   ·show l.safe≤l.end_+((D5 {r with lsn:=l.end_+1}).length:Int);omega
   ·show l.end_+((D5 {r with lsn:=l.end_+1}).length:Int)-((l.tail++⟨(D5 {r with lsn:=l.end_+1}).toArray⟩).size:Int)=l.safe-l.safe%128
    rw[ByteArray.size_append,f];omega
 ·unfold As
  simp only;rw[if_pos a];exact h
end Tx
namespace Go.Proofs.YtmfkhdhnbkambaaGreatDoor
open Go.RowKit
abbrev Ak (s:Tx.St)(p:SP):Array Value:=#[s.zlog,s.zpages,s.zframes,.slice p.A s.Az.sectors.length p.c,s.Az.left,s.Az.down,s.log.from_,s.log.n,s.log.end_,s.log.safe,s.log.tail,.slice p.F p.fn p.fc,s.hand,.slice p.T s.txns.length p.tc,s.next]
structure Fr where
 Ad:Int
 bytes:ByteArray
 pins:Int
 mark:Bool
 rc:Int
def Kw (f:Fr):List Value:=[.int .i64 f.Ad,.string f.bytes,.int .i64 f.pins,.bool f.mark,.int .i64 f.rc]
abbrev Fs (f:Fr):Array Value:=#[f.Ad,f.bytes,f.pins,f.mark,f.rc]
theorem Eb (f:Fr):(Kw f).length=5:=rfl
theorem sP (f:Fr):∀ u∈Kw f,u.oneCell'=true:=by
 intro u a;simp only[Kw,List.mem_cons,List.not_mem_nil,or_false]at a;rcases a with rfl|rfl|rfl|rfl|rfl<;>rfl
theorem gA (l:List Fr):∀ u∈l.flatMap Kw,u.oneCell'=true:=by
 intro u a;obtain⟨v,_,h⟩:=List.mem_flatMap.1 a;exact sP v u h
theorem Xe:(Tryz.prog.info? 108).map (fun i=>(i.zero,i.size,i.bytes))=some (some (.agg #[(),"",(),false,()]),5,48):=by kernel_rfl
theorem Rj:(⟨#[]⟩:ByteArray).toList=[]:=by rw[ByteArray.toList_eq]
theorem dK {b:ByteArray}(h:b≠⟨#[]⟩):¬ b.toList=[]∧(b.toList==[])=false∧(b.toList==(⟨#[]⟩:ByteArray).toList)=false:=by
 have c:¬ b.toList=[]:=fun a=>h (by
  rw[ByteArray.toList_eq]at a;obtain⟨⟨l⟩⟩:=b;simp only at a;rw[a])
 have d:(b.toList==[])=false:=by simpa using c
 exact⟨c,d,by rw[Rj];exact d⟩
theorem Ei.vD {w:World}{s:Tx.St}{p:SP}(h:Ei w s p)(F:Option Addr)(n c:Nat):Ei w s {p with F:=F,fn:=n,fc:=c}:=⟨h.dk,h.dt,h.tx,h.tt⟩
structure Am (w:World) (s:Tx.St) (p:SP) (fs:List Fr):Prop where
 st:Ei w s p
 fn:p.fn=fs.length
 fr:Reads w p.F p.fc fs.length (fs.flatMap Kw)
 ft:De 0 w 108 p.F
theorem Am.below {w w':World}{s:Tx.St}{p:SP}{fs:List Fr}(h:Am w s p fs)(a:Bw w w'):Am w' s p fs:=⟨h.st.below a,h.fn,h.fr.below a,h.ft.below a⟩
theorem Am.other {w:World}{s:Tx.St}{p:SP}{fs:List Fr}(h:Am w s p fs){b:Nat}{cur:Array Value}{t:TypeId}{fr:Nat×Nat}(a:w.heap[b]? =some (.cells cur t fr))(c:t≠9)(d:t≠59)(e:t≠108)(cs:Array Value):Am (w.setRow b cs) s p fs:=
 ⟨h.st.other a c d cs,h.fn,h.ft.Ia h.fr a e cs,h.ft.row b cs⟩
theorem Gx {B g:Nat}{w u:World}(b:B≤g)(a:Below B w u)(cs:Array Value):Below B w (u.setRow g cs):=
 ⟨a.os,a.tape,a.output,by show _≤(u.heap.modify _ _).size;have:=a.size;simpa using this,fun k hk=>by show(u.heap.modify _ _)[k]? =_;rw[Array.getElem?_modify,if_neg (by omega)];exact a.block k hk⟩
section
variable {α : Type} {enc : α → List Value} {k : Nat} {e : TypeId} {B g c : Nat} {w : World} {l : List α}
theorem Z9 (hk:∀ x,(enc x).length=k)(l:List α)(i:Nat)(hi:i<l.length)(x:α)(t:Nat):((l.set i x).flatMap enc)[t]? =if i*k≤t∧t<i*k+k then(enc x)[t-i*k]? else(l.flatMap enc)[t]? :=by
 have f:i*k+k≤l.length*k:=by have:=Nat.mul_le_mul_right k (show i+1≤l.length from hi);rwa[Nat.add_mul,Nat.one_mul]at this
 by_cases a:i*k≤t∧t<i*k+k
 ·rw[if_pos a]
  obtain⟨j,rfl⟩:∃ j,t=i*k+j:=⟨t-i*k,by omega⟩;rw[Jt hk (l.set i x) i j (by rw[List.length_set];exact hi) (by omega),List.getElem_set_self,Nat.add_sub_cancel_left]
 ·rw[if_neg a]
  by_cases g:t<l.length*k
  ·have b:0<k:=by rcases Nat.eq_zero_or_pos k with h|h;(· subst h;omega);(· exact h)
   have d:t/k<l.length:=(by rw[Nat.div_lt_iff_lt_mul b];exact g);have e:t%k<k:=Nat.mod_lt _ b;have m:t=t/k*k+t%k:=(by rw[Nat.mul_comm];exact(Nat.div_add_mod t k).symm);have c:i≠t/k:=fun h=>a (by rw[h];omega);rw[m,Jt hk (l.set i x) (t/k) (t%k) (by rw[List.length_set];exact d) e,Jt hk l (t/k) (t%k) d e,List.getElem_set_ne c]
  ·rw[List.getElem?_eq_none (by rw[Co hk,List.length_set];omega),List.getElem?_eq_none (by rw[Co hk];omega)]
theorem Xf (n:Dt enc k e B w (.slice (some ⟨g,0,none⟩) l.length c) l):∃ cur:Array Value,B≤g∧g<w.heap.size∧w.heap[g]? =some (.cells cur e (0,0))∧l.length≤c∧c≤maxLen∧cur.size=c*k∧∀ t,t<l.length*k→cur[t]? =(l.flatMap enc)[t]? :=by
 obtain⟨o,p⟩:=n;rcases p with⟨q,_⟩|⟨v,cap,cur,r,f,m,h,d,i,b⟩
 ·cases q
 injection r with a s j
 injection a with a
 injection a with a _ _
 subst a j;refine⟨cur,f,Bt m,m,h,d,i,fun t u=>?_⟩;rw[← b,List.getElem?_take,if_pos u,Array.getElem?_toList]
theorem pK {cur:Array Value}(hk:∀ x,(enc x).length=k)(b:B≤g)(d:w.heap[g]? =some (.cells cur e (0,0)))(f:l.length≤c)(i:c≤maxLen)(j:cur.size=c*k)(h:∀ t,t<l.length*k→cur[t]? =(l.flatMap enc)[t]?):Dt enc k e B w (.slice (some ⟨g,0,none⟩) l.length c) l:=by
 refine⟨Co hk l,.inr ⟨g,c,cur,rfl,b,d,f,i,j,?_⟩⟩;refine List.ext_getElem? fun t=>?_;rw[List.getElem?_take]
 by_cases a:t<l.length*k
 ·rw[if_pos a,Array.getElem?_toList,h t a]
 ·rw[if_neg a,List.getElem?_eq_none (by rw[Co hk];omega)]
theorem gB (hk:∀ x,(enc x).length=k)(n:Dt enc k e B w (.slice (some ⟨g,0,none⟩) l.length c) l)(i:Nat)(hi:i<l.length)(x:α):
 w.there g (i*k) k∧Dt enc k e B (w.setCells g (i*k) (enc x)) (.slice (some ⟨g,0,none⟩) (l.set i x).length c) (l.set i x)∧Below B w (w.setCells g (i*k) (enc x)):=by
 obtain⟨cur,d,z,b,f,o,p,q⟩:=Xf n;have r:i*k+k≤l.length*k:=by have:=Nat.mul_le_mul_right k (show i+1≤l.length from hi);rwa[Nat.add_mul,Nat.one_mul]at this
 have s:l.length*k≤c*k:=Nat.mul_le_mul_right _ f;obtain⟨m,u,v,y⟩:=Ll (enc x) (i*k) cur w b;refine⟨fun j A=>⟨by rw[Aa b,Array.getElem?_eq_getElem (by omega)];rfl,Ap b _⟩,pK hk d u (by rw[List.length_set];exact f) o (by rw[v];exact p) (fun t h=>?_),Jl d _ _ _⟩;rw[List.length_set]at h;rw[y,Z9 hk l i hi x t,hk]
 by_cases a:i*k≤t∧t<i*k+k
 ·rw[if_pos ⟨a.1,a.2,by omega⟩,if_pos a]
 ·rw[if_neg (fun h=>a ⟨h.1,h.2.1⟩),if_neg a,q t h]
end
theorem aA (s:Tx.St)(p:SP)(n:Int)(w:World):
 Cr 187 #[Ah s p,n] w (.bool (decide (0≤n∧n<s.zpages))):=by
 by_cases e:0≤n
 ·have a:decide (0≤n∧n<s.zpages)=decide (n<s.zpages):=by simp[e]
  rw[a];clear a;go_enter Tryz.func187,Tryz.ntmps187;go_upto_region 1 with fail;have c:=bP w (Ak s p) 36;obtain⟨d,b⟩:=E0 c;rw[← b]at c ⊢;clear b;have f:=show d.cell? ⟨w.heap.size,1,none⟩=some (.int .i64 s.zpages)from(by rw[Aa c.out.Ao];rfl);go_wp2_with fail;go_ret;exact⟨by simp,c.out.below⟩
 ·have a:decide (0≤n∧n<s.zpages)=false:=by simp[e]
  rw[a];clear a;go_enter Tryz.func187,Tryz.ntmps187;go_upto_region 1 with fail;have c:=bP w (Ak s p) 36;obtain⟨d,b⟩:=E0 c;rw[← b]at c ⊢;clear b;have f:=show d.cell? ⟨w.heap.size,1,none⟩=some (.int .i64 s.zpages)from(by rw[Aa c.out.Ao];rfl);go_wp2_with fail;go_ret;exact⟨by simp,c.out.below⟩
theorem dL (s:Tx.St)(p:SP)(n:Int)(g:0≤s.zlog∧s.zlog≤3000)(h:0≤n∧n≤1000)(w:World):
 Cr 227 #[Ah s p,n] w (.int .i64 (1+s.zlog+4*n)):=by
 go_enter Tryz.func227,Tryz.ntmps227;go_upto_region 1 with fail;have b:=bP w (Ak s p) 36;obtain⟨c,a⟩:=E0 b;rw[← a]at b ⊢;clear a;have i:=show c.cell? ⟨w.heap.size,0,none⟩=some (.int .i64 s.zlog)from by rw[Aa b.out.Ao];rfl
 have d:IntKind.i64.wrap (1+s.zlog)=1+s.zlog:=IntWalk.i64_in _ (by omega);have e:IntKind.i64.wrap (4*n)=4*n:=IntWalk.i64_in _ (by omega);have f:IntKind.i64.wrap (1+s.zlog+4*n)=1+s.zlog+4*n:=IntWalk.i64_in _ (by omega);go_wp2_with fail;go_ret;exact⟨rfl,b.out.below⟩
theorem gC (s:Tx.St)(p:SP)(fs:List Fr)(r:p.fn=fs.length)(J:fs.length≤100)(n:Int)(w:World)(I:Reads w p.F p.fc fs.length (fs.flatMap Kw)):
 Cq 188 #[Ah s p,n] w fun e w'=>((e= .returned (.int .i64 (-1))∧∀ j (hj:j<fs.length),fs[j].bytes≠⟨#[]⟩→fs[j].Ad≠n)∨∃ (k:Nat) (hk:k<fs.length),e= .returned (.int .i64 k)∧fs[k].bytes≠⟨#[]⟩∧fs[k].Ad=n)∧Bw w w':=by
 have K:=Hq I;clear I;have A:=Hq r;clear r;go_enter Tryz.func188,Tryz.ntmps188;go_upto_region 1 with fail;have q:=bP w (Ak s p) 36;obtain⟨B,t⟩:=E0 q;rw[← t]at q ⊢;clear t;have C:=show B.cell? ⟨w.heap.size,11,none⟩=some (.slice p.F fs.length p.fc)from by rw[Aa q.out.Ao,← A.out];rfl
 have v:=Hq q.out.below;have L:=Hq (fun u (M:Bw B u)=>show u.cell? ⟨w.heap.size,11,none⟩=some (.slice p.F fs.length p.fc)from by rw[M.cell (p:=⟨w.heap.size,11,none⟩) (q.out.lt (i:=0) (by simp))];exact C);clear q;go_wp2_with fail
 go_loopw [5] (fun i wr=>∃ k:Nat,k≤fs.length∧i= .int .i64 k∧(∀ j (hj:j<fs.length),j<k→fs[j].bytes≠⟨#[]⟩→fs[j].Ad≠n)∧Bw B wr) (fun i _=>fs.length-(intOf i).toNat)
 case atStart=>exact⟨0,Nat.zero_le _,rfl,fun _ _ h=>absurd h (by omega),Below.refl _ _⟩
 case round=>
  obtain⟨k,hk,rfl,c,d⟩:=hrel;have D:=v.out.trans (d.mono v.out.size);have C:=L.out wr d;have N:(0:Int)≤(k:Int):=by omega
  by_cases x:k<fs.length
  ·have O:(k:Int)<(fs.length:Int):=by omega
   have P:IntKind.i64.wrap ((k:Int)+1)=(k:Int)+1:=IntWalk.i64_in _ (by omega);obtain⟨b,off,E,Q,R,a⟩:=Bz Eb (K.out.below D) x;have l:=a 0 _ rfl;have y:=a 1 _ rfl;simp only[Nat.add_zero]at l;clear a;generalize g:fs[k]=f at l y;obtain⟨G,S,X,Y,Z⟩:=f;simp only at l y;rw[E]at C
   by_cases m:S=⟨#[]⟩
   ·subst m
    have T:=Rj;go_wp2_with fail;go_roundw
    case rel=>exact⟨k+1,by omega,by go_num,fun j hj o=>by rcases Nat.lt_or_eq_of_le (Nat.le_of_lt_succ o)with h5|h5;(· exact c j hj h5);(· subst h5;rw[g];exact fun h=>absurd rfl h),d⟩
    case measure=>simp[intOf];omega
   ·obtain⟨U,V,W⟩:=dK m
    by_cases z:G=n
    ·have H:(G==n)=true:=beq_iff_eq.2 z
     go_wp2_with fail;go_ret;exact⟨.inr ⟨k,x,rfl,by rw[g];exact m,by rw[g];exact z⟩,D⟩
    ·have H:(G==n)=false:=beq_eq_false_iff_ne.2 z
     go_wp2_with fail;go_roundw
     case rel=>exact⟨k+1,by omega,by go_num,fun j hj o=>by rcases Nat.lt_or_eq_of_le (Nat.le_of_lt_succ o)with h5|h5;(· exact c j hj h5);(· subst h5;rw[g];exact fun _=>z),d⟩
     case measure=>simp[intOf];omega
  ·obtain rfl:k=fs.length:=by omega
   go_wp2_with fail;go_ret;exact⟨.inl ⟨rfl,fun j hj=>c j hj hj⟩,D⟩
theorem Lm (s:Tx.St)(p:SP)(fs:List Fr)(V:fs.length≤100)(k:Nat)(hk:k<fs.length)(f:Fr)(w:World)(h:Am w s p fs):
 Cq 189 #[Ah s p,k,.agg (Fs f)] w fun e w'=>∃ q,e= .returned (Ah s q)∧Am w' s q (fs.set k f)∧Bw w w':=by
 obtain⟨i0,E,G,H,I⟩:=info_parts Xe;have Q:=Hq h;have J:=Hq h.fn;clear h;go_enter Tryz.func189,Tryz.ntmps189;go_upto_region 1 with fail;have j:=Ol w (Ak s p) 36 (Fs f) 108 #[(),(),(),"s",(),false,(),(),(),(),"","s",(),"s",()] 36;obtain⟨b,o⟩:=E0 j;rw[← o]at j ⊢;clear o;have m:=Hq (Q.out.below j.out.below);have R:=show b.cell? ⟨w.heap.size,11,none⟩=some (.slice p.F fs.length p.fc)from by rw[Aa j.out.Ao,← J.out];rfl
 have a:=Ac b (.cells #[] 108);have L:(b.alloc (.cells #[] 108)).cell? ⟨w.heap.size,11,none⟩=some (.slice p.F fs.length p.fc):=by rw[a.cell (p:=⟨w.heap.size,11,none⟩) (j.out.lt (i:=0) (by simp))];exact R
 have r:=m.out.fr.below a
 go_upto_region 2 with(at_builtin;refine Da Kr fun K W=>Mx (b.alloc (.cells #[] 108)) (.tmp 8) (.tmp 11) 31 108 i0 (.agg #[(),"",(),false,()]) 5 48 sQ E G H I rfl (by omega) rfl b.heap.size _ 0 [] rfl (L6 b 108 5) p.F fs.length p.fc (fs.flatMap Kw) rfl r (by rw[Co Eb]) (gA fs) (by omega) (by omega) a.size ?_;intro v2 M t X S;refine W _ _ ?_)
 rw[List.nil_append,Nat.zero_add]at t;have n:=a.trans S;obtain⟨g,fc,rfl⟩:∃ g c,v2= .slice (some ⟨g,0,none⟩) fs.length c:=by
  rcases t.2 with⟨_,h0⟩|⟨g,cap,cur,Y,_⟩
  ·omega
  ·exact⟨g,cap,Y⟩
 have N:=Hq (j.out.step n);have O:=Hq (m.out.below n);have T:(0:Int)≤(k:Int):=by omega
 have Z:(k:Int)<(fs.length:Int):=by omega
 obtain⟨u,v,x⟩:=gB Eb t k hk f;have l:M.there g (k*5) (Fs f).size:=u;have a1:b.heap.size≤g:=by obtain⟨cur,h1,_⟩:=Xf t;exact h1
 go_upto_region 3 with(first|with_reducible refine lL N.out.Aq Gy ?_|with_reducible refine wpList_store_mid rfl 108 (.tmp 16) (.tmp 15) rfl g (k*5) (Fs f) rfl rfl l Kr Kr ?_)
 have hM:w.heap.size+3≤b.heap.size:=j.out.lt (i:=2) (by simp);have D:=Hq (N.out.under hM x);have y:=show(M.setCells g (k*5) (Kw f)).cell? ⟨w.heap.size,11,none⟩=some (.slice p.F p.fn p.fc)from by rw[Aa D.out.Ao];rfl
 have z:=Ap D.out.Ao 11;have A:=Hq v;rw[show([.int .i64 f.Ad,.string f.bytes,.int .i64 f.pins,.bool f.mark,.int .i64 f.rc]:List Value)=Kw f from rfl];generalize M.setCells g (k*5) (Kw f)=w3 at D y z A ⊢
 try simp only[Act.put]
 clear u l v x R L a r t X S n j m N O;go_upto_region 4 with fail;have B:=Hq (show Eg w.heap.size w [((Ak s {p with F:=some ⟨g,0,none⟩,fn:=fs.length,fc:=fc}),36),(Fs f,108),(#[(),(),(),"s",(),false,(),(),(),(),"","s",(),"s",()],36)] (w3.setCell ⟨w.heap.size,11,none⟩ (.slice (some ⟨g,0,none⟩) fs.length fc))from D.out.set 0 11 (.slice (some ⟨g,0,none⟩) fs.length fc) _ rfl);have C:=Hq (J9 A.out ⟨w.heap.size,11,none⟩ (.slice (some ⟨g,0,none⟩) fs.length fc) (by show w.heap.size<b.heap.size;omega));generalize w3.setCell ⟨w.heap.size,11,none⟩ (.slice (some ⟨g,0,none⟩) fs.length fc)=w4 at B C ⊢;clear y z
 go_wp2_with(first|with_reducible refine lL B.out.Ao Ar ?_|with_reducible refine lS (Ak s {p with F:=some ⟨g,0,none⟩,fn:=fs.length,fc:=fc}) B.out.Cd ?_)
 have U:=Hq (B.out.row 2 (Ak s {p with F:=some ⟨g,0,none⟩,fn:=fs.length,fc:=fc}) _ rfl).below;refine rT1 B.out.Cd Ar ?_;have d:=He C.out (w.heap.size+2) (Ak s {p with F:=some ⟨g,0,none⟩,fn:=fs.length,fc:=fc}) (by omega);have P:(fs.set k f).length=fs.length:=List.length_set;refine⟨{p with F:=some ⟨g,0,none⟩,fn:=fs.length,fc:=fc},rfl,⟨(Q.out.st.below U.out).vD _ _ _,P.symm,?_,?_⟩,U.out⟩
 ·rw[P]at d ⊢
  exact Cz d
 ·rw[P]at d
  exact(De.own d).mono (Nat.zero_le _)
structure Lu (p:ByteArray):Prop where
 is:Bk p=true
 pl:Ny p=p
theorem Lu.eq {p:ByteArray}(h:Lu p):Dl (Ab p)=p:=(Mo h.is).symm.trans h.pl
theorem Lu.size {p:ByteArray}(h:Lu p):p.size=512:=Hg h.is
theorem Tf {x:Pg.Ct}(d:Pg.Small x)(e:Pg.Ay x.Ai≤512)(f:∀ r∈x.Ai,r.size≤400)(a:Pg.trim x.Ai=x.Ai):Lu (Dl x)∧Ab (Dl x)=x:=by
 obtain⟨b,g⟩:=Ml d (by rw[a];exact e) f;have c:Ab (Dl x)=x:=by rw[g,a]
 exact⟨⟨b,by rw[Mo b,c]⟩,c⟩
theorem Pb {p:ByteArray}(h:Bk p=true){l:Nat}(a:l<281474976710656):Lu (Bl p (l:Int))∧Ab (Bl p (l:Int))=⟨l,(Ab p).kind,(Ab p).link,(Ab p).Ai⟩:=by
 obtain⟨c,b,_⟩:=Ii h a;refine⟨⟨c,?_⟩,b⟩;unfold Ny;rw[b];exact Rh h a a
theorem vE {p:ByteArray}(h:Bk p=true):Lu (Ny p)∧Ab (Ny p)=Ab p:=Pb h (Gn p)
theorem gD {p:ByteArray}(h:Lu p):Ny (Eh p)=p:=by
 obtain⟨a,b,_⟩:=Gv h.is;rw[Mo a,b,h.eq]
def Jm:ByteArray:=⟨(List.replicate 512 0).toArray⟩
theorem kM:Bk Jm=false:=by
 have h:Pg.right Jm.data.toList=none:=by
  have e:Jm.data.toList=List.replicate 512 0:=rfl;rw[e]
  decide+kernel
 unfold Bk;rw[h];rfl
theorem Vd {p:ByteArray}(h:Bk p=true):Eh p≠Jm:=fun e=>by
 have a:=(Gv h).1;rw[e,kM]at a
 cases a
theorem Ln (k:Nat)(hk:k≤4):Lu (Gi k)∧Ab (Gi k)=⟨0,k,0,[]⟩:=by
 have e:Gi (k:Int)=Dl ⟨0,k,0,[]⟩:=by unfold Gi;rw[if_neg (by omega)];rfl
 rw[e];exact Tf ⟨by show 0<281474976710656;omega,hk,by show 0<16777216;omega⟩ (by show 19≤512;omega) (fun r h=>by cases h) (Pg.Ee fun r h=>by cases h)
theorem kN {p q:ByteArray}(_hp:Bk p=true)(a:Bk q=true):Lu (Bl q ((Ab p).lsn:Nat))∧Ab (Bl q ((Ab p).lsn:Nat))=⟨(Ab p).lsn,(Ab q).kind,(Ab q).link,(Ab q).Ai⟩:=Pb a (Gn p)
theorem sR {p r b:ByteArray}(h:Lu p)(f:(Ab p).Ai=[b])(i:b.size≠0)(j:r.size≠0)(k:r.size≤400):
 Ie p 0 r=(Dl {Ab p with Ai:=[r]},0)∧Lu (Dl {Ab p with Ai:=[r]})∧Ab (Dl {Ab p with Ai:=[r]})={Ab p with Ai:=[r]}:=by
 have l:=Cj p;have d:Pg.Ba (Ab p).Ai 0=b:=by rw[f];rfl
 have g:Pg.trim [r]=[r]:=Pg.Ee fun x a=>by simp at a;rw[← a];exact j
 have c:Pg.Ay [r]≤512:=by unfold Pg.Ay Pg.An Pg.An;simp;omega
 have m:=Tf (x:={Ab p with Ai:=[r]}) l.fine.small c (fun x a=>by simp at a;rw[a];exact k) g;refine⟨?_,m⟩;unfold Ie;rw[if_neg (by rw[h.is];decide),if_neg (by unfold Hh;rw[decide_eq_true (by omega)];decide),d,if_neg i];have e:Pg.putAt (Ab p).Ai (0:Int).toNat r=[r]:=by rw[f];rfl
 rw[e];exact J1 (x:=A6 p [r]) (by show Pg.Ay (Pg.trim [r])≤512;rw[g];exact c)
end Go.Proofs.YtmfkhdhnbkambaaGreatDoor
namespace Ck
open Lg
open Rc
theorem pL {N:Nat}{l:List ByteArray}{i:Nat}(hi:i=0∨1+N≤i)(b:ByteArray)(a:Int)(dn:Bool)(d:Dk)(c:d.sectors=l):Gw 1 N ⟨l.set i b,a,dn⟩=Gw 1 N d:=by
 unfold Gw;simp only;rw[c]
 congr 1
 apply List.ext_getElem?
 intro j;rw[List.getElem?_take,List.getElem?_take]
 split
 ·rw[List.getElem?_drop,List.getElem?_drop,List.getElem?_set_ne (by omega)]
 ·rfl
theorem kO {l:List ByteArray}(h:Whole l)(i:Nat){b:ByteArray}(a:b.size=128):Whole (l.set i b):=fun x c=>by
 rcases List.mem_or_eq_of_mem_set c with h1|h1
 ·exact h x h1
 ·rw[h1];exact a
theorem Xg (d:Dk)(a:Int)(b:ByteArray):C6 d a b=(d,20)∧d.down=true∨d.down=false∧(C6 d a b=(d,1)∨(Hm d a∧b.size=128∧((d.left=0∧C6 d a b=({d with down:=true},20))∨(d.left≠0∧C6 d a b=(⟨d.sectors.set a.toNat b,if 0<d.left then d.left-1 else d.left,false⟩,0))))):=by
 unfold C6
 cases f:d.down with
 |true=>exact .inl ⟨by simp,rfl⟩
 |false=>
  refine .inr ⟨rfl,?_⟩
  by_cases c:Hm d a∧b.size=128
  ·refine .inr ⟨c.1,c.2,?_⟩
   by_cases e:d.left=0
   ·exact .inl ⟨e,by simp[c,e]⟩
   ·exact .inr ⟨e,by simp[c,e]⟩
  ·exact .inl (by simp[c])
theorem G8.out {N:Nat}{d a:Dk}{g:Lo}{b r2:List Rec}(h:G8 1 N d g b r2)(c:Whole a.sectors)(e:a.sectors.length=d.sectors.length)(f:Gw 1 N a=Gw 1 N d):G8 1 N a g b r2:=
 ⟨c,by rw[e];exact h.room,h.hf,h.hn,h.row,by rw[f];exact h.pre,h.safe,h.end_,h.tail,h.fit⟩
structure Br (N:Nat) (d:Dk) (g:Lo):Prop where
 whole:Whole d.sectors
 len:d.sectors.length=N+17
 up:d.down=false
 left:d.left= -1
 inv:∃ r1 r2,G8 1 N d g r1 r2
theorem Br.force {N:Nat}{d:Dk}{g:Lo}{a b:List Rec}(h:G8 1 N d g a b)(e:d.down=false)(c:d.left= -1):
 (Bi d g).2.2=0∧G8 1 N (Bi d g).1 (Bi d g).2.1 (a++b) []∧(Bi d g).1.down=false∧(Bi d g).1.left= -1∧(Bi d g).1.sectors.length=d.sectors.length:=by
 rcases h.force e (by omega)with⟨f,a2,a3,_,a5,i,_,_⟩|⟨_,_,_,a4,_⟩
 ·exact⟨f,a2,a3,a5 c,i⟩
 ·exact absurd c a4
theorem dM (base:Int)(all:List ByteArray)(j:Nat):∀ (i:Nat) (d:Dk),0≤base→base+(i:Int)≤(j:Int)→(Cm base all i d).1.sectors[j]? =d.sectors[j]? :=by
 intro i
 induction i with
 |zero=>intro d _ _;rfl
 |succ i ih=>
  intro d c f;have a:∀ b,(C6 d (base+(i:Int)) b).1.sectors[j]? =d.sectors[j]? :=fun b=>by
   rcases Xg d (base+(i:Int)) b with⟨e,_⟩|⟨_,e|⟨_,_,⟨_,e⟩|⟨_,e⟩⟩⟩<;>rw[e]
   show(d.sectors.set (base+(i:Int)).toNat b)[j]? =_
   rw[List.getElem?_set_ne (by omega)]
  unfold Cm
  split
  ·rw[ih _ c (by omega)];exact a _
  ·exact a _
theorem kP {N:Nat}{d:Dk}{g:Lo}{c a:List Rec}(h:G8 1 N d g c a)(j:Nat)(k:1+N≤j):(Bi d g).1.sectors[j]? =d.sectors[j]? :=by
 by_cases b:a=[]
 ·have e:Bi d g=(d,g,0):=by unfold Bi;rw[if_pos (by rw[h.safe,h.end_,b,List.append_nil])]
  rw[e]
 ·obtain⟨n,f,_⟩:=h.uN b
  have l:=f.fits;have m:=h.Fk;have i:=h.hf;unfold Bi
  split
  ·rfl
  ·simp only
   split<;>exact dM _ _ _ _ _ (by omega) (by omega)
end Ck
namespace Sc
open Rc Lg Ck
structure Pw (N M:Nat) (d:Dk) (g:Lo):Prop where
 whole:Whole d.sectors
 len:d.sectors.length=M
 room:1+N≤M
 up:d.down=false
 left:d.left= -1
 inv:∃ r1 r2,G8 1 N d g r1 r2
theorem vF (N M:Nat)(h:1+N≤M):Pw N M (Li M) ⟨1,N,0,0,⟨#[]⟩⟩:=by
 have b:(Li M).sectors.length=M:=by show(List.replicate M C9).length=_;rw[List.length_replicate]
 have a:Whole (Li M).sectors:=Z6 _;exact⟨a,b,h,rfl,rfl,[],[],G8.new (F:=1) a (by omega)⟩
theorem Pw.yF {N M:Nat}{d:Dk}{g:Lo}(h:Pw N M d g):0≤g.end_∧g.end_≤(N:Int)*128:=by
 obtain⟨_,_,_,_,_,b,c,a⟩:=h;have e:=a.end_;have f:=a.fit;omega
theorem Pw.put {N M:Nat}{d:Dk}{g:Lo}(h:Pw N M d g)(r:Rec)(c:Bu {r with lsn:=g.end_+1})(p:g.end_+((D5 {r with lsn:=g.end_+1}).length:Int)≤(N:Int)*128):
 ∃ g2,As g r=(g2,g.end_+1,0)∧Pw N M d g2∧g2.end_=g.end_+((D5 {r with lsn:=g.end_+1}).length:Int):=by
 obtain⟨f,i,j,k,l,q,s,b⟩:=h;have t:=b.hn;have m:=b.append r;have e:As g r=((As g r).1,g.end_+1,0)∧(As g r).1.end_=g.end_+((D5 {r with lsn:=g.end_+1}).length:Int):=by
  unfold As;simp only;rw[if_neg (fun n=>n c),if_neg (by omega)];exact⟨rfl,rfl⟩
 rcases m with e1|e1|⟨_,o⟩
 ·have a:=e.1;rw[e1]at a;have:=congrArg (fun x=>x.2.2) a;simp at this
 ·have a:=e.1;rw[e1]at a;have:=congrArg (fun x=>x.2.2) a;simp at this
 ·exact⟨_,e.1,⟨f,i,j,k,l,_,_,o⟩,e.2⟩
theorem Pw.force {N M:Nat}{d:Dk}{g:Lo}(h:Pw N M d g):∃ d2 g2,Bi d g=(d2,g2,0)∧Pw N M d2 g2∧g2.end_=g.end_∧∀ j,1+N≤j→d2.sectors[j]? =d.sectors[j]? :=by
 obtain⟨l,c,e,f,i,m,n,b⟩:=h;obtain⟨k,a2,a3,a4,a5⟩:=Br.force b f i;have a:=kP b;refine⟨_,_,by rw[← k],⟨a2.whole,a5.trans c,e,a3,a4,_,_,a2⟩,?_,a⟩;rw[a2.end_,b.end_,List.append_nil]
theorem Pw.write {N M:Nat}{d:Dk}{g:Lo}(h:Pw N M d g){i:Nat}{b:ByteArray}(c:b.size=128)(hi:1+N≤i)(k:i<M):
 C6 d (i:Int) b=({d with sectors:=d.sectors.set i b},0)∧Pw N M {d with sectors:=d.sectors.set i b} g:=by
 obtain⟨l,e,m,f,a,n,o,p⟩:=h;have q:Hm d (i:Int):=⟨by omega,by rw[e];omega⟩;refine⟨?_,?_⟩
 ·unfold C6
  rw[if_neg (by rw[f];decide),if_neg (fun r=>r ⟨q,c⟩),if_neg (by rw[a];decide)];rw[show(if 0<d.left then d.left-1 else d.left)=d.left from by rw[a];rfl]
  rfl
 ·have s:Gw 1 N ⟨d.sectors.set i b,d.left,d.down⟩=Gw 1 N d:=pL (.inr hi) b _ _ d rfl
  have j:=kO l i c;exact⟨j,by show(d.sectors.set i b).length=M;rw[List.length_set];exact e,m,f,a,n,o,G8.out p j (by show(d.sectors.set _ _).length=_;rw[List.length_set]) s⟩
def Ga (d:Dk)(a:Nat):ByteArray:=⟨(flat ((d.sectors.drop a).take 4)).toArray⟩
theorem P2 {d b:Dk}{a:Nat}(h:∀ j,a≤j→j<a+4→b.sectors[j]? =d.sectors[j]?):Ga b a=Ga d a:=by
 have e:(b.sectors.drop a).take 4=(d.sectors.drop a).take 4:=by
  apply List.ext_getElem?
  intro j;rw[List.getElem?_take,List.getElem?_take]
  split
  ·rw[List.getElem?_drop,List.getElem?_drop];exact h _ (by omega) (by omega)
  ·rfl
 unfold Ga;rw[e]
theorem kQ (b:ByteArray)(i n:Nat):(b.extract i (i+n)).data.toList=(b.data.toList.drop i).take n:=by
 rw[ByteArray.data_extract,Array.toList_extract,List.extract_eq_take_drop]
 congr 1
 omega
def Gq (b:ByteArray)(i:Nat):ByteArray:=b.extract (i*128) (i*128+128)
theorem Fi {b:ByteArray}(a:b.size=512){i:Nat}(hi:i<4):(Gq b i).size=128:=by
 unfold Gq;rw[ByteArray.size_extract];omega
def Nr (d:Dk)(a:Nat)(b:ByteArray):Dk:={d with sectors:=(((d.sectors.set a (Gq b 0)).set (a+1) (Gq b 1)).set (a+2) (Gq b 2)).set (a+3) (Gq b 3)}
theorem pM (d:Dk)(a:Nat)(b:ByteArray)(j:Nat)(h:j<a∨a+4≤j):(Nr d a b).sectors[j]? =d.sectors[j]? :=by
 unfold Nr;rw[List.getElem?_set_ne (by omega),List.getElem?_set_ne (by omega),List.getElem?_set_ne (by omega),List.getElem?_set_ne (by omega)]
theorem aB (d:Dk)(a c:Nat)(b:ByteArray)(h:c+4≤a∨a+4≤c):Ga (Nr d a b) c=Ga d c:=P2 fun j e f=>pM d a b j (by omega)
theorem gE {d:Dk}{a:Nat}{b:ByteArray}(c:b.size=512)(m:a+4≤d.sectors.length):Ga (Nr d a b) a=b:=by
 have e:((Nr d a b).sectors.drop a).take 4=[Gq b 0,Gq b 1,Gq b 2,Gq b 3]:=by
  apply List.ext_getElem?
  intro j;rw[List.getElem?_take]
  split
  ·rename_i n
   rw[List.getElem?_drop];unfold Nr;have:j=0∨j=1∨j=2∨j=3:=(by omega);rcases this with rfl|rfl|rfl|rfl
   ·rw[List.getElem?_set_ne (by omega),List.getElem?_set_ne (by omega),List.getElem?_set_ne (by omega),Nat.add_zero,List.getElem?_set_self (by omega)];rfl
   ·rw[List.getElem?_set_ne (by omega),List.getElem?_set_ne (by omega),List.getElem?_set_self (by rw[List.length_set];omega)];rfl
   ·rw[List.getElem?_set_ne (by omega),List.getElem?_set_self (by rw[List.length_set,List.length_set];omega)];rfl
   ·rw[List.getElem?_set_self (by rw[List.length_set,List.length_set,List.length_set];omega)];rfl
  ·rw[List.getElem?_eq_none (by simp;omega)]
 unfold Ga;rw[e];have f:b.data.toList.length=512:=by simpa using c
 apply ByteArray.ext
 apply Array.toList_inj.1
 show flat [Gq b 0,Gq b 1,Gq b 2,Gq b 3]=b.data.toList
 unfold flat Gq;simp only[List.flatMap_cons,List.flatMap_nil,List.append_nil,kQ];generalize b.data.toList=l at f;have g:l=l.take 128++l.drop 128:=(List.take_append_drop 128 l).symm;have h:l.drop 128=(l.drop 128).take 128++l.drop 256:=by
  have:=(List.take_append_drop 128 (l.drop 128)).symm
  rwa[List.drop_drop]at this
 have i:l.drop 256=(l.drop 256).take 128++l.drop 384:=by
  have:=(List.take_append_drop 128 (l.drop 256)).symm
  rwa[List.drop_drop]at this
 have k:l.drop 384=(l.drop 384).take 128:=(List.take_of_length_le (by rw[List.length_drop];omega)).symm
 show l.take 128++((l.drop 128).take 128++((l.drop 256).take 128++(l.drop 384).take 128))=l
 rw[← k,← i,← h,← g]
theorem Pw.Ad {N M:Nat}{d:Dk}{g:Lo}(h:Pw N M d g){a:Nat}{b:ByteArray}(c:b.size=512)(e:1+N≤a)(f:a+4≤M):Pw N M (Nr d a b) g:=by
 have j:=(h.write (Fi c (i:=0) (by omega)) e (by omega)).2;have k:=(j.write (Fi c (i:=1) (by omega)) (i:=a+1) (by omega) (by omega)).2;have l:=(k.write (Fi c (i:=2) (by omega)) (i:=a+2) (by omega) (by omega)).2;exact(l.write (Fi c (i:=3) (by omega)) (i:=a+3) (by omega) (by omega)).2
theorem Ve {d:Dk}{a:Nat}(b:a+4≤d.sectors.length):Ga d a=((d.sectors[a]++d.sectors[a+1])++d.sectors[a+2])++d.sectors[a+3]:=by
 have e:(d.sectors.drop a).take 4=[d.sectors[a],d.sectors[a+1],d.sectors[a+2],d.sectors[a+3]]:=by
  apply List.ext_getElem?
  intro j;rw[List.getElem?_take]
  split
  ·rw[List.getElem?_drop]
   have:j=0∨j=1∨j=2∨j=3:=(by omega);rcases this with rfl|rfl|rfl|rfl<;>rw[List.getElem?_eq_getElem (by omega)]<;>rfl
  ·rw[List.getElem?_eq_none (by simp;omega)]
 unfold Ga;rw[e]
 apply ByteArray.ext
 apply Array.toList_inj.1
 unfold flat
 simp
end Sc
namespace Go.Proofs.YtmfkhdhnbkambaaGreatDoor
open Go.RowKit Sc
theorem vG:Rc.num 0:=⟨by decide,by decide⟩
abbrev Full (f:Fr):Prop:=f.bytes≠⟨#[]⟩
structure vH (n:Nat) (fs:List Fr) (C:Nat→ByteArray):Prop where
 at_:∀ i (hi:i<fs.length),Full fs[i]→∃ p:Nat,p<n∧fs[i].Ad=(p:Int)∧fs[i].bytes=C p
 ds:∀ i j (hi:i<fs.length) (hj:j<fs.length),i≠j→Full fs[i]→Full fs[j]→fs[i].Ad≠fs[j].Ad
 pin:∀ i (hi:i<fs.length),fs[i].pins=0
 rc:∀ i (hi:i<fs.length),Rc.num fs[i].rc
 sz:∀ i (hi:i<fs.length),fs[i].bytes.size≤512
def P3 (fs:List Fr)(p:Nat):Prop:=∃ i,∃ h:i<fs.length,Full fs[i]∧fs[i].Ad=(p:Int)∧fs[i].rc≠0
theorem Gz (fs:List Fr)(k:Nat)(f:Fr)(i:Nat)(hi:i<(fs.set k f).length):(i=k∧(fs.set k f)[i]=f)∨(i≠k∧∃ hi':i<fs.length,(fs.set k f)[i]=fs[i]):=by
 rw[List.getElem_set]
 by_cases e:k=i
 ·rw[if_pos e];exact .inl ⟨e.symm,rfl⟩
 ·rw[if_neg e];exact .inr ⟨fun h=>e h.symm,by simpa using hi,rfl⟩
theorem vH.set {n:Nat}{fs:List Fr}{C C':Nat→ByteArray}(h:vH n fs C)(k:Nat)(f:Fr)(t:f.pins=0)(u:Rc.num f.rc)(v:f.bytes.size≤512)
 (w:Full f→∃ p:Nat,p<n∧f.Ad=(p:Int)∧f.bytes=C' p) (r:Full f→∀ j (hj:j<fs.length),j≠k→Full fs[j]→f.Ad≠fs[j].Ad)
 (hC:∀ j (hj:j<fs.length) (p:Nat),j≠k→Full fs[j]→fs[j].Ad=(p:Int)→C' p=C p):vH n (fs.set k f) C':=by
 refine⟨fun i c b=>?_,fun i j c hj l b g=>?_,fun i c=>?_,fun i c=>?_,fun i c=>?_⟩
 ·rcases Gz fs k f i c with⟨_,e⟩|⟨x,a,e⟩
  ·rw[e]at b ⊢;exact w b
  ·rw[e]at b ⊢
   obtain⟨p,y,s,z⟩:=h.at_ i a b;exact⟨p,y,s,by rw[z,hC i a p x b s]⟩
 ·rcases Gz fs k f i c with⟨o,e⟩|⟨o,a,e⟩<;>rcases Gz fs k f j hj with⟨q,d⟩|⟨q,m,d⟩
  ·exact absurd (o.trans q.symm) l
  ·rw[e,d];rw[e]at b;rw[d]at g;exact r b j m q g
  ·rw[e,d];rw[e]at b;rw[d]at g;exact fun A=>r g i a o b A.symm
  ·rw[e,d];rw[e]at b;rw[d]at g;exact h.ds i j a m l b g
 ·rcases Gz fs k f i c with⟨_,e⟩|⟨_,a,e⟩
  ·rw[e];exact t
  ·rw[e];exact h.pin i a
 ·rcases Gz fs k f i c with⟨_,e⟩|⟨_,a,e⟩
  ·rw[e];exact u
  ·rw[e];exact h.rc i a
 ·rcases Gz fs k f i c with⟨_,e⟩|⟨_,a,e⟩
  ·rw[e];exact v
  ·rw[e];exact h.sz i a
theorem P3.set {fs:List Fr}{k:Nat}{f:Fr}{p:Nat}(hk:k<fs.length)(h:P3 fs p)(d:Full fs[k]→fs[k].Ad=(p:Int)→fs[k].rc≠0→Full f∧f.Ad=(p:Int)∧f.rc≠0):P3 (fs.set k f) p:=by
 obtain⟨i,g,a,b,c⟩:=h;refine⟨i,by rw[List.length_set];exact g,?_⟩;rw[List.getElem_set]
 split
 ·rename_i e;subst e;exact d a b c
 ·exact⟨a,b,c⟩
def Lay (N:Nat)(d:Lg.Dk)(p:Nat)(b:ByteArray):Prop:=Ga d (1+N+4*p)=Eh b∨(Ga d (1+N+4*p)=Jm∧b=Gi (0:Nat))
structure PI (N n:Nat) (s:Tx.St) (fs:List Fr) (C:Nat→ByteArray):Prop where
 zl:s.zlog=(N:Int)
 zp:s.zpages=(n:Int)
 n1:1≤n∧n≤60∧N≤3000
 pw:Pw N (1+N+4*n) s.Az s.log
 nf:1≤fs.length∧fs.length≤64
 hd:0≤s.hand∧s.hand≤64
 fr:vH n fs C
 nm:∀ p,p<n→Lu (C p)
 dk:∀ p,p<n→¬ P3 fs p→Lay N s.Az p (C p)
theorem PI.mark {N n:Nat}{s:Tx.St}{fs:List Fr}{C:Nat→ByteArray}(h:PI N n s fs C){k:Nat}(hk:k<fs.length)(m:Bool):PI N n s (fs.set k {fs[k]with mark:=m}) C:=
 ⟨h.zl,h.zp,h.n1,h.pw,by rw[List.length_set];exact h.nf,h.hd,
   h.fr.set k _ (h.fr.pin k hk) (h.fr.rc k hk) (h.fr.sz k hk) (fun d=>h.fr.at_ k hk d) (fun g j i f d=>h.fr.ds k j hk i (fun e=>f e.symm) g d) (fun _ _ _ _ _ _=>rfl),
   h.nm,fun p l o=>h.dk p l fun q=>o (q.set hk fun a b c=>⟨a,b,c⟩)⟩
theorem PI.hand {N n:Nat}{s:Tx.St}{fs:List Fr}{C:Nat→ByteArray}(h:PI N n s fs C)(x:Int)(a:0≤x∧x≤64):PI N n {s with hand:=x} fs C:=
 ⟨h.zl,h.zp,h.n1,h.pw,h.nf,a,h.fr,h.nm,h.dk⟩
theorem PI.load {N n:Nat}{s:Tx.St}{fs:List Fr}{C:Nat→ByteArray}(h:PI N n s fs C){k:Nat}(hk:k<fs.length){p:Nat}(d:p<n)(f:Full fs[k]→fs[k].rc=0)(b:∀ j (hj:j<fs.length),Full fs[j]→fs[j].Ad≠(p:Int)):PI N n s (fs.set k ⟨(p:Int),C p,0,true,0⟩) C:=
 ⟨h.zl,h.zp,h.n1,h.pw,by rw[List.length_set];exact h.nf,h.hd,
   h.fr.set k _ rfl vG (Nat.le_of_eq (h.nm p d).size) (fun _=>⟨p,d,rfl,rfl⟩) (fun _ j hj _ g e=>b j hj g e.symm) (fun _ _ _ _ _ _=>rfl),
   h.nm,fun q i l=>h.dk q i fun m=>l (m.set hk fun a _ c=>absurd (f a) c)⟩
theorem PI.force {N n:Nat}{s:Tx.St}{fs:List Fr}{C:Nat→ByteArray}(h:PI N n s fs C):∃ d2 g2,Lg.Bi s.Az s.log=(d2,g2,0)∧PI N n {s with Az:=d2,log:=g2} fs C∧g2.end_=s.log.end_:=by
 obtain⟨d2,g2,e,c,d,f⟩:=h.pw.force;refine⟨d2,g2,e,⟨h.zl,h.zp,h.n1,c,h.nf,h.hd,h.fr,h.nm,fun p g i=>?_⟩,d⟩;have b:Ga d2 (1+N+4*p)=Ga s.Az (1+N+4*p):=P2 fun j l _=>f j (by omega);rcases h.dk p g i with a|⟨a,k⟩
 ·exact .inl (b.trans a)
 ·exact .inr ⟨b.trans a,k⟩
theorem PI.flush {N n:Nat}{s:Tx.St}{fs:List Fr}{C:Nat→ByteArray}(h:PI N n s fs C){k:Nat}(hk:k<fs.length){p:Nat}(m:p<n)(_hf:Full fs[k])(c:fs[k].Ad=(p:Int)):
 PI N n {s with Az:=Nr s.Az (1+N+4*p) (Eh (C p))} (fs.set k {fs[k]with rc:=0}) C:=by
 have i:=(Gv (h.nm p m).is).2.2.2;have o:=h.pw.len;refine⟨h.zl,h.zp,h.n1,h.pw.Ad i (by omega) (by omega),by rw[List.length_set];exact h.nf,h.hd,
  h.fr.set k _ (h.fr.pin k hk) vG (h.fr.sz k hk) (fun d=>h.fr.at_ k hk d) (fun r j t f d=>h.fr.ds k j hk t (fun e=>f e.symm) r d) (fun _ _ _ _ _ _=>rfl),
  h.nm,fun q u v=>?_⟩
 by_cases a:q=p
 ·subst a
  exact .inl (gE i (by rw[o];omega))
 ·have l:=aB s.Az (1+N+4*p) (1+N+4*q) (Eh (C p)) (by omega)
  have w:¬ P3 fs q:=fun x=>v (x.set hk fun _ b _=>absurd (Int.ofNat.inj (b.symm.trans c)) a);rcases h.dk q u w with g|⟨g,y⟩
  ·exact .inl (l.trans g)
  ·exact .inr ⟨l.trans g,y⟩
theorem PI.change {N n:Nat}{s s':Tx.St}{fs:List Fr}{C:Nat→ByteArray}(h:PI N n s fs C){k:Nat}(hk:k<fs.length){p:Nat}(y:p<n)(u:Full fs[k])(a:fs[k].Ad=(p:Int)){b:ByteArray}(i:Lu b){x:Int}(l:Rc.num x)(m:x≠0)
 (z:s'.zlog=s.zlog) (A:s'.zpages=s.zpages) (v:s'.Az=s.Az) (B:s'.hand=s.hand) (o:Pw N (1+N+4*n) s.Az s'.log):
 PI N n s' (fs.set k ⟨(p:Int),b,0,true,x⟩) (fun q=>if q=p then b else C q):=by
 have r:b≠⟨#[]⟩:=fun e=>by have:=i.size;rw[e]at this;exact absurd this (by decide)
 refine⟨z.trans h.zl,A.trans h.zp,h.n1,by rw[v];exact o,by rw[List.length_set];exact h.nf,by rw[B];exact h.hd,
  h.fr.set k _ rfl l (Nat.le_of_eq i.size) (fun _=>⟨p,y,rfl,by rw[if_pos rfl]⟩) (fun _ j t c d=>by rw[show(⟨(p:Int),b,0,true,x⟩:Fr).Ad=fs[k].Ad from a.symm];exact h.fr.ds k j hk t (fun e=>c e.symm) u d) (fun j t q c d f=>if_neg fun e=>by
   subst e;exact h.fr.ds k j hk t (fun e=>c e.symm) u d (a.trans f.symm)),fun q f=>?_,fun q f w=>?_⟩
 ·by_cases e:q=p
  ·rw[if_pos e];exact i
  ·rw[if_neg e];exact h.nm q f
 ·have g:q≠p:=fun e=>w (by
   subst e;exact⟨k,by rw[List.length_set];exact hk,by rw[List.getElem_set_self];exact⟨r,rfl,m⟩⟩)
  rw[if_neg g,v];exact h.dk q f fun l=>w (l.set hk fun _ b _=>absurd (Int.ofNat.inj (b.symm.trans a)) g)
def Mr (p:Prop)(w:World)(e:Ending)(w':World):Prop:=∃ b:Bool,e= .returned (.bool b)∧(b=true↔p)∧Bw w w'
def Hv {α:Type}(P:α→Prop)(l:List α)(w:World)(e:Ending)(w':World):Prop:=
 ∃ k:Int,e= .returned (.int .i64 k)∧((k= -1∧∀ x∈l,¬ P x)∨∃ (i:Nat) (h:i<l.length),k=(i:Int)∧P l[i]∧∀ j (hj:j<i),¬ P (l[j]'(by omega)))∧Bw w w'
theorem aC {α:Type}{P:α→Prop}{l:List α}{w w':World}(h:∀ j (hj:j<l.length),¬ P l[j])(a:Bw w w'):Hv P l w (.returned (.int .i64 (-1))) w':=
 ⟨-1,rfl,.inl ⟨rfl,fun x b=>by obtain⟨j,hj,rfl⟩:=List.getElem_of_mem b;exact h j hj⟩,a⟩
theorem Vf {α:Type}{P:α→Prop}{l:List α}{w w':World}{k:Nat}(hk:k<l.length)(a:P l[k])(h:∀ j (hj:j<l.length),j<k→¬ P l[j])(b:Bw w w'):Hv P l w (.returned (.int .i64 (k:Int))) w':=
 ⟨(k:Int),rfl,.inr ⟨k,hk,rfl,a,fun j hj=>h j (by omega) hj⟩,b⟩
theorem Tg (P:Fr→Prop)(g:Nat)(K:Array Value)(eg:∀ args w,(callFunc g args).run Tryz.prog w= .ok (.enter g args) w)(l:List Fr)(hl:l.length≤140737488355328)(A:Option Addr)(c:Nat)(w:World)(L:Reads w A c l.length (l.flatMap Kw))
 (M:∀ x∈l,∀ W,Bw w W→Cq g (#[.agg (Fs x)]++K) W (Mr (P x) W)):
 Cq 45 #[.slice A l.length c,.func (.func g) #[] K] w (Hv P l w):=by
 have R:=Hq L;have S:=Hq M;have u:=Hq (fun h w' I=>aC (P:=P) (l:=l) (w:=w) (w':=w') h I);have m:=Hq (fun k hk n h w' I=>Vf (P:=P) (l:=l) (w:=w) (w':=w') (k:=k) hk n h I);generalize Hv P l w=Q at u m ⊢;clear L M;go_enter Tryz.func45,Tryz.ntmps45;go_wp2_with fail
 go_loopw [8] (fun i wr=>∃ k:Nat,k≤l.length∧i= .int .i64 k∧(∀ j (v:j<l.length),j<k→¬ P l[j])∧Bw w wr) (fun i _=>l.length-(intOf i).toNat)
 case atStart=>exact⟨0,Nat.zero_le _,rfl,fun _ _ h=>absurd h (by omega),Below.refl _ _⟩
 case round=>
  obtain⟨k,hk,rfl,o,d⟩:=hrel;have C:=Hq o;clear o
  by_cases p:k<l.length
  ·obtain⟨b,off,rfl,y,T,a⟩:=Bz Eb (R.out.below d) p
   have N:=Hq (fun n=>m.out k p n C.out);have O:=Hq (show ¬ P l[k]→∀ j (v:j<l.length),j<k+1→¬ P l[j]from fun h j v J=>by
    rcases Nat.lt_or_eq_of_le (Nat.le_of_lt_succ J)with h1|h1
    ·exact C.out j v h1
    ·subst h1;exact h)
   have r:=S.out l[k] (List.getElem_mem p) wr d;generalize l[k]=x at a N O r;obtain⟨D,E,F,G,H⟩:=x;have f:=Hq (show wr.rangeAt b (off+k*5) [.int .i64 D,.string E,.int .i64 F,.bool G,.int .i64 H]from a);have s:=Hq r;clear a C r;dsimp only[Fs]at s;have U:(0:Int)≤(k:Int):=(by omega);have V:(k:Int)<(l.length:Int):=(by omega);have X:IntKind.i64.wrap ((k:Int)+1)=(k:Int)+1:=IntWalk.i64_in _ (by omega)
   by_cases n:P ⟨D,E,F,G,H⟩
   ·have z:=Hq n
    clear n y
    go_wp2_with(first
     |with_reducible refine wpList_load_mid rfl 108 (.tmp 14) rfl b (off+k*5) rfl [.int .i64 D,.string E,.int .i64 F,.bool G,.int .i64 H] _ f.out Gy Kr Kr ?_
     |(go_at_fn g;(with_reducible refine s.out.mono ?_);rintro e Y ⟨q,rfl,B,t⟩;obtain rfl:q=true:=B.2 z.out;clear B))
    exact N.out z.out _ (Ag d t)
   ·have z:=Hq n
    clear n y
    go_wp2_with(first
     |with_reducible refine wpList_load_mid rfl 108 (.tmp 14) rfl b (off+k*5) rfl [.int .i64 D,.string E,.int .i64 F,.bool G,.int .i64 H] _ f.out Gy Kr Kr ?_
     |(go_at_fn g;(with_reducible refine s.out.mono ?_);rintro e Y ⟨q,rfl,B,t⟩;obtain rfl:q=false:=(by cases q with|true=>exact absurd (B.1 rfl) z.out|false=>rfl);clear B))
    go_roundw
    case rel=>exact⟨k+1,by omega,by go_num,O.out z.out,Ag d t⟩
    case measure=>simp[intOf];omega
  ·have Z:=Hq (u.out (fun j v=>C.out j v (by omega)) _ d)
   go_wp2_with fail;exact Z.out
abbrev mS (t:Rc.Be):Array Value:=#[t.txn,t.last,t.next,t.done]
theorem dN (P:Rc.Be→Prop)(g:Nat)(J:Array Value)(Z:∀ args w,(callFunc g args).run Tryz.prog w= .ok (.enter g args) w)(l:List Rc.Be)(hl:l.length≤140737488355328)(A:Option Addr)(c:Nat)(w:World)(K:Reads w A c l.length (l.flatMap F6))
 (L:∀ x∈l,∀ W,Bw w W→Cq g (#[.agg (mS x)]++J) W (Mr (P x) W)):
 Cq 76 #[.slice A l.length c,.func (.func g) #[] J] w (Hv P l w):=by
 have O:=Hq K;have R:=Hq L;have u:=Hq (fun h w' H=>aC (P:=P) (l:=l) (w:=w) (w':=w') h H);have m:=Hq (fun k hk n h w' H=>Vf (P:=P) (l:=l) (w:=w) (w':=w') (k:=k) hk n h H);generalize Hv P l w=Q at u m ⊢;clear K L;go_enter Tryz.func76,Tryz.ntmps76;go_wp2_with fail
 go_loopw [8] (fun i wr=>∃ k:Nat,k≤l.length∧i= .int .i64 k∧(∀ j (v:j<l.length),j<k→¬ P l[j])∧Bw w wr) (fun i _=>l.length-(intOf i).toNat)
 case atStart=>exact⟨0,Nat.zero_le _,rfl,fun _ _ h=>absurd h (by omega),Below.refl _ _⟩
 case round=>
  obtain⟨k,hk,rfl,o,d⟩:=hrel;have C:=Hq o;clear o
  by_cases p:k<l.length
  ·obtain⟨b,off,rfl,y,S,a⟩:=Bz Dr (O.out.below d) p
   have M:=Hq (fun n=>m.out k p n C.out);have N:=Hq (show ¬ P l[k]→∀ j (v:j<l.length),j<k+1→¬ P l[j]from fun h j v I=>by
    rcases Nat.lt_or_eq_of_le (Nat.le_of_lt_succ I)with h1|h1
    ·exact C.out j v h1
    ·subst h1;exact h)
   have r:=R.out l[k] (List.getElem_mem p) wr d;generalize l[k]=x at a M N r;obtain⟨D,E,F,G⟩:=x;have f:=Hq (show wr.rangeAt b (off+k*4) [.int .i64 D,.int .i64 E,.int .i64 F,.bool G]from a);have s:=Hq r;clear a C r;dsimp only[mS]at s;have T:(0:Int)≤(k:Int):=(by omega);have U:(k:Int)<(l.length:Int):=(by omega);have V:IntKind.i64.wrap ((k:Int)+1)=(k:Int)+1:=IntWalk.i64_in _ (by omega)
   by_cases n:P ⟨D,E,F,G⟩
   ·have z:=Hq n
    clear n y
    go_wp2_with(first
     |with_reducible refine wpList_load_mid rfl 59 (.tmp 14) rfl b (off+k*4) rfl [.int .i64 D,.int .i64 E,.int .i64 F,.bool G] _ f.out oH Kr Kr ?_
     |(go_at_fn g;(with_reducible refine s.out.mono ?_);rintro e X ⟨q,rfl,B,t⟩;obtain rfl:q=true:=B.2 z.out;clear B))
    exact M.out z.out _ (Ag d t)
   ·have z:=Hq n
    clear n y
    go_wp2_with(first
     |with_reducible refine wpList_load_mid rfl 59 (.tmp 14) rfl b (off+k*4) rfl [.int .i64 D,.int .i64 E,.int .i64 F,.bool G] _ f.out oH Kr Kr ?_
     |(go_at_fn g;(with_reducible refine s.out.mono ?_);rintro e X ⟨q,rfl,B,t⟩;obtain rfl:q=false:=(by cases q with|true=>exact absurd (B.1 rfl) z.out|false=>rfl);clear B))
    go_roundw
    case rel=>exact⟨k+1,by omega,by go_num,N.out z.out,Ag d t⟩
    case measure=>simp[intOf];omega
  ·have Y:=Hq (u.out (fun j v=>C.out j v (by omega)) _ d)
   go_wp2_with fail;exact Y.out
theorem Th (l:List Fr)(q:l.length≤1000000)(A:Option Addr)(c:Nat)(w:World)(a:Reads w A c l.length (l.flatMap Kw)):
 Cq 124 #[.slice A l.length c] w fun e w'=>∃ v,e= .returned v∧Dt Kw 5 108 w.heap.size w' v l∧Bw w w':=by
 obtain⟨i0,k,d,f,g⟩:=info_parts Xe;have m:=Hq a
 cases A with
 |none=>
  have h:l=[]:=by
   rcases Nat.eq_zero_or_pos l.length with h0|h0
   ·exact List.eq_nil_of_length_eq_zero h0
   ·obtain⟨b,off,e,_⟩:=a h0
    cases e
  subst h;clear a m;have n:∀ w,(binOp .eql 31 (.slice none 0 c) (.slice none 0 0)).run Tryz.prog w= .ok (.bool true) w:=fun w=>Lib.run_eql_slice_nil w 31 108 none 0 c 0 0 sQ;simp only[List.length_nil];go_enter Tryz.func124,Tryz.ntmps124;go_wp2_with fail;go_ret;exact⟨_,rfl,N9 _ _ _ _,Below.refl _ _⟩
 |some ad=>
  have i:=Hq (a.below (Ac w (.cells #[] 108)));have n:∀ w,(binOp .eql 31 (.slice (some ad) l.length c) (.slice none 0 0)).run Tryz.prog w= .ok (.bool false) w:=fun w=>Lib.run_eql_slice_nil w 31 108 (some ad) l.length c 0 0 sQ;clear a;go_enter Tryz.func124,Tryz.ntmps124
  go_wp2_with(at_builtin;refine Da Kr fun K o=>Mx (w.alloc (.cells #[] 108)) (.tmp 5) (.tmp 6) 31 108 i0 (.agg #[(),"",(),false,()]) 5 48 sQ k d f g rfl (by omega) rfl w.heap.size _ 0 [] rfl (L6 w 108 5) (some ad) l.length c (l.flatMap Kw) rfl i.out (by rw[Co Eb]) (gA l) (by omega) (by omega) (by simp) ?_;intro v2 r j s p;refine o _ _ ?_)
  go_ret;rw[List.nil_append,Nat.zero_add]at j;exact⟨_,rfl,j,(Ac w (.cells #[] 108)).trans p⟩
end Go.Proofs.YtmfkhdhnbkambaaGreatDoor
