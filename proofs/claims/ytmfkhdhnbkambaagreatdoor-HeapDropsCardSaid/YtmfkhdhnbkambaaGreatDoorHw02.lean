import Derived.Test.YtmfkhdhnbkambaaGreatDoorHw00
import Derived.Test.YtmfkhdhnbkambaaGreatDoorHw01
import Derived.Deep.QuietTactic
import Derived.BigQuiet
import Derived.Deep.DeepCutAuto
import Derived.Deep.LoopGhost
import Derived.Deep.RegionHeld3
import Derived.Deep.AppendLies
import Derived.Laws.ResultCell
import Derived.Laws.Tables
import Derived.BigRegion
import Derived.IntWalk
import Derived.Maps.AppendAt
import Derived.OwnWalk
import Derived.Deep.MidRow
set_option maxRecDepth 100000
set_option maxHeartbeats 16000000
set_option linter.unusedSimpArgs false
namespace Pg
open Oct
structure Ct where
 lsn:Nat
 kind:Nat
 link:Nat
 Ai:List ByteArray
def Small (x:Ct):Prop:=x.lsn<281474976710656∧x.kind≤4∧x.link<16777216
def zero:Ct:=⟨0,0,0,[]⟩
def An:List ByteArray→Nat
 |[]=>0
 |r::rs=>r.size+An rs
theorem D4 (a b:List ByteArray):An (a++b)=An a+An b:=by
 induction a with
 |nil=>simp[An]
 |cons r a ih=>simp[An,ih];omega
theorem Ci (rs:List ByteArray)(k:Nat):An (rs.take k)≤An rs:=by
 have h:=D4 (rs.take k) (rs.drop k);rw[List.take_append_drop]at h;omega
theorem Hr (rs:List ByteArray)(k:Nat)(h:k<rs.length):An (rs.take (k+1))=An (rs.take k)+rs[k].size:=by
 rw[List.take_succ_eq_append_getElem h,D4];simp[An]
def Ay (rs:List ByteArray):Nat:=19+4*rs.length+An rs
def Dv (rs:List ByteArray):Nat→Nat
 |0=>0
 |m+1=>if(rs[m]?.getD ⟨#[]⟩).size=0 then Dv rs m else m+1
theorem Oq (rs:List ByteArray)(m:Nat):Dv rs m≤m:=by
 induction m with
 |zero=>exact Nat.le_refl _
 |succ m ih=>unfold Dv;split<;>omega
def trim (rs:List ByteArray):List ByteArray:=rs.take (Dv rs rs.length)
def L7 (at_:Nat)(r:ByteArray):List UInt8:=if r.size=0 then Bm 0 4 else Bm (at_-r.size) 2++Bm r.size 2
def Cs (at_:Nat):List ByteArray→List UInt8
 |[]=>[]
 |r::rs=>L7 at_ r++Cs (at_-r.size) rs
theorem Nu (a b:List ByteArray):∀ at_:Nat,Cs at_ (a++b)=Cs at_ a++Cs (at_-An a) b:=by
 induction a with
 |nil=>intro at_;simp[Cs,An]
 |cons r a ih=>intro at_;simp only[List.cons_append,Cs,ih,An,List.append_assoc,Nat.sub_sub]
theorem Qf (rs:List ByteArray)(k:Nat)(h:k<rs.length):Cs 512 (rs.take (k+1))=Cs 512 (rs.take k)++L7 (512-An (rs.take k)) rs[k]:=by
 rw[List.take_succ_eq_append_getElem h,Nu];simp[Cs]
theorem Wg (at_:Nat)(r:ByteArray):(L7 at_ r).length=4:=by
 unfold L7;split<;>simp[Bc]
theorem Ed (rs:List ByteArray):∀ at_,(Cs at_ rs).length=4*rs.length:=by
 induction rs with
 |nil=>intro _;rfl
 |cons r rs ih=>intro at_;simp[Cs,Wg,ih];omega
def Dh:List ByteArray→List UInt8
 |[]=>[]
 |r::rs=>Dh rs++r.data.toList
theorem E9 (rs:List ByteArray):(Dh rs).length=An rs:=by
 induction rs with
 |nil=>rfl
 |cons r rs ih=>simp[Dh,An,ih];omega
theorem bR (rs:List ByteArray)(k:Nat)(h:k<rs.length):Dh (rs.drop k)=Dh (rs.drop (k+1))++rs[k].data.toList:=by
 rw[List.drop_eq_getElem_cons h];rfl
theorem Ot (a b:List ByteArray):Dh (a++b)=Dh b++Dh a:=by
 induction a with
 |nil=>simp[Dh]
 |cons r a ih=>simp[Dh,ih]
theorem bS (rs:List ByteArray)(k:Nat)(h:k<rs.length):Dh (rs.take (k+1))=rs[k].data.toList++Dh (rs.take k):=by
 rw[List.take_succ_eq_append_getElem h,Ot];simp[Dh]
def Ls (x:Ct)(n at_:Nat):List UInt8:=Bm 0 4++Bm x.lsn 6++Bm x.kind 1++Bm 0 1++Bm x.link 3++Bm n 2++Bm at_ 2
theorem Wh (x:Ct)(n at_:Nat):(Ls x n at_).length=19:=by simp[Ls,Bc]
def L8 (x:Ct)(rs:List ByteArray):List UInt8:=
 if 512<Ay rs then[]else Ls x rs.length (512-An rs)++Cs 512 rs++List.replicate (512-Ay rs) 0++Dh rs
def Cx (x:Ct):List UInt8:=L8 x (trim x.Ai)
theorem Qg (x:Ct)(rs:List ByteArray)(h:¬ 512<Ay rs):(L8 x rs).length=512:=by
 rw[L8,if_neg h]
 simp[Wh,Ed,E9]
 unfold Ay at h ⊢;omega
def Du (p:List UInt8):Nat→Option (List ByteArray)
 |0=>some []
 |k+1=>match Du p k with
  |none=>none
  |some rs=>
   if 400<Dj p (21+4*k) 2∨512<Dj p (19+4*k) 2+Dj p (21+4*k) 2 then none
   else some (rs++[⟨((p.drop (Dj p (19+4*k) 2)).take (Dj p (21+4*k) 2)).toArray⟩])
theorem Hs (p:List UInt8):∀ (k:Nat) (rs:List ByteArray),Du p k=some rs→rs.length=k:=by
 intro k
 induction k with
 |zero=>intro rs h;simp[Du]at h;rw[h];rfl
 |succ k a=>
  intro rs h;unfold Du at h
  split at h
  ·cases h
  ·rename_i c b
   split at h
   ·cases h
   ·injection h with h
    rw[← h,List.length_append,a _ b];rfl
theorem Qh (p:List UInt8){k:Nat}(h:Du p k=none):∀ j,Du p (k+j)=none:=by
 intro j
 induction j with
 |zero=>exact h
 |succ j ih=>
  show Du p ((k+j)+1)=none
  simp only[Du,ih]
def rd (p:List UInt8):Option Ct:=
 if p.length≠512∨4<Dj p 10 1∨123<Dj p 15 2 then none
 else(Du p (Dj p 15 2)).map fun rs=>⟨Dj p 4 6,Dj p 10 1,Dj p 12 3,rs⟩
def right (p:List UInt8):Option Ct:=(rd p).filter fun x=>decide (Cx x=Bm 0 4++p.drop 4)
def Kb (p:List UInt8):Ct:=(right p).getD zero
theorem Rs (s:List UInt8)(a k:Nat):Oct.Dj s a k<256^k:=by
 have b:=Oct.It ((s.drop a).take k);have c:256^((s.drop a).take k).length≤256^k:=Nat.pow_le_pow_right (by omega) (by rw[List.length_take];omega);unfold Oct.Dj;omega
theorem Wi (p:List UInt8):∀ (k:Nat) (rs:List ByteArray),Du p k=some rs→∀ r∈rs,r.size≤400:=by
 intro k
 induction k with
 |zero=>intro rs h;simp[Du]at h;subst h;intro r hr;cases hr
 |succ k a=>
  intro rs h;unfold Du at h
  split at h
  ·cases h
  ·rename_i b c
   split at h
   ·cases h
   ·rename_i d
    injection h with h
    intro r hr;rw[← h,List.mem_append]at hr;rcases hr with hr|hr
    ·exact a b c r hr
    ·rw[List.mem_singleton.1 hr]
     simp[ByteArray.size]
     omega
theorem Yj (rs:List ByteArray)(m:Nat)(h:∀ r∈rs,r.size≤m):An rs≤m*rs.length:=by
 induction rs with
 |nil=>simp[An]
 |cons r rs ih=>
  have b:=h r (by simp);have c:=ih (fun r a=>h r (by simp[a]));simp only[An,List.length_cons,Nat.mul_succ];omega
structure Ou (x:Ct):Prop where
 small:Small x
 len:x.Ai.length≤123
 each:∀ r∈x.Ai,r.size≤400
theorem Ou.sum {x:Ct}(h:Ou x):An x.Ai≤49200:=by
 have:=Yj x.Ai 400 h.each;have:=h.len;omega
theorem Ou.Ay {x:Ct}(h:Ou x):Pg.Ay x.Ai≤60000:=by
 have:=h.sum;have:=h.len;unfold Pg.Ay;omega
theorem Ut:Ou zero:=⟨⟨by decide,by decide,by decide⟩,by decide,by intro r a;cases a⟩
theorem Ra {p:List UInt8}{x:Ct}(h:rd p=some x):Ou x∧p.length=512:=by
 unfold rd at h
 split at h
 ·cases h
 ·rename_i d
  cases a:Du p (Dj p 15 2)with
  |none=>rw[a]at h;cases h
  |some rs=>
   rw[a]at h
   injection h with h
   subst h;have b:=Rs p 4 6;have c:=Rs p 12 3;refine⟨⟨⟨by simpa using b,(by show Dj p 10 1≤4;omega),by simpa using c⟩,(by show rs.length≤123;rw[Hs p _ rs a];omega),Wi p _ rs a⟩,by omega⟩
theorem bT (x:Ct):Cx x=[]∨((Cx x).length=512∧∀ p:List UInt8,(Cx x=Bm 0 4++p.drop 4↔(Cx x).drop 4=p.drop 4)):=by
 by_cases h:512<Pg.Ay (trim x.Ai)
 ·left;unfold Cx L8;rw[if_pos h]
 ·right
  refine⟨Qg x _ h,fun p=>?_⟩;have b:Cx x=Bm 0 4++(Cx x).drop 4:=by
   unfold Cx L8;rw[if_neg h];unfold Ls;simp only[List.append_assoc];rw[List.drop_append_of_le_length (by rw[Bc];exact Nat.le_refl _),List.drop_of_length_le (by rw[Bc];exact Nat.le_refl _),List.nil_append]
  constructor
  ·intro a;rw[a,List.drop_append_of_le_length (by rw[Bc];exact Nat.le_refl _),List.drop_of_length_le (by rw[Bc];exact Nat.le_refl _),List.nil_append]
  ·intro a;rw[b,a]
theorem K8 {p:List UInt8}{x:Ct}:right p=some x↔rd p=some x∧Cx x=Bm 0 4++p.drop 4:=by
 unfold right;rw[Option.filter_eq_some_iff,decide_eq_true_iff]
theorem Rt {p:List UInt8}{x:Ct}(h:rd p=some x):right p=if decide (Cx x=Bm 0 4++p.drop 4)then some x else none:=by
 unfold right;rw[h];rfl
theorem Ht {p:List UInt8}(h:rd p=none):right p=none:=by unfold right;rw[h];rfl
theorem Hf {p:List UInt8}{x:Ct}(h:right p=some x):Ou x∧p.length=512:=Ra (K8.1 h).1
theorem Ib (p:List UInt8):Ou (Kb p):=by
 unfold Kb
 cases h:right p with
 |none=>exact Ut
 |some x=>exact(Hf h).1
def Ba (rs:List ByteArray)(i:Int):ByteArray:=if i<0 then⟨#[]⟩else(rs[i.toNat]?).getD ⟨#[]⟩
def Db:List ByteArray→Nat
 |[]=>0
 |r::rs=>if r.size=0 then 0 else Db rs+1
theorem Oa {rs:List ByteArray}{i:Int}(h:i<0):Ba rs i=⟨#[]⟩:=if_pos h
theorem L9 {rs:List ByteArray}{i:Int}(h:(rs.length:Int)≤i):Ba rs i=⟨#[]⟩:=by
 unfold Ba;rw[if_neg (by omega),List.getElem?_eq_none (by omega)];rfl
theorem Uu {rs:List ByteArray}{k:Nat}(h:k<rs.length):Ba rs (k:Int)=rs[k]:=by
 unfold Ba;rw[if_neg (by omega),show((k:Int).toNat)=k from rfl,List.getElem?_eq_getElem h];rfl
theorem nJ (rs:List ByteArray)(k:Nat)(h:k<rs.length):Db (rs.drop k)=if rs[k].size=0 then 0 else Db (rs.drop (k+1))+1:=by
 rw[List.drop_eq_getElem_cons h];rfl
theorem Ru (rs:List ByteArray):Db rs≤rs.length:=by
 induction rs with
 |nil=>exact Nat.le_refl _
 |cons r rs ih=>unfold Db;split<;>simp<;>omega
theorem nK (a b:List UInt8)(u k:Nat)(h:u<256^k):Dj (a++(Bm u k++b)) a.length k=u:=by
 unfold Dj;rw[List.drop_left,List.take_left' (Bc u k),iC,Nat.mod_eq_of_lt h]
theorem I2 (l a b:List UInt8)(n u k:Nat)(c:l=a++(Bm u k++b))(d:a.length=n)(h:u<256^k):Dj l n k=u:=by
 rw[c,← d];exact nK a b u k h
def Jc (rs:List ByteArray):Prop:=∀ r,rs.getLast? =some r→r.size≠0
theorem K9 (rs:List ByteArray):trim rs=rs↔Jc rs:=by
 have b:trim rs=rs↔Dv rs rs.length=rs.length:=by
  unfold trim
  constructor
  ·intro h
   have c:=congrArg List.length h;rw[List.length_take]at c;have:=Oq rs rs.length;omega
  ·intro h;rw[h,List.take_length]
 rw[b];unfold Jc;rw[List.getLast?_eq_getElem?];rcases d:rs.length with _|m
 ·simp[Dv,d]
 ·have a:m<rs.length:=by omega
  have e:rs[m]? =some rs[m]:=List.getElem?_eq_getElem a;simp only[Nat.add_sub_cancel,e,Option.some.injEq,forall_eq',Dv,Option.getD_some]
  constructor
  ·intro h f
   rw[if_pos f]at h;have:=Oq rs m;omega
  ·intro h;rw[if_neg h]
theorem Pn (rs:List ByteArray):Jc (trim rs):=by
 unfold trim;have key:∀ m,m≤rs.length→Jc (rs.take (Dv rs m)):=by
  intro m
  induction m with
  |zero=>intro _ r a;simp[Dv]at a
  |succ m b=>
   intro c;unfold Dv
   split
   ·exact b (by omega)
   ·rename_i h
    intro r a;rw[List.getLast?_eq_getElem?,List.length_take,Nat.min_eq_left c,Nat.add_sub_cancel,List.getElem?_take_of_lt (by omega)]at a;rw[a]at h;exact h
 exact key _ (Nat.le_refl _)
theorem rV {x:Ct}(h:Ay (trim x.Ai)≤512):Cx x=Ls x (trim x.Ai).length (512-An (trim x.Ai))++Cs 512 (trim x.Ai)++List.replicate (512-Ay (trim x.Ai)) 0++Dh (trim x.Ai):=by
 unfold Cx L8;rw[if_neg (by omega)]
def Ju (x:Ct)(n a:Nat):List UInt8:=Bm x.lsn 6++(Bm x.kind 1++(Bm 0 1++(Bm x.link 3++(Bm n 2++Bm a 2))))
theorem nL (x:Ct)(n a:Nat):Ls x n a=Bm 0 4++Ju x n a:=by unfold Ls Ju;simp only[List.append_assoc]
theorem Iu (x:Ct)(n a:Nat):(Ju x n a).length=15:=by simp[Ju,Bc]
def G9 (x:Ct)(rs:List ByteArray):List UInt8:=Ju x rs.length (512-An rs)++(Cs 512 rs++(List.replicate (512-Ay rs) 0++Dh rs))
theorem Wj (x:Ct)(rs:List ByteArray)(h:Ay rs≤512):(G9 x rs).length=508:=by
 unfold G9;simp only[List.length_append,Iu,Ed,List.length_replicate,E9];have a:Ay rs=19+4*rs.length+An rs:=rfl;omega
theorem My {x:Ct}(h:Ay (trim x.Ai)≤512):Cx x=Bm 0 4++G9 x (trim x.Ai):=by
 rw[rV h,nL];unfold G9;simp only[List.append_assoc]
structure nM (x:Ct) (l:List UInt8) (n:Nat):Prop where
 lsn:Dj l 4 6=x.lsn
 kind:Dj l 10 1=x.kind
 link:Dj l 12 3=x.link
 count:Dj l 15 2=n
theorem Qi (h:List UInt8)(c:h.length=4)(x:Ct)(d:Small x)(n a:Nat)(e:n<65536)(b:List UInt8):nM x (h++(Ju x n a++b)) n:=by
 obtain⟨f,g,i⟩:=d
 constructor
 ·exact I2 _ h (Bm x.kind 1++(Bm 0 1++(Bm x.link 3++(Bm n 2++(Bm a 2++b))))) _ _ _ (by simp[Ju]) (by simp[c]) (by omega)
 ·exact I2 _ (h++Bm x.lsn 6) (Bm 0 1++(Bm x.link 3++(Bm n 2++(Bm a 2++b)))) _ _ _ (by simp[Ju]) (by simp[Bc,c]) (by omega)
 ·exact I2 _ (h++Bm x.lsn 6++Bm x.kind 1++Bm 0 1) (Bm n 2++(Bm a 2++b)) _ _ _ (by simp[Ju]) (by simp[Bc,c]) (by omega)
 ·exact I2 _ (h++Bm x.lsn 6++Bm x.kind 1++Bm 0 1++Bm x.link 3) (Bm a 2++b) _ _ _ (by simp[Ju]) (by simp[Bc,c]) (by omega)
theorem nN (a:Nat)(r:ByteArray):L7 a r=Bm (if r.size=0 then 0 else a-r.size) 2++Bm r.size 2:=by
 unfold L7
 by_cases h:r.size=0
 ·rw[if_pos h,if_pos h,h];rfl
 ·rw[if_neg h,if_neg h]
theorem Wk (rs:List ByteArray)(k:Nat)(h:k<rs.length):Cs 512 rs=Cs 512 (rs.take k)++(L7 (512-An (rs.take k)) rs[k]++Cs (512-An (rs.take k)-rs[k].size) (rs.drop (k+1))):=by
 have a:rs=rs.take k++rs[k]::rs.drop (k+1):=by rw[← List.drop_eq_getElem_cons h,List.take_append_drop]
 conv=>lhs;rw[a]
 rw[Nu];rfl
theorem Yk (rs:List ByteArray)(k:Nat)(h:k<rs.length):Dh rs=Dh (rs.drop (k+1))++(rs[k].data.toList++Dh (rs.take k)):=by
 have a:rs=rs.take k++rs[k]::rs.drop (k+1):=by rw[← List.drop_eq_getElem_cons h,List.take_append_drop]
 conv=>lhs;rw[a]
 rw[Ot];simp[Dh]
theorem Ma (rs:List ByteArray)(k:Nat)(h:k<rs.length):An rs=An (rs.take k)+rs[k].size+An (rs.drop (k+1)):=by
 have a:rs=rs.take k++rs[k]::rs.drop (k+1):=by rw[← List.drop_eq_getElem_cons h,List.take_append_drop]
 conv=>lhs;rw[a]
 rw[D4];simp[An];omega
theorem bU (h:List UInt8)(g:h.length=4)(x:Ct)(rs:List ByteArray)(o:Ay rs≤512)(m:∀ r∈rs,r.size≤400):
 ∀ k,k≤rs.length→Du (h++G9 x rs) k=some (rs.take k):=by
 intro k
 induction k with
 |zero=>intro _;simp[Du]
 |succ k ih=>
  intro hk;have a:k<rs.length:=by omega
  unfold Du;rw[ih (by omega)];simp only;have l:=Ma rs k a;have p:Ay rs=19+4*rs.length+An rs:=rfl;have n:rs[k].size≤400:=m _ (List.getElem_mem a);have c:=Wk rs k a;have i:=Yk rs k a;have d:=nN (512-An (rs.take k)) rs[k];have e:(Cs 512 (rs.take k)).length=4*k:=by rw[Ed,List.length_take];omega
  have g1:Dj (h++G9 x rs) (19+4*k) 2=if rs[k].size=0 then 0 else 512-An (rs.take k)-rs[k].size:=by
   refine I2 _ (h++Ju x rs.length (512-An rs)++Cs 512 (rs.take k)) (Bm rs[k].size 2++(Cs (512-An (rs.take k)-rs[k].size) (rs.drop (k+1))++(List.replicate (512-Ay rs) 0++Dh rs))) _ _ _ ?_ ?_ ?_
   ·unfold G9;rw[c,d];simp only[List.append_assoc]
   ·rw[List.length_append,List.length_append,Iu,e,g]
   ·split<;>omega
  have g2:Dj (h++G9 x rs) (21+4*k) 2=rs[k].size:=by
   refine I2 _ (h++Ju x rs.length (512-An rs)++Cs 512 (rs.take k)++Bm (if rs[k].size=0 then 0 else 512-An (rs.take k)-rs[k].size) 2) (Cs (512-An (rs.take k)-rs[k].size) (rs.drop (k+1))++(List.replicate (512-Ay rs) 0++Dh rs)) _ _ _ ?_ ?_ ?_
   ·unfold G9;rw[c,d];simp only[List.append_assoc]
   ·rw[List.length_append,List.length_append,List.length_append,Iu,e,Bc,g];omega
   ·omega
  rw[g1,g2];rw[if_neg (by split<;>omega)];rw[List.take_succ_eq_append_getElem a]
  congr 2
  by_cases j:rs[k].size=0
  ·rw[j]
   have:rs[k]=⟨#[]⟩:=(by apply ByteArray.ext;exact Array.eq_empty_of_size_eq_zero j);rw[this];rfl
  ·rw[if_neg j]
   have f:(h++(Ju x rs.length (512-An rs)++(Cs 512 rs++(List.replicate (512-Ay rs) 0++Dh (rs.drop (k+1)))))).length=512-An (rs.take k)-rs[k].size:=by
    simp only[List.length_append,Iu,Ed,List.length_replicate,E9,g];omega
   have b:h++G9 x rs=(h++(Ju x rs.length (512-An rs)++(Cs 512 rs++(List.replicate (512-Ay rs) 0++Dh (rs.drop (k+1))))))++(rs[k].data.toList++Dh (rs.take k)):=by
    unfold G9
    conv=>lhs;rw[i]
    simp only[List.append_assoc]
   rw[b,← f,List.drop_left,List.take_left' (by simp)]
theorem rW (h:List UInt8)(b:h.length=4){x:Ct}(c:Small x)(rs:List ByteArray)(d:Ay rs≤512)(f:∀ r∈rs,r.size≤400):rd (h++G9 x rs)=some {x with Ai:=rs}:=by
 have i:Ay rs=19+4*rs.length+An rs:=rfl;have a:=Qi h b x c rs.length (512-An rs) (by omega) (Cs 512 rs++(List.replicate (512-Ay rs) 0++Dh rs));have e:=bU h b x rs d f rs.length (Nat.le_refl _);rw[List.take_length]at e;have g:(h++G9 x rs).length=512:=by rw[List.length_append,Wj x rs d,b]
 change nM x (h++G9 x rs) rs.length at a;unfold rd;rw[a.kind,a.count,a.lsn,a.link,g,if_neg (by have:=c.2.1;omega),e]
 rfl
theorem Ee {rs:List ByteArray}(h:Jc rs):trim rs=rs:=(K9 rs).2 h
theorem Rv (h:List UInt8)(a:h.length=4){x:Ct}(d:Small x)(rs:List ByteArray)(b:Ay rs≤512)(e:∀ r∈rs,r.size≤400)(f:Jc rs):right (h++G9 x rs)=some {x with Ai:=rs}:=by
 rw[K8];refine⟨rW h a d rs b e,?_⟩;have c:trim ({x with Ai:=rs}:Ct).Ai=rs:=Ee f;rw[My (x:={x with Ai:=rs}) (by rw[c];exact b),c,← a,List.drop_left]
 rfl
theorem bV {x:Ct}(b:Small x)(a:Ay (trim x.Ai)≤512)(c:∀ r∈x.Ai,r.size≤400):right (Cx x)=some {x with Ai:=trim x.Ai}:=by
 rw[My a];exact Rv _ (Bc 0 4) b _ a (fun r d=>c r (List.mem_of_mem_take d)) (Pn _)
theorem Jv {p:List UInt8}{x:Ct}(h:right p=some x):Jc x.Ai∧Ay x.Ai≤512:=by
 obtain⟨a,g⟩:=K8.1 h;obtain⟨k,b⟩:=Ra a;have hlen:(Cx x).length=512:=by
  rw[g,List.length_append,Bc,List.length_drop,b]
 have c:Ay (trim x.Ai)≤512:=by
  rcases Nat.lt_or_ge 512 (Ay (trim x.Ai))with h3|h3
  ·have:Cx x=[]:=by unfold Cx L8;rw[if_pos h3]
   rw[this]at hlen;cases hlen
  ·exact h3
 have d:=Qi (Bm 0 4) (Bc 0 4) x k.small (trim x.Ai).length (512-An (trim x.Ai)) (by have:Ay (trim x.Ai)=19+4*(trim x.Ai).length+An (trim x.Ai):=rfl;omega) (Cs 512 (trim x.Ai)++(List.replicate (512-Ay (trim x.Ai)) 0++Dh (trim x.Ai)));change nM x (Bm 0 4++G9 x (trim x.Ai)) _ at d;rw[← My c]at d;have l:=d.count;have e:Dj (Cx x) 15 2=Dj p 15 2:=by
  rw[g];unfold Dj;rw[show 15=4+11 from rfl,← List.drop_drop,← List.drop_drop,List.drop_left' (Bc 0 4)]
 have m:x.Ai.length=Dj p 15 2:=by
  unfold rd at a
  split at a
  ·cases a
  ·cases f:Du p (Dj p 15 2)with
   |none=>rw[f]at a;cases a
   |some rs=>
    rw[f]at a
    injection a with a
    rw[← a];exact Hs p _ rs f
 have i:trim x.Ai=x.Ai:=by
  have j:(trim x.Ai).length=x.Ai.length:=by rw[m,← e,l]
  unfold trim at j ⊢;rw[List.length_take]at j;exact List.take_of_length_le (by omega)
 exact⟨(K9 _).1 i,by rw[i]at c;exact c⟩
theorem Yl {p:List UInt8}{x:Ct}(h:right p=some x):p=p.take 4++G9 x x.Ai:=by
 obtain⟨c,d⟩:=Jv h;have a:trim x.Ai=x.Ai:=Ee c;have b:=(K8.1 h).2;rw[My (by rw[a];exact d),a]at b;have e:=List.append_cancel_left b;rw[e,List.take_append_drop]
theorem iL {p q:List UInt8}{x:Ct}(h:right p=some x)(f:q.length=512)(a:q.drop 4=p.drop 4):right q=some x:=by
 obtain⟨b,c⟩:=Jv h;have g:=(Hf h).2;have d:=Yl h;have e:p.drop 4=G9 x x.Ai:=by
  conv=>lhs;rw[d]
  exact List.drop_left' (by rw[List.length_take];omega)
 rw[← List.take_append_drop 4 q,a,e];exact Rv _ (by rw[List.length_take];omega) (Hf h).1.small _ c (Hf h).1.each b
end Pg
namespace Go.Proofs.YtmfkhdhnbkambaaGreatDoor
open Go.RowKit
def Cells (w:World)(A:Option Addr)(c:Nat)(rs:List ByteArray):Prop:=
 0<rs.length→∃ b off,A=some ⟨b,off,none⟩∧rs.length≤c∧b<w.heap.size∧∀ j (h:j<rs.length),w.cell? ⟨b,off+j,none⟩=some (.string rs[j])
theorem Cells.below {w w':World}{A:Option Addr}{c:Nat}{rs:List ByteArray}(h:Cells w A c rs)(e:Bw w w'):Cells w' A c rs:=fun f=>by
 obtain⟨b,off,g,i,d,a⟩:=h f;refine⟨b,off,g,i,Nat.lt_of_lt_of_le d e.size,fun j k=>?_⟩;rw[e.cell (p:=⟨b,off+j,none⟩) d];exact a j k
theorem Cells.at_ {w:World}{A:Option Addr}{c:Nat}{rs:List ByteArray}(h:Cells w A c rs){k:Nat}(hk:k<rs.length):∃ b off,A=some ⟨b,off,none⟩∧rs.length≤c∧b<w.heap.size∧w.cell? ⟨b,off+k,none⟩=some (.string rs[k]):=by
 obtain⟨b,off,e,f,d,a⟩:=h (by omega);exact⟨b,off,e,f,d,a k hk⟩
theorem fF {k:IntKind}{a b:Int}(h:a=b):Ending.returned (.int k a)= .returned (.int k b):=by rw[h]
theorem Rb {a b:ByteArray}(h:a=b):Ending.returned (.string a)= .returned (.string b):=by rw[h]
theorem andThen {a b c:World}(h:Bw a b)(k:Bw b c):Bw a c:=h.trans (k.mono h.size)
theorem Rw (A:Option Addr)(c:Nat)(rs:List ByteArray)(m:Pg.Ay rs≤1099511627776)(w:World)(h:Cells w A c rs):
 Cq 110 #[.slice A rs.length c] w fun e w'=>e= .returned (.int .i64 (Pg.Ay rs))∧w=w':=by
 unfold Pg.Ay at m;have o:=Hq h;clear h;go_enter Tryz.func110,Tryz.ntmps110;go_wp2_with fail
 go_loop [3,12] (fun n i=>∃ k:Nat,k≤rs.length∧i= .int .i64 k∧n= .int .i64 ((19+4*rs.length+Pg.An (rs.take k):Nat):Int)) (fun _ i=>rs.length-(intOf i).toNat)
 case atStart=>exact⟨0,Nat.zero_le _,rfl,by simp[Pg.An]⟩
 case round=>
  obtain⟨k,hk,rfl,rfl⟩:=hrel;have p:=Pg.Ci rs k
  by_cases f:k<rs.length
  ·obtain⟨b,off,rfl,t,q,d⟩:=o.out.at_ f
   have j:=Hq (Pg.Hr rs k f);have a:=Pg.Ci rs (k+1);have g:Pg.An (rs.take k)+rs[k].size≤Pg.An rs:=(by rw[← j.out];exact a);clear a;generalize l:rs[k]=r at d g;have s:=Hq l;clear l;go_wp2_with fail
   go_round
   case rel=>exact⟨k+1,by omega,by go_num,by rw[j.out,s.out];go_num⟩
   case measure=>simp[intOf];omega
  ·obtain rfl:k=rs.length:=by omega
   go_wp2_with fail;go_ret;exact⟨fF (by unfold Pg.Ay;omega),rfl⟩
def Uv (x:Pg.Ct)(A:Option Addr)(m c:Nat):Obj:=.cells #[x.lsn,x.kind,x.link,.slice A m c] 151
theorem F8 (r:ByteArray):r.toList.isEmpty=decide (r.size=0):=by
 rw[ByteArray.toList_eq];have h:r.data.toList.length=r.size:=by simp
 cases b:r.data.toList with
 |nil=>rw[b]at h;simp at h;simp[h.symm]
 |cons a l=>
  rw[b,List.length_cons]at h;simp only[List.isEmpty_cons];exact(decide_eq_false (by omega)).symm
theorem iM (w:World)(o1 a o3:Obj):(((w.alloc o1).alloc a).alloc o3).heap[w.heap.size]? =some o1∧(((w.alloc o1).alloc a).alloc o3).heap[w.heap.size+1]? =some a∧(((w.alloc o1).alloc a).alloc o3).heap[w.heap.size+1+1]? =some o3∧(((w.alloc o1).alloc a).alloc o3).heap.size=w.heap.size+3:=by
 have e:(((w.alloc o1).alloc a).alloc o3).heap=((w.heap.push o1).push a).push o3:=rfl;rw[e];refine⟨?_,?_,?_,by simp⟩
 ·rw[Array.getElem?_push_lt (by simp;omega),Array.getElem_push_lt (by simp),Array.getElem_push_eq]
 ·rw[Array.getElem?_push_lt (by simp),Array.getElem_push];simp
 ·rw[Array.getElem?_push];simp
theorem nO (n size:Int)(d:0≤size)(f:size≤8)(X:Nat)(v0 v1 v2 v3:Value)(b w:World)(i:X<b.heap.size)
 (h:w.cell? ⟨X,0,none⟩=some v0∧w.cell? ⟨X,1,none⟩=some v1∧w.cell? ⟨X,2,none⟩=some v2∧w.cell? ⟨X,3,none⟩=some v3∧Bw b w):
 Cq 153 #[n,size] w fun e w'=>e= .returned (.string (Oct.Bh n size))∧
  (w'.cell? ⟨X,0,none⟩=some v0∧w'.cell? ⟨X,1,none⟩=some v1∧w'.cell? ⟨X,2,none⟩=some v2∧w'.cell? ⟨X,3,none⟩=some v3∧Bw b w'):=by
 obtain⟨c0,g,c2,c3,c⟩:=h;have j:=c.size;refine(Hp n size d f w).mono ?_;rintro e w' ⟨rfl,a⟩;refine⟨rfl,?_,?_,?_,?_,andThen c a⟩
 ·rw[a.cell (p:=⟨X,0,none⟩) (by show X<_;omega)];exact c0
 ·rw[a.cell (p:=⟨X,1,none⟩) (by show X<_;omega)];exact g
 ·rw[a.cell (p:=⟨X,2,none⟩) (by show X<_;omega)];exact c2
 ·rw[a.cell (p:=⟨X,3,none⟩) (by show X<_;omega)];exact c3
theorem Mb (x:Pg.Ct)(A:Option Addr)(c:Nat)(Q:Pg.Small x)(hb:Pg.Ay x.Ai≤1099511627776)(w:World)(h:Cells w A c x.Ai):
 Cr 128 #[.agg #[x.lsn,x.kind,x.link,.slice A x.Ai.length c]] w (.string ⟨(Pg.Cx x).toArray⟩):=by
 have b2:=Hq Q;clear Q;have HC:=Hq h;have b3:x.Ai.length≤1099511627776:=by unfold Pg.Ay at hb;omega
 have HB:=Hq hb;clear h hb;go_enter Tryz.func128,Tryz.ntmps128
 go_upto_block 0 with(fail)
 go_cut [] (fun wc=>∃ m:Nat,m≤x.Ai.length∧Pg.Dv x.Ai x.Ai.length=m∧wc=w.alloc (Uv x A m c))
 case first=>
  go_wp2_with fail
  go_loopg [] x.Ai.length (fun m wr=>m≤x.Ai.length∧Pg.Dv x.Ai m=Pg.Dv x.Ai x.Ai.length∧wr=w.alloc (Uv x A m c))
  case atStart=>exact⟨Nat.le_refl _,rfl,rfl⟩
  case round=>
   obtain⟨hm,ht,rfl⟩:=hrel;have HT:=Hq ht;clear ht;unfold Uv
   by_cases h0:gk=0
   ·subst h0
    go_wp2_with fail;go_meet
    case rel=>exact⟨0,Nat.zero_le _,by rw[← HT.out];rfl,rfl⟩
   ·obtain⟨b,off,rfl,hc,C,f⟩:=HC.out.at_ (k:=gk-1) (by omega)
    obtain⟨m,rfl⟩:∃ m,gk=m+1:=⟨gk-1,by omega⟩;simp only[Nat.add_sub_cancel]at f;have o:=F8 x.Ai[m];have HR:=Hq (show x.Ai[m]?.getD ⟨#[]⟩=x.Ai[m] by simp[show m<x.Ai.length by omega]);have ao:(World.cell? (w.alloc (Uv x (some ⟨b,off,none⟩) (m+1) c)) ⟨b,off+m,none⟩)=some (.string x.Ai[m]):=by
     rw[World.cell?_alloc_lt _ _ _ C];exact f
    unfold Uv at ao;generalize hr:x.Ai[m]=r at f o ao HR
    by_cases G:r.size=0
    ·have I:r.toList.isEmpty=true:=by rw[o];exact decide_eq_true G
     clear o hr;have X:=Hq G;clear G;go_wp2_with fail
     go_roundg m
     case measure=>omega
     case rel=>exact⟨by omega,by rw[← HT.out,Pg.Dv,HR.out,if_pos X.out],rfl⟩
    ·have I:r.toList.isEmpty=false:=by rw[o];exact decide_eq_false G
     clear o hr;have X:=Hq G;clear G;go_wp2_with fail;go_meet
     case rel=>exact⟨m+1,hm,by rw[← HT.out,Pg.Dv,HR.out,if_neg X.out],rfl⟩
 case rest=>
  obtain⟨m,hm,ht,rfl⟩:=hcut;have hlen:(x.Ai.take m).length=m:=by rw[List.length_take];omega
  have Z:Pg.Ay (x.Ai.take m)≤1099511627776:=by
   have:=HB.out;have:=Pg.Ci x.Ai m;unfold Pg.Ay at*;omega
  have J:=Hq (show Cells w A c (x.Ai.take m)from fun h0=>by
   obtain⟨b,off,hA,hc,K,f⟩:=HC.out (by omega);refine⟨b,off,hA,by omega,K,fun j hj=>?_⟩;rw[List.getElem_take];exact f j (by omega))
  have HL:=Hq (show Pg.Cx x=Pg.L8 x (x.Ai.take m) by rw[Pg.Cx,Pg.trim,ht]);generalize b5:x.Ai.take m=rs at hlen Z J HL;subst hlen;clear HC HB b3 hm ht b5;unfold Uv
  by_cases t:512<Pg.Ay rs
  ·go_wp2_with(go_at_call 110;refine(Rw A c rs Z _ (J.out.below ((Below.refl _ _).alloc (Nat.le_refl _) _))).mono ?_;rintro e w' ⟨rfl,rfl⟩)
   go_ret;exact⟨Rb (by rw[HL.out,Pg.L8,if_pos t]),(Below.refl _ _).alloc (Nat.le_refl _) _⟩
  ·go_upto_block 2 with(go_at_call 110;refine(Rw A c rs Z _ (J.out.below ((Below.refl _ _).alloc (Nat.le_refl _) _))).mono ?_;rintro e w' ⟨rfl,rfl⟩)
   have b6:Pg.An rs≤512:=(by unfold Pg.Ay at t;omega);have b7:rs.length≤512:=(by unfold Pg.Ay at t;omega);obtain⟨W3,T⟩:=ex (((w.alloc (.cells #[x.lsn,x.kind,x.link,.slice A rs.length c] 151)).alloc (.cells #[.pointer none,"s"] 189)).alloc (.cells #[.pointer none,"s"] 189));rw[← T];have aq:Bw w W3:=(by rw[T];exact(((Below.refl _ _).alloc (Nat.le_refl _) _).alloc (by simp) _).alloc (by simp;omega) _);obtain⟨a1,a6,a7,a8⟩:=iM w (.cells #[x.lsn,x.kind,x.link,.slice A rs.length c] 151) (.cells #[.pointer none,"s"] 189) (.cells #[.pointer none,"s"] 189);rw[← T]at a1 a6 a7 a8;clear T;have aa:=Hq aq;have b8:=Hq a1;have b9:=Hq a6;have ba:=Hq a7;have s:=Hq a8;have Y:=Hq t;clear aq a1 a6 a7 a8 t
   go_cut [6] (fun s6 wc=>s6= .int .i64 ((512-Pg.An rs:Nat):Int)∧Om W3.heap.size wc.heap.size (w.heap.size+1) (Pg.Cs 512 rs) wc∧Er W3.heap.size (w.heap.size+1) W3 wc)
   case first=>
    go_wp2_with fail
    go_loopw [6,43] (fun a i wr=>∃ k:Nat,k≤rs.length∧i= .int .i64 k∧a= .int .i64 ((512-Pg.An (rs.take k):Nat):Int)∧Om W3.heap.size wr.heap.size (w.heap.size+1) (Pg.Cs 512 (rs.take k)) wr∧Er W3.heap.size (w.heap.size+1) W3 wr) (fun _ i _=>rs.length-(intOf i).toNat)
    case atStart=>exact⟨0,Nat.zero_le _,rfl,by simp[Pg.An],Om.fresh _ _ _ _ (by rw[s.out];omega) b9.out,Er.refl _ _ _⟩
    case round=>
     obtain⟨k,hk,rfl,rfl,g,d⟩:=hrel;have P:=Hq d;have HD:=Hq g;have bs:=Pg.Ci rs k;have ad:W3.heap.size≤wr.heap.size:=d.size;clear g d
     by_cases K:k<rs.length
     ·obtain⟨b,off,rfl,hc,C,f⟩:=J.out.at_ K
      have ae:wr.cell? ⟨b,off+k,none⟩=some (.string rs[k]):=by
       rw[(P.out.below (lo:=w.heap.size) (by rw[s.out];omega) (by omega)).cell (p:=⟨b,off+k,none⟩) C,aa.out.cell (p:=⟨b,off+k,none⟩) C];exact f
      have HS:=Hq (Pg.Hr rs k K);have af:=Hq (Pg.Qf rs k K);have ar:=Pg.Ci rs (k+1);have au:Pg.An (rs.take k)+rs[k].size≤512:=(by rw[← HS.out];omega);have hlen:(Pg.Cs 512 (rs.take k)).length≤4096:=(by rw[Pg.Ed,List.length_take];omega);have o:=F8 rs[k];clear ar f;generalize hr:rs[k]=r at ae au o HS af;clear hr
      by_cases G:r.size=0
      ·have I:r.toList.isEmpty=true:=by rw[o];exact decide_eq_true G
       clear o;have X:=Hq G;clear G
       go_wp2_with(first|(go_at_call 153;refine(Hp _ _ (by omega) (by omega) _).mono ?_;rintro e w1 ⟨rfl,D⟩)|(go_at_call 175;refine(Mw _ _ _ _ _ _ (HD.out.below D) ?_ ?_).mono ?_;(rw[show(Oct.Bh 0 4).size=4 from Oct.Bn 0 4 (by omega)];omega);(have:=D.size;omega);rintro e w2 ⟨rfl,y,E⟩))
       go_roundw
       case rel=>exact⟨k+1,by omega,by go_num,by rw[HS.out,X.out];rfl,by
        rw[af.out,Pg.L7,if_pos X.out];rw[show(Oct.Bh 0 4).data.toList=Oct.Bm 0 4 from Oct.Ca 0 4 (by omega)]at y;exact y,P.out.trans ((Er.Es ad D).trans E)⟩
       case measure=>simp[intOf];omega
      ·have I:r.toList.isEmpty=false:=by rw[o];exact decide_eq_false G
       clear o;have X:=Hq G;clear G;obtain⟨a,ha⟩:=ex (512-Pg.An (rs.take k):Nat);rw[← ha];have bt:r.size≤a:=(by omega);have bb:a≤512:=(by omega);have HA:=Hq ha;clear ha;have bq:∀ (u v:Int) (W:World),(Op.stringOp .add (Oct.Bh u 2) (Oct.Bh v 2)).run Tryz.prog W= .ok (.string (Oct.Bh u 2++Oct.Bh v 2)) W:=fun u v W=>run_string_add_sum W _ _ (by
        rw[show(Oct.Bh u 2).size=2 from Oct.Bn u 2 (by omega),show(Oct.Bh v 2).size=2 from Oct.Bn v 2 (by omega)];omega)
       go_wp2_with(first|(go_at_call 153;(with_reducible refine(Hp (r.size:Int) _ (by omega) (by omega) _).mono ?_);rintro e w2 ⟨rfl,ag⟩)|(go_at_call 153;refine(Hp _ _ (by omega) (by omega) _).mono ?_;rintro e w1 ⟨rfl,D⟩)|(go_at_call 175;refine(Mw _ _ _ _ _ _ ((HD.out.below D).below ag) ?_ ?_).mono ?_;(rw[ByteArray.size_append,show(Oct.Bh _ 2).size=2 from Oct.Bn _ 2 (by omega),show(Oct.Bh _ 2).size=2 from Oct.Bn _ 2 (by omega)];omega);(have:=D.size;have:=ag.size;omega);rintro e w3 ⟨rfl,L,ah⟩))
       go_roundw
       case rel=>
        refine⟨k+1,by omega,by go_num,?_,?_,P.out.trans ((Er.Es ad D).trans ((Er.Es (by have:=D.size;omega) ag).trans ah))⟩
        ·have:=HA.out
         rw[HS.out];exact congrArg (Value.int IntKind.i64) (by omega)
        ·rw[af.out,Pg.L7,if_neg X.out,← HA.out]
         have e1:(Oct.Bh ((a:Int)-(r.size:Int)) 2).data.toList=Oct.Bm (a-r.size) 2:=by
          rw[show((a:Int)-(r.size:Int))=((a-r.size:Nat):Int) by omega];have:=Oct.Ca ((a-r.size:Nat):Int) 2 (by omega)
          rwa[Oct.D7 (a-r.size) (by omega)]at this
         have e2:(Oct.Bh (r.size:Int) 2).data.toList=Oct.Bm r.size 2:=by
          have:=Oct.Ca (r.size:Int) 2 (by omega)
          rwa[Oct.D7 r.size (by omega)]at this
         rw[ByteArray.data_append,Array.toList_append,e1,e2]at L;exact L
       case measure=>simp[intOf];omega
     ·obtain rfl:k=rs.length:=by omega
      have HT:=Hq (List.take_length (l:=rs));go_wp2_with fail;go_meet
      case rel=>
       have h1:=HD.out;rw[HT.out]at h1;exact⟨by rw[HT.out],h1,P.out⟩
   case rest=>
    obtain⟨q,rfl⟩:=ex wc;obtain⟨rfl,g,d⟩:=hcut;have HD:=Hq g;have P:=Hq d;have bu:W3.heap.size≤q.heap.size:=d.size;clear g d;have Q:q.heap[w.heap.size]? =some (.cells #[x.lsn,x.kind,x.link,.slice A rs.length c] 151 (0,0)):=by
     rw[P.out.block _ (by rw[s.out];omega) (by omega)];exact b8.out
    have c0:q.cell? ⟨w.heap.size,0,none⟩=some (.int .i64 x.lsn):=(by rw[Bs Q];rfl);have c1:q.cell? ⟨w.heap.size,1,none⟩=some (.int .i64 x.kind):=(by rw[Bs Q];rfl);have c2:q.cell? ⟨w.heap.size,2,none⟩=some (.int .i64 x.link):=(by rw[Bs Q];rfl);have c3:q.cell? ⟨w.heap.size,3,none⟩=some (.slice A rs.length c):=(by rw[Bs Q];rfl);have HX:=Hq Q;clear Q
    go_upto_block 4 with(fail)
    go_cut [] (fun wc=>Om q.heap.size wc.heap.size (w.heap.size+1+1) (Pg.Dh rs) wc∧Er q.heap.size (w.heap.size+1+1) q wc)
    case first=>
     go_wp2_with fail
     go_loopw [9] (fun i wr=>∃ j:Nat,j≤rs.length∧i= .int .i64 ((j:Int)-1)∧Om q.heap.size wr.heap.size (w.heap.size+1+1) (Pg.Dh (rs.drop j)) wr∧Er q.heap.size (w.heap.size+1+1) q wr) (fun i _=>(intOf i+1).toNat)
     case atStart=>
      refine⟨rs.length,Nat.le_refl _,rfl,?_,Er.refl _ _ _⟩;rw[List.drop_length];exact Om.fresh _ _ _ _ (by have:=s.out;omega) (by rw[P.out.block _ (by rw[s.out];omega) (by omega)];exact ba.out)
     case round=>
      obtain⟨j,hj,rfl,g,d⟩:=hrel;have ai:=Hq d;have av:=Hq g;have ad:q.heap.size≤wr.heap.size:=d.size;have hz:=s.out;have d3:wr.cell? ⟨w.heap.size,3,none⟩=some (.slice A rs.length c):=by
       have:wr.heap[w.heap.size]? =_:=(d.block _ (by omega) (by omega)).trans HX.out;rw[Bs this];rfl
      clear g d c0 c1 c2 c3 hz
      by_cases h0:j=0
      ·subst h0
       go_wp2_with fail;go_meet
       case rel=>exact⟨av.out,ai.out⟩
      ·obtain⟨k,rfl⟩:∃ k,j=k+1:=⟨j-1,by omega⟩
       rw[show((k+1:Nat):Int)-1=(k:Int) by omega];obtain⟨b,off,rfl,hc,C,f⟩:=J.out.at_ (k:=k) (by omega);have ae:wr.cell? ⟨b,off+k,none⟩=some (.string rs[k]):=by
        have hz:=s.out;rw[(ai.out.below (lo:=w.heap.size) (by omega) (by omega)).cell (p:=⟨b,off+k,none⟩) C,(P.out.below (lo:=w.heap.size) (by omega) (by omega)).cell (p:=⟨b,off+k,none⟩) C,aa.out.cell (p:=⟨b,off+k,none⟩) C];exact f
       have aj:=Hq (Pg.bR rs k (by omega));have hlen:(Pg.Dh (rs.drop (k+1))).length+rs[k].size≤4096:=by
        have h1:=Pg.E9 (rs.drop k);rw[aj.out,List.length_append]at h1;have h2:=Pg.D4 (rs.take k) (rs.drop k);rw[List.take_append_drop]at h2;have h3:rs[k].data.toList.length=rs[k].size:=(by simp);omega
       clear f;generalize hr:rs[k]=r at ae hlen aj;clear hr
       go_wp2_with(go_at_call 175;refine(Mw _ _ _ _ _ _ av.out ?_ ?_).mono ?_;(omega);(omega);rintro e w2 ⟨rfl,y,E⟩)
       go_roundw
       case rel=>exact⟨k,by omega,rfl,by rw[aj.out];exact y,ai.out.trans E⟩
       case measure=>simp[intOf]
    case rest=>
     obtain⟨M,z⟩:=hcut;have bc:=Hq M;have ak:=Hq z;have bw:q.heap.size≤wc.heap.size:=z.size;have H:wc.heap[w.heap.size]? =some (.cells #[x.lsn,x.kind,x.link,.slice A rs.length c] 151 (0,0)):=by
      have hz:=s.out;rw[ak.out.block _ (by omega) (by omega)];exact HX.out
     have d0:wc.cell? ⟨w.heap.size,0,none⟩=some (.int .i64 x.lsn):=(by rw[Bs H];rfl);have d1:wc.cell? ⟨w.heap.size,1,none⟩=some (.int .i64 x.kind):=(by rw[Bs H];rfl);have d2:wc.cell? ⟨w.heap.size,2,none⟩=some (.int .i64 x.link):=(by rw[Bs H];rfl);have d3:wc.cell? ⟨w.heap.size,3,none⟩=some (.slice A rs.length c):=(by rw[Bs H];rfl);have bx:=Hq H;clear M z H c0 c1 c2 c3;obtain⟨wd,rfl⟩:=ex wc
     go_upto_region 20 with(fail)
     have bd:w.heap.size<wd.heap.size:=(by have:=s.out;omega);have bf:Bw wd wd:=Below.refl _ _;obtain⟨at_,al⟩:=ex (512-Pg.An rs:Nat);rw[← al];have aw:=Hq al;clear al;have z1:(Oct.Bh 0 4).size=4:=Oct.Bn 0 4 (by omega);have z2:(Oct.Bh x.lsn 6).size=6:=Oct.Bn x.lsn 6 (by omega);have z3:(Oct.Bh x.kind 1).size=1:=Oct.Bn x.kind 1 (by omega);have z4:(Oct.Bh 0 1).size=1:=Oct.Bn 0 1 (by omega);have z5:(Oct.Bh x.link 3).size=3:=Oct.Bn x.link 3 (by omega);have z6:(Oct.Bh rs.length 2).size=2:=Oct.Bn rs.length 2 (by omega);have z7:(Oct.Bh at_ 2).size=2:=Oct.Bn at_ 2 (by omega)
     go_cut [10] (fun bg we=>bg= .string (Oct.Bh 0 4++Oct.Bh x.lsn 6++Oct.Bh x.kind 1++Oct.Bh 0 1++Oct.Bh x.link 3++Oct.Bh rs.length 2++Oct.Bh at_ 2)∧Bw wd we)
     case first=>
      go_region_held3 (fun w'=>w'.cell? ⟨w.heap.size,0,none⟩=some (.int .i64 x.lsn)∧w'.cell? ⟨w.heap.size,1,none⟩=some (.int .i64 x.kind)∧w'.cell? ⟨w.heap.size,2,none⟩=some (.int .i64 x.link)∧w'.cell? ⟨w.heap.size,3,none⟩=some (.slice A rs.length c)∧Bw wd w') (first|assumption|exact⟨d0,d1,d2,d3,bf.drew⟩|go_keep) (first|(go_at_call 153;refine(nO _ _ (by omega) (by omega) w.heap.size _ _ _ _ wd _ bd (by assumption)).mono ?_;rintro e w1 ⟨rfl,hS⟩))
      go_wp2_with fail;go_meet
      case rel=>exact⟨rfl,hS.2.2.2.2⟩
     case rest=>
      obtain⟨rfl,N⟩:=hcut;have hz:=s.out;have br:=N.size;have bz:W3.heap.size≤q.heap.size:=P.out.size;obtain⟨F,hF⟩:=ex (Oct.Bh 0 4++Oct.Bh x.lsn 6++Oct.Bh x.kind 1++Oct.Bh 0 1++Oct.Bh x.link 3++Oct.Bh rs.length 2++Oct.Bh at_ 2:ByteArray);have c6:F.size=19:=(by rw[hF];simp only[ByteArray.size_append,z1,z2,z3,z4,z5,z6,z7]);rw[← hF];obtain⟨S,hS⟩:=ex (⟨(Pg.Cs 512 rs).toArray⟩:ByteArray);have c7:S.size≤4096:=(by rw[hS];show(Pg.Cs 512 rs).toArray.size≤_;simp[Pg.Ed];omega);obtain⟨B,hB⟩:=ex (⟨(Pg.Dh rs).toArray⟩:ByteArray);have c8:B.size≤4096:=(by rw[hB];show(Pg.Dh rs).toArray.size≤_;simp[Pg.E9];omega);obtain⟨room,O⟩:=ex (512-Pg.Ay rs:Nat);have t:=Y.out;have ax:(512:Int)-(Pg.Ay rs:Int)=(room:Int):=(by omega);have bh:room≤512:=(by omega);obtain⟨R,hR⟩:=ex (⟨(Lib.repeatL (⟨#[0]⟩:ByteArray).data.toList room).toArray⟩:ByteArray);have an:R.data.toList=List.replicate room 0:=by
       rw[hR];have key:∀ n,Lib.repeatL (⟨#[0]⟩:ByteArray).data.toList n=List.replicate n 0:=fun n=>by
        induction n with
        |zero=>rfl
        |succ n ih=>rw[Lib.repeatL,ih];rfl
       rw[key]
      have ca:R.size=room:=by
       have:R.data.toList.length=R.size:=(by simp);rw[← this,an,List.length_replicate]
      have b4:Om W3.heap.size q.heap.size (w.heap.size+1) (Pg.Cs 512 rs) wc:=((HD.out.later (Nat.le_refl _)).kept (fun k hk _=>ak.out.block k (by omega) (by omega))).below N;have bj:=Hq b4;have ay:∀ W,Om W3.heap.size q.heap.size (w.heap.size+1) (Pg.Cs 512 rs) W→Cq 176 #[.pointer (some ⟨w.heap.size+1,0,none⟩)] W fun e w'=>e= .returned (.string S)∧L5 W3.heap.size q.heap.size W w':=fun W h=>by
       rw[hS];exact N8 _ _ _ _ W h
      have az:∀ W,Om q.heap.size wd.heap.size (w.heap.size+1+1) (Pg.Dh rs) W→Cq 176 #[.pointer (some ⟨w.heap.size+1+1,0,none⟩)] W fun e w'=>e= .returned (.string B)∧L5 q.heap.size wd.heap.size W w':=fun W h=>by
       rw[hB];exact N8 _ _ _ _ W h
      have b0:∀ W,Cr 177 #[.string ⟨#[0]⟩,.int .i64 (room:Int)] W (.string R):=fun W=>by
       rw[hR];exact Tryz.strings_Repeat ⟨#[0]⟩ room W (by omega) (by show 1*room≤_;omega)
      have bk:=Hq ay;have b1:=Hq az;have bl:=Hq b0;have HF:=Hq hF;have HS:=Hq hS;have bm:=Hq hB;have bn:=Hq an;have bo:=Hq O;rw[ax];clear ay az b0 hF hS hB an hR ax O b4 z1 z2 z3 z4 z5 z6 z7 d0 d1 d2 d3;have bp:=Hq (show ∀ W V,L5 W3.heap.size q.heap.size wc W→Bw W V→Om q.heap.size wd.heap.size (w.heap.size+1+1) (Pg.Dh rs) V from fun W V k1 k2=>
       ((bc.out.below N).kept (fun k hk cb=>k1.block k (by have:=N.size;omega) (by omega))).below k2)
      go_wp2_with(first|(go_at_call 176;(with_reducible refine(bk.out _ ?_).mono ?_);(exact bj.out);rintro e w1 ⟨rfl,U⟩)|(go_at_call 177;refine(bl.out _).mono ?_;rintro e w2 ⟨rfl,E⟩)|(go_at_call 176;(with_reducible refine(b1.out _ ?_).mono ?_);(exact bp.out _ _ U E);rintro e w3 ⟨rfl,ah⟩))
      go_ret;refine⟨Rb ?_,?_⟩
      ·rw[HL.out,Pg.L8,if_neg Y.out]
       apply ByteArray.ext
       have e1:F.data.toList=Pg.Ls x rs.length (512-Pg.An rs):=by
        rw[HF.out,Pg.Ls];simp only[ByteArray.data_append,Array.toList_append];have q1:(Oct.Bh 0 4).data.toList=Oct.Bm 0 4:=Oct.Ca 0 4 (by omega);have q4:(Oct.Bh 0 1).data.toList=Oct.Bm 0 1:=Oct.Ca 0 1 (by omega);obtain⟨y1,y2,y3⟩:=b2.out;have q2:(Oct.Bh x.lsn 6).data.toList=Oct.Bm x.lsn 6:=(Oct.Ca x.lsn 6 (by omega)).trans (by rw[Oct.D7 _ (by omega)]);have q3:(Oct.Bh x.kind 1).data.toList=Oct.Bm x.kind 1:=(Oct.Ca x.kind 1 (by omega)).trans (by rw[Oct.D7 _ (by omega)]);have q5:(Oct.Bh x.link 3).data.toList=Oct.Bm x.link 3:=(Oct.Ca x.link 3 (by omega)).trans (by rw[Oct.D7 _ (by omega)]);have q6:(Oct.Bh rs.length 2).data.toList=Oct.Bm rs.length 2:=(Oct.Ca rs.length 2 (by omega)).trans (by rw[Oct.D7 _ (by omega)]);have q7:(Oct.Bh at_ 2).data.toList=Oct.Bm (512-Pg.An rs) 2:=(Oct.Ca at_ 2 (by omega)).trans (by rw[Oct.D7 _ (by have:=aw.out;omega),aw.out]);rw[q1,q2,q3,q4,q5,q6,q7]
       have e2:S.data.toList=Pg.Cs 512 rs:=(by rw[HS.out]);have e3:B.data.toList=Pg.Dh rs:=by rw[bm.out]
       apply Array.toList_inj.1
       simp only[ByteArray.data_append,Array.toList_append,e1,e2,e3,bn.out,bo.out]
      ·exact(((((aa.out.trans (P.out.below (by omega) (by omega))).trans (ak.out.below (by omega) (by omega))).trans (N.mono (by omega))).trans (U.below (by omega) (by omega))).trans (E.mono (by have:=U.size;omega))).trans (ah.below (by omega) (by have:=U.size;have:=E.size;omega))
theorem nP (S:World→Prop)(a:∀ u v,S u→Bw u v→S v)(n size:Int)(b:0≤size)(c:size≤8)(w:World)(h:S w):
 Cq 73 #[n,size] w fun e w'=>e= .returned (.string (Oct.Bh n size))∧S w':=by
 refine(Ja n size b c w).mono ?_;rintro e w' ⟨rfl,d⟩;exact⟨rfl,a _ _ h d⟩
theorem Wl (A:Option Addr)(c:Nat)(rs:List ByteArray)(u:rs.length≤1099511627776)(w:World)(h:Cells w A c rs):
 Cq 71 #[.slice A rs.length c] w fun e w'=>e= .returned (.slice A (Pg.Dv rs rs.length) c)∧w=w':=by
 have p:=Hq h;clear h;go_enter Tryz.func71,Tryz.ntmps71;go_wp2_with fail
 go_loop [0] (fun v=>∃ m:Nat,m≤rs.length∧Pg.Dv rs m=Pg.Dv rs rs.length∧v= .slice A m c) (fun v=>match v with| .slice _ m _=>m|_=>0)
 case atStart=>exact⟨rs.length,Nat.le_refl _,rfl,rfl⟩
 case round=>
  obtain⟨m,x,o,rfl⟩:=hrel;have i:=Hq o;clear o
  by_cases q:m=0
  ·subst q
   go_wp2_with fail;go_ret;exact⟨by rw[← i.out];rfl,rfl⟩
  ·obtain⟨b,off,rfl,y,s,a⟩:=p.out.at_ (k:=m-1) (by omega)
   obtain⟨m,rfl⟩:∃ n,m=n+1:=⟨m-1,by omega⟩;simp only[Nat.add_sub_cancel]at a;have d:=F8 rs[m];have j:=Hq (show rs[m]?.getD ⟨#[]⟩=rs[m] by simp[show m<rs.length by omega]);generalize t:rs[m]=r at a d j;clear t
   by_cases f:r.size=0
   ·have g:r.toList.isEmpty=true:=by rw[d];exact decide_eq_true f
    clear d;have l:=Hq f;clear f;go_wp2_with fail
    go_round
    case rel=>exact⟨m,by omega,by rw[← i.out,Pg.Dv,j.out,if_pos l.out],rfl⟩
    case measure=>simp
   ·have g:r.toList.isEmpty=false:=by rw[d];exact decide_eq_false f
    clear d;have l:=Hq f;clear f;go_wp2_with fail;go_ret;exact⟨by rw[← i.out,Pg.Dv,j.out,if_neg l.out];rfl,rfl⟩
theorem iN (x:Pg.Ct)(A:Option Addr)(c:Nat)(rs:List ByteArray)(o:Pg.Ay rs≤1099511627776)(w:World)(h:Cells w A c rs):
 Cr 72 #[.agg #[x.lsn,x.kind,x.link,.slice A rs.length c]] w (.bool (decide (Pg.Ay rs≤512))):=by
 unfold Pg.Ay at o;have p:=Hq h;clear h;go_enter Tryz.func72,Tryz.ntmps72;go_wp2_with fail
 go_loop [3,4] (fun n i=>∃ k:Nat,k≤rs.length∧i= .int .i64 k∧n= .int .i64 ((19+4*rs.length+Pg.An (rs.take k):Nat):Int)) (fun _ i=>rs.length-(intOf i).toNat)
 case atStart=>exact⟨0,Nat.zero_le _,rfl,by simp[Pg.An]⟩
 case round=>
  obtain⟨k,hk,rfl,rfl⟩:=hrel;have q:=Pg.Ci rs k
  by_cases e:k<rs.length
  ·obtain⟨b,off,rfl,t,f,a⟩:=p.out.at_ e
   have l:=Hq (Pg.Hr rs k e);have d:=Pg.Ci rs (k+1);have g:Pg.An (rs.take k)+rs[k].size≤Pg.An rs:=(by rw[← l.out];exact d);have j:(World.cell? (w.alloc (.cells #[x.lsn,x.kind,x.link,.slice (some ⟨b,off,none⟩) rs.length c] 95)) ⟨b,off+k,none⟩)=some (.string rs[k]):=by
    rw[World.cell?_alloc_lt _ _ _ f];exact a
   clear d;generalize m:rs[k]=r at a g j;have s:=Hq m;clear m;go_wp2_with fail
   go_round
   case rel=>exact⟨k+1,by omega,by go_num,by rw[l.out,s.out];go_num⟩
   case measure=>simp[intOf];omega
  ·obtain rfl:k=rs.length:=by omega
   go_wp2_with fail;go_ret;exact⟨congrArg (fun b=>Ending.returned (.bool b)) (by unfold Pg.Ay;rw[decide_eq_decide];omega),(Below.refl _ _).alloc (Nat.le_refl _) _⟩
theorem Ov (x:Pg.Ct)(A:Option Addr)(c:Nat)(rs:List ByteArray)(a:Pg.Ay rs≤1099511627776)(b:Bool)(d:decide (Pg.Ay rs≤512)=b)(w:World)(h:Cells w A c rs):
 Cr 72 #[.agg #[x.lsn,x.kind,x.link,.slice A rs.length c]] w (.bool b):=by
 subst d;exact iN x A c rs a w h
theorem Cells.take {w:World}{A:Option Addr}{c:Nat}{rs:List ByteArray}(h:Cells w A c rs)(m:Nat)(i:m≤rs.length):Cells w A c (rs.take m):=fun e=>by
 rw[List.length_take]at e;obtain⟨b,off,f,k,d,a⟩:=h (by omega);refine⟨b,off,f,by rw[List.length_take];omega,d,fun j g=>?_⟩;rw[List.getElem_take];exact a j (by rw[List.length_take]at g;omega)
theorem Jw (n:Nat)(e:n≤4096)(W:World):(Instr.makeSlice 112 (.int .i64 (n:Int)) (.int .i64 (n:Int))).run Tryz.prog W= .ok (.slice (some ⟨W.heap.size,0,none⟩) n n) (W.alloc (.cells (madeCells #[Value.int .u8 0] n) 5)):=by
 obtain⟨i0,d,a,b,c⟩:=info_parts Tryz.elem8;have h:=run_make (P:=Tryz.prog) W 112 5 i0 (.int .u8 0) Hw d a .i64 .i64 n n (by omega) (by omega) (by rw[c];omega) (by omega);rw[b,Int.toNat_natCast,Nat.mul_one]at h;exact h
theorem Jx (n:Nat)(W:World):(convert 112 9 (.slice (some ⟨W.heap.size,0,none⟩) n n)).run Tryz.prog (W.alloc (.cells (madeCells #[Value.int .u8 0] n) 5))= .ok (.string ⟨(List.replicate n 0).toArray⟩) (W.alloc (.cells (madeCells #[Value.int .u8 0] n) 5)):=by
 have h:=run_convert_bytes_back (P:=Tryz.prog) (W.alloc (.cells (madeCells #[Value.int .u8 0] n) 5)) 112 9 5 ⟨W.heap.size,0,none⟩ n (List.replicate n 0) Hw mQ bM (fun j b=>by
  have a:j<n:=by simpa using b
  have c:(⟨W.heap.size,0,none⟩:Addr).add j=⟨W.heap.size,j,none⟩:=by
   unfold Addr.add;split
   ·rename_i h;rw[h]
   ·simp
  rw[c,World.cell?_alloc_new]
  simp[madeCells,a,Nat.mod_one])
 rw[List.length_replicate]at h;exact h
theorem Ow (x:Pg.Ct)(A:Option Addr)(c:Nat)(z:Pg.Small x)(m:Pg.Ay x.Ai≤1099511627776)(w:World)(h:Cells w A c x.Ai):
 Cr 31 #[.agg #[x.lsn,x.kind,x.link,.slice A x.Ai.length c]] w (.string ⟨(Pg.Cx x).toArray⟩):=by
 have af:=Hq z;clear z;have ag:x.Ai.length≤1099511627776:=by unfold Pg.Ay at m;omega
 have hm:=Pg.Oq x.Ai x.Ai.length;have HL:=Hq (show Pg.Cx x=Pg.L8 x (x.Ai.take (Pg.Dv x.Ai x.Ai.length))from rfl);have HC:=Hq (h.take _ hm);have HA:=Hq h;have G:Pg.Ay (x.Ai.take (Pg.Dv x.Ai x.Ai.length))≤1099511627776:=by
  have:=Pg.Ci x.Ai (Pg.Dv x.Ai x.Ai.length);unfold Pg.Ay at*;rw[List.length_take];omega
 have hlen:(x.Ai.take (Pg.Dv x.Ai x.Ai.length)).length=Pg.Dv x.Ai x.Ai.length:=by rw[List.length_take];omega
 have HT:=Hq (fun W hW=>Wl A c x.Ai ag W hW);rw[← hlen]at HT;generalize x.Ai.take (Pg.Dv x.Ai x.Ai.length)=rs at HL HC G hlen HT;clear h m hm hlen
 by_cases d:512<Pg.Ay rs
 ·have H:=Hq (Ov x A c rs G false (decide_eq_false (by omega)))
  go_enter Tryz.func31,Tryz.ntmps31
  go_wp2_with(first|(go_at_call 71;refine(HT.out _ (HA.out.below ((Below.refl _ _).alloc (Nat.le_refl _) _))).mono ?_;rintro e w' ⟨rfl,rfl⟩)|(go_at_call 72;refine(H.out _ (HC.out.below ((Below.refl _ _).alloc (Nat.le_refl _) _))).mono ?_;rintro e w1 ⟨rfl,j⟩))
  go_ret;exact⟨Rb (by rw[HL.out,Pg.L8,if_pos d]),((Below.refl _ _).alloc (Nat.le_refl _) _).trans (j.mono (by simp))⟩
 ·have H:=Hq (Ov x A c rs G true (decide_eq_true (by omega)))
  go_enter Tryz.func31,Tryz.ntmps31
  go_upto_block 0 with(first|(go_at_call 71;refine(HT.out _ (HA.out.below ((Below.refl _ _).alloc (Nat.le_refl _) _))).mono ?_;rintro e w' ⟨rfl,rfl⟩)|(go_at_call 72;refine(H.out _ (HC.out.below ((Below.refl _ _).alloc (Nat.le_refl _) _))).mono ?_;rintro e w1 ⟨rfl,j⟩))
  have ah:Pg.An rs≤512:=by unfold Pg.Ay at d;omega
  have ai:rs.length≤512:=by unfold Pg.Ay at d;omega
  have hX:w.heap.size<w1.heap.size:=by have:=j.size;simp at this;omega
  have X:Bw w w1:=((Below.refl _ _).alloc (Nat.le_refl _) _).trans (j.mono (by simp));have Y:w1.heap[w.heap.size]? =some (.cells #[x.lsn,x.kind,x.link,.slice A rs.length c] 95 (0,0)):=by
   rw[j.block _ (by simp)];exact heap_alloc_new w _
  have Z:=Hq X;have a1:=Hq Y;have C:=Hq d;clear j X Y d
  go_cut [3,4,5] (fun s3 s4 s5 wc=>s3= .int .i64 ((512-Pg.An rs:Nat):Int)∧s4= .string ⟨(Pg.Cs 512 rs).toArray⟩∧s5= .string ⟨(Pg.Dh rs).toArray⟩∧Bw w1 wc)
  case first=>
   go_wp2_with fail
   go_loopw [3,4,5,6] (fun s3 s4 s5 i wr=>∃ (k a:Nat) (S B:ByteArray),k≤rs.length∧i= .int .i64 k∧s3= .int .i64 (a:Int)∧a=512-Pg.An (rs.take k)∧s4= .string S∧S.data.toList=Pg.Cs 512 (rs.take k)∧s5= .string B∧B.data.toList=Pg.Dh (rs.take k)∧Bw w1 wr) (fun _ _ _ i _=>rs.length-(intOf i).toNat)
   case atStart=>exact⟨0,512,⟨#[]⟩,⟨#[]⟩,Nat.zero_le _,rfl,rfl,by simp[Pg.An],rfl,rfl,rfl,rfl,Below.refl _ _⟩
   case round=>
    obtain⟨k,a,S,B,hk,rfl,rfl,ha,rfl,D,rfl,E,f⟩:=hrel;have d3:wr.cell? ⟨w.heap.size,3,none⟩=some (.slice A rs.length c):=by
     have:wr.heap[w.heap.size]? =_:=(f.block _ hX).trans a1.out;rw[Bs this];rfl
    have aj:a≤512:=(by omega);have I:S.size≤4096:=by
     have J:S.data.toList.length=S.size:=(by simp);rw[D,Pg.Ed,List.length_take]at J;omega
    have ak:B.size≤512:=by
     have J:B.data.toList.length=B.size:=(by simp);have:=Pg.Ci rs k;rw[E,Pg.E9]at J;omega
    have n:=Hq ha;have HS:=Hq D;have HB:=Hq E;have az:=f.size;clear ha D E
    by_cases t:k<rs.length
    ·obtain⟨b,off,rfl,hc,al,o⟩:=HC.out.at_ t
     have a6:wr.cell? ⟨b,off+k,none⟩=some (.string rs[k]):=by
      rw[f.cell (p:=⟨b,off+k,none⟩) (by show b<_;omega),Z.out.cell (p:=⟨b,off+k,none⟩) al];exact o
     have y:=Hq (Pg.Hr rs k t);have K:=Hq (Pg.Qf rs k t);have L:=Hq (Pg.bS rs k t);have an:rs[k].size≤a:=by
      have:=Pg.Ci rs (k+1);have:=y.out;have:=n.out;omega
     have q:=F8 rs[k];clear o;generalize hr:rs[k]=r at a6 q y K L an;clear hr
     by_cases V:r.size=0
     ·have a7:r.toList.isEmpty=true:=by rw[q];exact decide_eq_true V
      clear q;have HE:=Hq V;clear V;have z0:(Oct.Bh 0 4).size=4:=Oct.Bn 0 4 (by omega)
      go_wp2_with(go_at_call 73;refine(Ja _ _ (by omega) (by omega) _).mono ?_;rintro e w2 ⟨rfl,M⟩)
      go_roundw
      case rel=>exact⟨k+1,a,_,B,by omega,by go_num,rfl,by rw[y.out,HE.out];exact n.out,rfl,by
       rw[K.out,Pg.L7,if_pos HE.out,ByteArray.data_append,Array.toList_append,HS.out,show(Oct.Bh 0 4).data.toList=Oct.Bm 0 4 from Oct.Ca 0 4 (by omega)],rfl,by
       rw[L.out,HB.out,show r.data.toList=[]from List.eq_nil_of_length_eq_zero (by have h9:r.data.toList.length=r.size:=(by simp);rw[h9];exact HE.out)];rfl,andThen f M⟩
      case measure=>simp[intOf];omega
     ·have a7:r.toList.isEmpty=false:=by rw[q];exact decide_eq_false V
      clear q;have HE:=Hq V;clear V;obtain⟨a2,a8⟩:=ex (a-r.size:Nat);have aa:(a:Int)-(r.size:Int)=(a2:Int):=(by omega);have s:∀ u v:World,(u.cell? ⟨w.heap.size,3,none⟩=some (.slice (some ⟨b,off,none⟩) rs.length c)∧u.cell? ⟨b,off+k,none⟩=some (.string r)∧Bw w1 u)→Bw u v→(v.cell? ⟨w.heap.size,3,none⟩=some (.slice (some ⟨b,off,none⟩) rs.length c)∧v.cell? ⟨b,off+k,none⟩=some (.string r)∧Bw w1 v):=fun u v ⟨c1,c2,c3⟩ m=>by
       have:=c3.size;refine⟨?_,?_,andThen c3 m⟩
       ·rw[m.cell (p:=⟨w.heap.size,3,none⟩) (by show w.heap.size<_;omega)];exact c1
       ·rw[m.cell (p:=⟨b,off+k,none⟩) (by show b<_;omega)];exact c2
      have N:=Hq s;have b0:(0:Int)≤(k:Int):=(by omega);have b1:(k:Int)<(rs.length:Int):=(by omega);have z1:(Oct.Bh a2 2).size=2:=Oct.Bn a2 2 (by omega);have z2:(Oct.Bh r.size 2).size=2:=Oct.Bn r.size 2 (by omega);have O:=Hq a8;have av:∀ W:World,(Op.stringOp .add S (Oct.Bh a2 2++Oct.Bh r.size 2)).run Tryz.prog W= .ok (.string (S++(Oct.Bh a2 2++Oct.Bh r.size 2))) W:=fun W=>run_string_add_sum W _ _ (by rw[ByteArray.size_append,z1,z2];omega);have P:r.size≤512:=(by omega);clear s a8
      go_upto_region 12 with(fail)
      clear aa
      go_region_held3 (fun w'=>w'.cell? ⟨w.heap.size,3,none⟩=some (.slice (some ⟨b,off,none⟩) rs.length c)∧w'.cell? ⟨b,off+k,none⟩=some (.string r)∧Bw w1 w') (first|assumption|exact⟨d3,a6,f.drew⟩|go_keep) (first|(go_at_call 73;refine(nP _ N.out _ _ (by omega) (by omega) _ (by assumption)).mono ?_;rintro e w2 ⟨rfl,Q⟩))
      obtain⟨e1,e2,M⟩:=Q;go_wp2_with fail;go_roundw
      case rel=>
       refine⟨k+1,a2,_,_,by omega,by go_num,rfl,?_,rfl,?_,rfl,?_,M⟩
       ·rw[y.out,O.out,n.out];omega
       ·have q1:(Oct.Bh a2 2).data.toList=Oct.Bm a2 2:=(Oct.Ca a2 2 (by omega)).trans (by rw[Oct.D7 _ (by have:=O.out;omega)])
        have q2:(Oct.Bh r.size 2).data.toList=Oct.Bm r.size 2:=(Oct.Ca r.size 2 (by omega)).trans (by rw[Oct.D7 _ (by omega)]);simp only[ByteArray.data_append,Array.toList_append];rw[K.out,Pg.L7,if_neg HE.out,HS.out,← n.out,q1,q2,O.out]
       ·simp only[ByteArray.data_append,Array.toList_append]
        rw[L.out,HB.out]
      case measure=>simp[intOf];omega
    ·obtain rfl:k=rs.length:=by omega
     have ad:=Hq (List.take_length (l:=rs));go_wp2_with fail;go_meet
     case rel=>
      have J:=HS.out;have h2:=HB.out;rw[ad.out]at J h2;exact⟨by rw[n.out,ad.out],by rw[← J],by rw[← h2],f⟩
  case rest=>
   obtain⟨rfl,rfl,rfl,f⟩:=hcut;obtain⟨wd,rfl⟩:=ex wc;obtain⟨S,D⟩:=ex (⟨(Pg.Cs 512 rs).toArray⟩:ByteArray);obtain⟨B,E⟩:=ex (⟨(Pg.Dh rs).toArray⟩:ByteArray);obtain⟨at_,T⟩:=ex (512-Pg.An rs:Nat);rw[← D,← E,← T];have I:S.size=4*rs.length:=(by rw[D];show(Pg.Cs 512 rs).toArray.size=_;simp[Pg.Ed]);have ak:B.size≤4096:=(by rw[E];show(Pg.Dh rs).toArray.size≤_;simp[Pg.E9];omega);have z:wd.heap[w.heap.size]? =some (.cells #[x.lsn,x.kind,x.link,.slice A rs.length c] 95 (0,0)):=(f.block _ hX).trans a1.out;have d0:wd.cell? ⟨w.heap.size,0,none⟩=some (.int .i64 x.lsn):=(by rw[Bs z];rfl);have d1:wd.cell? ⟨w.heap.size,1,none⟩=some (.int .i64 x.kind):=(by rw[Bs z];rfl);have d2:wd.cell? ⟨w.heap.size,2,none⟩=some (.int .i64 x.link):=(by rw[Bs z];rfl);have d3:wd.cell? ⟨w.heap.size,3,none⟩=some (.slice A rs.length c):=(by rw[Bs z];rfl);have s:∀ u v:World,(u.cell? ⟨w.heap.size,0,none⟩=some (.int .i64 x.lsn)∧u.cell? ⟨w.heap.size,1,none⟩=some (.int .i64 x.kind)∧u.cell? ⟨w.heap.size,2,none⟩=some (.int .i64 x.link)∧u.cell? ⟨w.heap.size,3,none⟩=some (.slice A rs.length c)∧Bw w1 u)→Bw u v→(v.cell? ⟨w.heap.size,0,none⟩=some (.int .i64 x.lsn)∧v.cell? ⟨w.heap.size,1,none⟩=some (.int .i64 x.kind)∧v.cell? ⟨w.heap.size,2,none⟩=some (.int .i64 x.link)∧v.cell? ⟨w.heap.size,3,none⟩=some (.slice A rs.length c)∧Bw w1 v):=fun u v ⟨c0,c1,c2,c3,c4⟩ m=>by
    have:=c4.size;refine⟨?_,?_,?_,?_,andThen c4 m⟩
    ·rw[m.cell (p:=⟨w.heap.size,0,none⟩) (by show w.heap.size<_;omega)];exact c0
    ·rw[m.cell (p:=⟨w.heap.size,1,none⟩) (by show w.heap.size<_;omega)];exact c1
    ·rw[m.cell (p:=⟨w.heap.size,2,none⟩) (by show w.heap.size<_;omega)];exact c2
    ·rw[m.cell (p:=⟨w.heap.size,3,none⟩) (by show w.heap.size<_;omega)];exact c3
   have N:=Hq s;have z1:(Oct.Bh 0 4).size=4:=Oct.Bn 0 4 (by omega);have z2:(Oct.Bh x.lsn 6).size=6:=Oct.Bn x.lsn 6 (by omega);have z3:(Oct.Bh x.kind 1).size=1:=Oct.Bn x.kind 1 (by omega);have z4:(Oct.Bh 0 1).size=1:=Oct.Bn 0 1 (by omega);have z5:(Oct.Bh x.link 3).size=3:=Oct.Bn x.link 3 (by omega);have z6:(Oct.Bh rs.length 2).size=2:=Oct.Bn rs.length 2 (by omega);have z7:(Oct.Bh at_ 2).size=2:=Oct.Bn at_ 2 (by omega);have HS:=Hq D;have HB:=Hq E;have U:=Hq T;have ao:=Hq I;have aw:S.size≤4096:=(by omega);clear D E T s z I
   go_upto_region 14 with(fail)
   go_cut [7] (fun s7 we=>s7= .string (Oct.Bh 0 4++Oct.Bh x.lsn 6++Oct.Bh x.kind 1++Oct.Bh 0 1++Oct.Bh x.link 3++Oct.Bh rs.length 2++Oct.Bh at_ 2)∧Bw w1 we)
   case first=>
    go_region_held3 (fun w'=>w'.cell? ⟨w.heap.size,0,none⟩=some (.int .i64 x.lsn)∧w'.cell? ⟨w.heap.size,1,none⟩=some (.int .i64 x.kind)∧w'.cell? ⟨w.heap.size,2,none⟩=some (.int .i64 x.link)∧w'.cell? ⟨w.heap.size,3,none⟩=some (.slice A rs.length c)∧Bw w1 w') (first|assumption|exact⟨d0,d1,d2,d3,f.drew⟩|go_keep) (first|(go_at_call 73;refine(nP _ N.out _ _ (by omega) (by omega) _ (by assumption)).mono ?_;rintro e w2 ⟨rfl,Q⟩))
    go_wp2_with fail;go_meet
    case rel=>exact⟨rfl,Q.2.2.2.2⟩
   case rest=>
    obtain⟨rfl,ae⟩:=hcut;obtain⟨F,hF⟩:=ex (Oct.Bh 0 4++Oct.Bh x.lsn 6++Oct.Bh x.kind 1++Oct.Bh 0 1++Oct.Bh x.link 3++Oct.Bh rs.length 2++Oct.Bh at_ 2:ByteArray);have b2:F.size=19:=(by rw[hF];simp only[ByteArray.size_append,z1,z2,z3,z4,z5,z6,z7]);rw[← hF];have d:=C.out;obtain⟨room,g⟩:=ex (512-Pg.Ay rs:Nat);have b3:(at_:Int)-19-(S.size:Int)=(room:Int):=by
     have J:=U.out;have h2:=ao.out;unfold Pg.Ay at g d;omega
    have P:room≤512:=(by omega);have ax:at_≤512:=(by have:=U.out;omega);have b4:=Jw room (by omega);have aq:=Jx room;obtain⟨R,hR⟩:=ex (⟨(List.replicate room 0).toArray⟩:ByteArray);rw[← hR]at aq;have ar:R.size=room:=(by rw[hR];show(List.replicate room (0:UInt8)).toArray.size=_;simp);have ay:R.size≤512:=(by omega);have HF:=Hq hF;have HR:=Hq hR;have au:=Hq g;clear hF hR g d ar z1 z2 z3 z4 z5 z6 z7 d0 d1 d2 d3 f;go_wp2_with fail;go_ret;refine⟨Rb ?_,Z.out.trans ((ae.mono (by omega)).trans ((Below.refl _ _).alloc (by have:=ae.size;omega) _))⟩;rw[HL.out,Pg.L8,if_neg C.out]
    apply ByteArray.ext
    have e1:F.data.toList=Pg.Ls x rs.length (512-Pg.An rs):=by
     rw[HF.out,Pg.Ls];simp only[ByteArray.data_append,Array.toList_append];obtain⟨y1,y2,y3⟩:=af.out;have q1:(Oct.Bh 0 4).data.toList=Oct.Bm 0 4:=Oct.Ca 0 4 (by omega);have q4:(Oct.Bh 0 1).data.toList=Oct.Bm 0 1:=Oct.Ca 0 1 (by omega);have q2:(Oct.Bh x.lsn 6).data.toList=Oct.Bm x.lsn 6:=(Oct.Ca x.lsn 6 (by omega)).trans (by rw[Oct.D7 _ (by omega)]);have q3:(Oct.Bh x.kind 1).data.toList=Oct.Bm x.kind 1:=(Oct.Ca x.kind 1 (by omega)).trans (by rw[Oct.D7 _ (by omega)]);have q5:(Oct.Bh x.link 3).data.toList=Oct.Bm x.link 3:=(Oct.Ca x.link 3 (by omega)).trans (by rw[Oct.D7 _ (by omega)]);have q6:(Oct.Bh rs.length 2).data.toList=Oct.Bm rs.length 2:=(Oct.Ca rs.length 2 (by omega)).trans (by rw[Oct.D7 _ (by omega)]);have q7:(Oct.Bh at_ 2).data.toList=Oct.Bm (512-Pg.An rs) 2:=(Oct.Ca at_ 2 (by omega)).trans (by rw[Oct.D7 _ (by omega),U.out]);rw[q1,q2,q3,q4,q5,q6,q7]
    have e2:S.data.toList=Pg.Cs 512 rs:=(by rw[HS.out]);have e3:B.data.toList=Pg.Dh rs:=(by rw[HB.out]);have e4:R.data.toList=List.replicate (512-Pg.Ay rs) 0:=by rw[HR.out,au.out]
    apply Array.toList_inj.1
    simp only[ByteArray.data_append,Array.toList_append,e1,e2,e3,e4]
theorem Qj (u:Nat)(h:u<281474976710656):Oct.intOf u=(u:Int):=by
 unfold Oct.intOf;rw[if_pos (by omega)]
theorem fG (s:List UInt8)(a k:Nat)(h:k≤6):Oct.Dj s a k<281474976710656:=by
 have b:=Oct.It ((s.drop a).take k);have c:256^((s.drop a).take k).length≤256^6:=Nat.pow_le_pow_right (by omega) (by rw[List.length_take];omega);unfold Oct.Dj;omega
theorem Mz (s:ByteArray)(a size:Int)(c:0≤a)(g:1≤size)(h:size≤6)(d:a+size≤s.size)(i:s.size≤1048576)(w:World):
 Cr 194 #[s,a,size] w (.int .i64 (Oct.Dj s.data.toList a.toNat size.toNat)):=by
 obtain⟨a,rfl⟩:=Int.eq_ofNat_of_zero_le c;obtain⟨k,rfl⟩:=Int.eq_ofNat_of_zero_le (show 0≤size by omega);have b:=Hq (fun W=>rR s a k (by omega) (by omega) (by omega) (by omega) W);rw[Qj _ (fG _ _ _ (by omega))]at b;go_enter Tryz.func194,Tryz.ntmps194
 go_wp2_with(go_at_call 236;refine(b.out _).mono ?_;rintro e w' ⟨rfl,f⟩)
 go_ret;exact⟨rfl,f⟩
theorem I3 (s:ByteArray)(a size:Int)(c:0≤a)(f:1≤size)(g:size≤6)(d:a+size≤s.size)(h:s.size≤1048576)(w:World):
 Cq 101 #[s,a,size] w fun e w'=>e= .returned (.int .i64 (Oct.Dj s.data.toList a.toNat size.toNat))∧w=w':=by
 obtain⟨a,rfl⟩:=Int.eq_ofNat_of_zero_le c;obtain⟨k,rfl⟩:=Int.eq_ofNat_of_zero_le (show 0≤size by omega);have b:=Hq (fun W=>nB s a k (by omega) (by omega) (by omega) (by omega) W);rw[Qj _ (fG _ _ _ (by omega))]at b;go_enter Tryz.func101,Tryz.ntmps101
 go_wp2_with(go_at_call 143;refine(b.out _).mono ?_;rintro e w' ⟨rfl,rfl⟩)
 go_ret;exact⟨rfl,rfl⟩
theorem Ey {w:World}{b:Nat}{T:TypeId}{v0 v1 v2 v3:Value}(h:w.heap[b]? =some (.cells #[v0,v1,v2,v3] T (0,0))):
 w.cell? ⟨b,0,none⟩=some v0∧w.cell? ⟨b,1,none⟩=some v1∧w.cell? ⟨b,2,none⟩=some v2∧w.cell? ⟨b,3,none⟩=some v3∧
 w.frozen? ⟨b,0,none⟩=false∧w.frozen? ⟨b,1,none⟩=false∧w.frozen? ⟨b,2,none⟩=false∧w.frozen? ⟨b,3,none⟩=false:=by
 refine⟨by rw[Bs h];rfl,by rw[Bs h];rfl,by rw[Bs h];rfl,by rw[Bs h];rfl,?_,?_,?_,?_⟩<;>simp[World.frozen?,h]
theorem C0 {w w':World}{o:Obj}(a:Below (w.alloc o).heap.size (w.alloc o) w'):w'.heap[w.heap.size]? =some o:=
 (a.block _ (by simp)).trans (heap_alloc_new w _)
theorem Fa {w w':World}{b:Nat}{o:Obj}(h:w.heap[b]? =some o)(c:Bw w w'):w'.heap[b]? =some o:=by
 have a:b<w.heap.size:=by
  rcases Nat.lt_or_ge b w.heap.size with h'|h'
  ·exact h'
  ·rw[Array.getElem?_eq_none h']at h;cases h
 rw[c.block b a];exact h
theorem Ym {w w':World}{b:Nat}{o a:Obj}(h:w.heap[b]? =some o)(d:Below (w.alloc a).heap.size (w.alloc a) w'):w'.heap[b]? =some o:=by
 have c:b<w.heap.size:=by
  rcases Nat.lt_or_ge b w.heap.size with h'|h'
  ·exact h'
  ·rw[Array.getElem?_eq_none h']at h;cases h
 rw[d.block b (by simp;omega),Below.heap_alloc w a b c];exact h
theorem Bd {w w':World}{o:Obj}(a:Below (w.alloc o).heap.size (w.alloc o) w'):Bw w w':=
 ((Below.refl _ _).alloc (Nat.le_refl _) _).trans (a.mono (by simp))
theorem La:(Tryz.prog.info? 9).map (fun i=>(i.zero,i.size,i.bytes))=some (some (.string ⟨#[]⟩),1,16):=by kernel_rfl
theorem Kc {w w':World}{B:Nat}{e:TypeId}{size n:Nat}{v:Value}{xs:List Value}(h:w.ownsRow B e size v n xs)(a:Bw w w'):w'.ownsRow B e size v n xs:=by
 refine⟨h.1,?_⟩;rcases h.2 with b|⟨g,cap,cur,c,d,f,r⟩
 ·exact .inl b
 ·exact .inr ⟨g,cap,cur,c,d,Fa f a,r⟩
theorem fH {w:World}{b:Nat}(i:Nat){cs:Array Value}{T:TypeId}{fr:Nat×Nat}(h:w.heap[b]? =some (.cells cs T fr))(v:Value):(w.setCell ⟨b,i,none⟩ v).heap[b]? =some (.cells (cs.setIfInBounds i v) T fr):=by
 rw[setCell_eq_setRow w b i cs T fr v h];exact setRow_heap w b _ _ T _ h
theorem Qk {w:World}{B:Nat}{e:TypeId}{size n:Nat}{v:Value}{xs:List Value}(h:w.ownsRow B e size v n xs)(a:Addr)(u:Value)(i:a.block<B):(w.setCell a u).ownsRow B e size v n xs:=by
 refine⟨h.1,?_⟩;rcases h.2 with b|⟨g,cap,cur,c,d,f,r⟩
 ·exact .inl b
 ·exact .inr ⟨g,cap,cur,c,d,by rw[Below.heap_setCell _ _ _ _ (by omega)];exact f,r⟩
theorem Mc {w:World}{B:Nat}{e:TypeId}{size n:Nat}{v:Value}{xs:List Value}(h:w.ownsRow B e size v n xs)(o:Obj):(w.alloc o).drew.ownsRow B e size v n xs:=
 Kc h (((Below.refl _ _).alloc (Nat.le_refl _) o).drew)
theorem extract_eq (p:ByteArray)(a l:Nat):p.extract a (a+l)=⟨((p.data.toList.drop a).take l).toArray⟩:=by
 apply ByteArray.ext
 apply Array.ext'
 simp
def Bp (B:Nat)(w:World)(A:Option Addr)(c:Nat)(rs:List ByteArray):Prop:=
 0<rs.length→∃ b,A=some ⟨b,0,none⟩∧B≤b∧rs.length≤c∧b<w.heap.size∧∀ j (hj:j<rs.length),w.cell? ⟨b,j,none⟩=some (.string rs[j])
theorem Bp.cells {B:Nat}{w:World}{A:Option Addr}{c:Nat}{rs:List ByteArray}(h:Bp B w A c rs):Cells w A c rs:=fun e=>by
 obtain⟨b,f,k,g,d,a⟩:=h e;exact⟨b,0,f,g,d,fun j i=>by rw[Nat.zero_add];exact a j i⟩
theorem Bp.set {B:Nat}{w:World}{A:Option Addr}{c:Nat}{rs:List ByteArray}(h:Bp B w A c rs)(a:Addr)(m:a.block<B)(u:Value):Bp B (w.setCell a u) A c rs:=fun f=>by
 obtain⟨b,g,i,k,e,d⟩:=h f;refine⟨b,g,i,k,by simpa using e,fun j l=>?_⟩;rw[← d j l];exact World.cell?_of_block (Below.heap_setCell _ _ _ _ (by simp;omega))
theorem Bp.mono {B a:Nat}{w:World}{A:Option Addr}{c:Nat}{rs:List ByteArray}(h:Bp B w A c rs)(g:a≤B):Bp a w A c rs:=fun d=>by
 obtain⟨b,e,i,f⟩:=h d;exact⟨b,e,by omega,f⟩
theorem Bp.below {B:Nat}{w w':World}{A:Option Addr}{c:Nat}{rs:List ByteArray}(h:Bp B w A c rs)(a:Bw w w'):Bp B w' A c rs:=fun e=>by
 obtain⟨b,f,g,i,d,k⟩:=h e;refine⟨b,f,g,i,Nat.lt_of_lt_of_le d a.size,fun j l=>?_⟩;rw[a.cell (p:=⟨b,j,none⟩) d];exact k j l
theorem Kk {w:World}{B:Nat}{e:TypeId}{A:Option Addr}{k c:Nat}{rs:List ByteArray}(h:w.ownsRow B e 1 (.slice A k c) k (rs.map Value.string))(p:rs.length=k):Bp B w A c rs:=fun q=>by
 rcases h.2 with⟨f,-⟩|⟨g,cap,cur,i,l,b,r,s,t,m⟩
 ·simp at f;omega
 ·have a:A=some ⟨g,0,none⟩∧c=cap:=by simpa using i
  obtain⟨rfl,rfl⟩:=a;refine⟨g,rfl,l,by omega,(Array.getElem?_eq_some_iff.1 b).1,fun j n=>?_⟩;have o:cur.toList[j]? =some (.string rs[j]):=by
   have d:(rs.map Value.string)[j]? =some (.string rs[j]):=(by simp[n]);rw[← m,List.getElem?_take_of_lt (by omega)]at d;exact d
  rw[Bs b]
  simpa using o
abbrev Fv (x:Pg.Ct)(A:Option Addr)(c:Nat):Value:=.agg #[x.lsn,x.kind,x.link,.slice A x.Ai.length c]
abbrev zeroV:Value:=.agg #[(),(),(),"s"]
def Po (r:Option Pg.Ct)(w:World)(e:Ending)(w':World):Prop:=
 (match r with
   |some x=>∃ A c,e= .returned (.tuple #[Fv x A c,true])∧Bp w.heap.size w' A c x.Ai
   |none=>e= .returned (.tuple #[zeroV,false]))∧Bw w w'
theorem nQ (p:ByteArray)(_hm:p.size≤140737488355328)(w:World):
 Cq 152 #[p] w (Po (Pg.rd p.data.toList) w):=by
 by_cases a6:p.size=512
 ·have HL:=Hq (show p.data.toList.length=512 by have h9:p.data.toList.length=p.size:=(by simp);omega)
  obtain⟨G,y⟩:=ex (Oct.Dj p.data.toList 4 6);obtain⟨kind,l⟩:=ex (Oct.Dj p.data.toList 10 1);obtain⟨link,m⟩:=ex (Oct.Dj p.data.toList 12 3);obtain⟨n,hn⟩:=ex (Oct.Dj p.data.toList 15 2);have H:=Hq (fun W=>Mz p 4 6 (by omega) (by omega) (by omega) (by omega) (by omega) W);have I:=Hq (fun W=>Mz p 10 1 (by omega) (by omega) (by omega) (by omega) (by omega) W);have J:=Hq (fun W=>Mz p 12 3 (by omega) (by omega) (by omega) (by omega) (by omega) W);have K:=Hq (fun W=>Mz p 15 2 (by omega) (by omega) (by omega) (by omega) (by omega) W);rw[show((4:Int).toNat)=4 from rfl,show((6:Int).toNat)=6 from rfl,← y]at H;rw[show((10:Int).toNat)=10 from rfl,show((1:Int).toNat)=1 from rfl,← l]at I;rw[show((12:Int).toNat)=12 from rfl,show((3:Int).toNat)=3 from rfl,← m]at J;rw[show((15:Int).toNat)=15 from rfl,show((2:Int).toNat)=2 from rfl,← hn]at K;have ae:=Hq y;have L:=Hq l;have af:=Hq m;have M:=Hq hn;clear y l m hn
  by_cases a:4<kind∨123<n
  ·have HR:=Hq (show Pg.rd p.data.toList=none by rw[Pg.rd,if_pos (by rw[← L.out,← M.out];exact .inr a)])
   have d:4<kind∨(kind≤4∧123<n):=(by omega);clear a;rcases d with N|⟨N,Z⟩
   all_goals
    go_enter Tryz.func152,Tryz.ntmps152
    go_wp2_with(first|(go_at_call 194;(with_reducible refine(H.out _).mono ?_);rintro e w1 ⟨rfl,d⟩)|(go_at_call 194;(with_reducible refine(I.out _).mono ?_);rintro e w2 ⟨rfl,q⟩)|(go_at_call 194;(with_reducible refine(J.out _).mono ?_);rintro e w3 ⟨rfl,r⟩)|(go_at_call 194;(with_reducible refine(K.out _).mono ?_);rintro e w4 ⟨rfl,g⟩;obtain⟨a0,a1,a2,a3,-⟩:=Ey (C0 g);obtain⟨c0,c1,c2,c3,f0,f1,f2,f3⟩:=Ey (Ym (Fa (Fa (C0 d) q) r) g)))
    refine bodyPost_ret (v:=.tuple #[zeroV,false]) (by simp[results,Tryz.results152,go_sem,c0,c1,c2,c3]) rfl ?_;unfold Po;rw[HR.out];have s:Bw w w4:=andThen (andThen (andThen (Bd d) q) r) (Bd g);refine⟨rfl,?_⟩
    repeat (first|exact s|refine Below.setCell ?_ (by simp) _)
  ·obtain⟨b0,ag⟩:kind≤4∧n≤123:=by omega
   have a7:=Hq (show Pg.rd p.data.toList=(Pg.Du p.data.toList n).map fun rs=>⟨G,kind,link,rs⟩ by
    rw[Pg.rd,if_neg (by rw[← L.out,← M.out];have:=HL.out;omega),← ae.out,← L.out,← af.out,← M.out])
   clear a;go_enter Tryz.func152,Tryz.ntmps152
   go_upto_block 0 with(first|(go_at_call 194;(with_reducible refine(H.out _).mono ?_);rintro e w1 ⟨rfl,d⟩)|(go_at_call 194;(with_reducible refine(I.out _).mono ?_);rintro e w2 ⟨rfl,q⟩)|(go_at_call 194;(with_reducible refine(J.out _).mono ?_);rintro e w3 ⟨rfl,r⟩)|(go_at_call 194;(with_reducible refine(K.out _).mono ?_);rintro e w4 ⟨rfl,g⟩;obtain⟨a0,a1,a2,a3,-⟩:=Ey (C0 g)))
   have O:=C0 g;have hZ:=Ym (Fa (Fa (C0 d) q) r) g;have s:Bw w w4:=andThen (andThen (andThen (Bd d) q) r) (Bd g);have ah:w.heap.size<w3.heap.size:=by
    have:=d.size;have:=q.size;have:=r.size;simp at*;omega
   have x:w3.heap.size<w4.heap.size:=(by have:=g.size;simp at this;omega);clear d q r g a0 a1 a2 a3;generalize w3.heap.size=X at O ah x ⊢;have HX:=Hq O;have HZ:=Hq hZ;have HW:=Hq s;clear O hZ s;go_wp2_with fail
   go_loopw [31] (fun i wr=>∃ (k:Nat) (rs:List ByteArray) (A:Option Addr) (c:Nat),k≤n∧i= .int .i64 k∧Pg.Du p.data.toList k=some rs∧wr.heap[X]? =some (.cells #[G,kind,link,.slice A k c] 151 (0,0))∧wr.heap[w.heap.size]? =some (.cells #[(),(),(),"s"] 151 (0,0))∧wr.ownsRow w4.heap.size 9 1 (.slice A k c) k (rs.map Value.string)∧Bw w wr∧w4.heap.size≤wr.heap.size) (fun i _=>n-(intOf i).toNat)
   case atStart=>exact⟨0,[],none,0,Nat.zero_le _,rfl,rfl,HX.out,HZ.out,⟨rfl,.inl ⟨rfl,rfl⟩⟩,HW.out,Nat.le_refl _⟩
   case round=>
    obtain⟨k,rs,A,c,hk,rfl,P,O,hZ,F,s,b1⟩:=hrel;have a8:=Pg.Hs _ _ _ P;have Q:=Hq P;have R:=Hq O;have S:=Hq hZ;have HO:=Hq F;have T:=Hq s;have aa:=Hq a8;clear P O hZ F s a8
    by_cases b2:k<n
    ·obtain⟨at_,D⟩:=ex (Oct.Dj p.data.toList (19+4*k) 2)
     obtain⟨long,j⟩:=ex (Oct.Dj p.data.toList (21+4*k) 2);have b3:at_<65536:=by
      have N:=Oct.It ((p.data.toList.drop (19+4*k)).take 2);have Z:256^((p.data.toList.drop (19+4*k)).take 2).length≤256^2:=Nat.pow_le_pow_right (by omega) (by rw[List.length_take];omega);rw[D];unfold Oct.Dj;omega
     have b4:long<65536:=by
      have N:=Oct.It ((p.data.toList.drop (21+4*k)).take 2);have Z:256^((p.data.toList.drop (21+4*k)).take 2).length≤256^2:=Nat.pow_le_pow_right (by omega) (by rw[List.length_take];omega);rw[j];unfold Oct.Dj;omega
     have HA:=Hq (fun W=>Mz p (19+4*(k:Int)) 2 (by omega) (by omega) (by omega) (by omega) (by omega) W);have HB:=Hq (fun W=>Mz p (19+4*(k:Int)+2) 2 (by omega) (by omega) (by omega) (by omega) (by omega) W);rw[show(19+4*(k:Int)).toNat=19+4*k by omega,show((2:Int).toNat)=2 from rfl,← D]at HA;rw[show(19+4*(k:Int)+2).toNat=21+4*k by omega,show((2:Int).toNat)=2 from rfl,← j]at HB;have U:=Hq D;have V:=Hq j;clear D j
     by_cases a:400<long∨512<at_+long
     ·have HN:=Hq (show Pg.rd p.data.toList=none by
       have N:Pg.Du p.data.toList (k+1)=none:=by
        simp only[Pg.Du,Q.out];rw[if_pos (by rw[← U.out,← V.out];exact a)]
       have Z:=Pg.Qh _ N (n-(k+1));rw[show k+1+(n-(k+1))=n by omega]at Z;rw[a7.out,Z];rfl)
      have d:400<long∨(long≤400∧(512:Int)-(long:Int)<(at_:Int)):=(by omega);clear a;rcases d with N|⟨N,Z⟩
      all_goals
       go_wp2_with(first|(go_at_call 194;(with_reducible refine(HA.out _).mono ?_);rintro e w5 ⟨rfl,z⟩)|(go_at_call 194;(with_reducible refine(HB.out _).mono ?_);rintro e w6 ⟨rfl,C⟩;obtain⟨c0,c1,c2,c3,f0,f1,f2,f3⟩:=Ey (Fa (Fa S.out z) C)))
       refine bodyPost_ret (v:=.tuple #[zeroV,false]) (by simp[results,Tryz.results152,go_sem,c0,c1,c2,c3]) rfl ?_;unfold Po;rw[HN.out];have ad:Bw w w6:=andThen (andThen T.out z) C;refine⟨rfl,?_⟩
       repeat (first|exact ad|refine Below.setCell ?_ (by simp) _)
     ·obtain⟨b5,ax⟩:long≤400∧at_+long≤512:=by omega
      clear a
      go_upto_region 13 with(first|(go_at_call 194;(with_reducible refine(HA.out _).mono ?_);rintro e w5 ⟨rfl,z⟩)|(go_at_call 194;(with_reducible refine(HB.out _).mono ?_);rintro e w6 ⟨rfl,C⟩))
      obtain⟨i0,ai,aj,ak,al⟩:=info_parts La;have h:Bw wr w6:=andThen z C;have E:=Fa R.out h;have an:=Fa S.out h;have u:w6.ownsRow w4.heap.size 9 1 (.slice A k c) k (rs.map Value.string):=Kc HO.out h;have ao:Bw w w6:=andThen T.out h;have b6:=h.size;obtain⟨x0,x1,x2,x3,g0,g1,g2,g3⟩:=Ey E;have b7:(0:Int)≤(at_:Int):=(by omega);have b8:(at_:Int)≤(at_:Int)+(long:Int):=(by omega);have b9:(at_:Int)+(long:Int)≤512:=(by omega);have ba:IntKind.i64.wrap ((at_:Int)+(long:Int))=(at_:Int)+(long:Int):=IntWalk.i64_in _ (by omega);have bb:((at_:Int)+(long:Int)).toNat=at_+long:=(by omega);have bc:0≤(at_:Int)+(long:Int):=(by omega);have bd:at_≤at_+long:=(by omega);have bf:at_+long≤p.size:=(by omega);clear z C h;have HF:=Hq (show ∀ w7:World,((w6.alloc (.cells #[.string (p.extract at_ (at_+long))] 9)).drew).grownBy w7 (Value.slice A k c).ownBlock→∀ (b:Nat) (o:Obj),b<w4.heap.size→w6.heap[b]? =some o→w7.heap[b]? =some o by
       intro w7 hg b o hb ho;rw[hg.block b (by simp;omega) (fun e9=>absurd (u.lt b e9.symm).1 (by omega))];exact(Below.heap_alloc w6 _ b (by omega)).trans ho)
      obtain⟨-,-,-,z3,-⟩:=Ey ((Below.heap_alloc w6 (.cells #[.string (p.extract at_ (at_+long))] 9) X (by omega)).trans E)
      go_region_law? (refine step_append_lies _ (by rfl) _ _ _ (by rfl) w4.heap.size 9 i0 (.string ⟨#[]⟩) 1 16 V9 ai aj ak al rfl (by omega) (.slice A k c) k (rs.map Value.string) (by rfl) (Mc u _) ⟨w6.heap.size,0,none⟩ 1 1 [.string (p.extract at_ (at_+long))] (by rfl) (by rfl) (World.news_of_block (cs:=#[.string (p.extract at_ (at_+long))]) (t:=9) (fr:=(0,0)) (heap_alloc_new w6 _)) (by simp[Value.oneCell']) (by omega) (by simp[maxLen];omega) (by omega) (by simp;omega) (w6.heap.size+1) (by simp) ?_;intro gg cap w7 Y f ay az;obtain⟨y0,y1,y2,y3,k0,k1,k2,k3⟩:=Ey (HF.out w7 f X _ x E))
      all_goals
       have aq:=HF.out w7 f X _ x E;have ar:=HF.out w7 f w.heap.size _ (by omega) an;have au:Bw w w7:=((ao.alloc (by omega) _).drew).grown f (by simp;omega) (fun k9 e9=>by have:=(u.lt k9 e9).1;omega);have bg:w6.heap.size+1≤w7.heap.size:=(by have:=f.size;simp at this;omega);go_wp2_with fail;go_roundw
       case rel=>
        refine⟨k+1,rs++[p.extract at_ (at_+long)],some ⟨gg,0,none⟩,cap,by omega,by go_num,?_,?_,?_,?_,?_,?_⟩
        ·simp only[Pg.Du,Q.out]
         rw[if_neg (by rw[← U.out,← V.out];omega),← U.out,← V.out];rw[extract_eq]
        ·have:=fH 3 aq (.slice (some ⟨gg,0,none⟩) (k+1) cap)
         simpa using this
        ·rw[Below.heap_setCell _ _ _ _ (by simp;omega)];exact ar
        ·have:=Qk Y ⟨X,3,none⟩ (.slice (some ⟨gg,0,none⟩) (k+1) cap) x
         simpa using this
        ·exact au.setCell (by simp;omega) _
        ·simp;omega
       case measure=>simp[intOf];omega
    ·obtain rfl:k=n:=by omega
     have O:=R.out;obtain⟨x0,x1,x2,x3,-⟩:=Ey R.out;obtain⟨c0,c1,c2,c3,f0,f1,f2,f3⟩:=Ey S.out;have av:X≠w.heap.size:=(by omega);go_wp2_with fail;refine bodyPost_ret (v:=.tuple #[Fv ⟨G,kind,link,rs⟩ A c,true]) (by simp[results,Tryz.results152,go_sem,c0,c1,c2,c3];exact aa.out.symm) rfl ?_;unfold Po;rw[a7.out,Q.out];have hlen:=aa.out;have aw:=Kk HO.out hlen;refine⟨⟨A,c,by simp[Fv,hlen],?_⟩,?_⟩
     ·refine Bp.mono (B:=w4.heap.size) ?_ (by omega)
      repeat (first|exact aw|refine Bp.set ?_ _ (by simp;omega) _)
     ·repeat (first|exact T.out|refine Below.setCell ?_ (by simp) _)
 ·have av:((p.size:Int)==512)=false:=by simp;omega
  have HR:=Hq (show Pg.rd p.data.toList=none by
   rw[Pg.rd,if_pos (.inl (by have h9:p.data.toList.length=p.size:=(by simp);omega))])
  clear a6;go_enter Tryz.func152,Tryz.ntmps152;go_wp2_with fail;refine bodyPost_ret (v:=.tuple #[zeroV,false]) (by simp[results,Tryz.results152,go_sem]) rfl ?_;unfold Po;rw[HR.out];exact⟨rfl,(Below.refl _ _).alloc (Nat.le_refl _) _⟩
abbrev Kl (X:Nat)(x:Pg.Ct)(A:Option Addr)(c:Nat)(w0 u:World):Prop:=
 u.cell? ⟨X,0,none⟩=some (.int .i64 x.lsn)∧u.cell? ⟨X,1,none⟩=some (.int .i64 x.kind)∧u.cell? ⟨X,2,none⟩=some (.int .i64 x.link)∧u.cell? ⟨X,3,none⟩=some (.slice A x.Ai.length c)∧Cells u A c x.Ai∧X<u.heap.size∧Bw w0 u
theorem Kl.step {X:Nat}{x:Pg.Ct}{A:Option Addr}{c:Nat}{d u v:World}(h:Kl X x A c d u)(a:Bw u v):Kl X x A c d v:=by
 obtain⟨c0,e,c2,c3,f,b,g⟩:=h;have:=a.size;refine⟨?_,?_,?_,?_,f.below a,by omega,andThen g a⟩
 ·rw[a.cell (p:=⟨X,0,none⟩) b];exact c0
 ·rw[a.cell (p:=⟨X,1,none⟩) b];exact e
 ·rw[a.cell (p:=⟨X,2,none⟩) b];exact c2
 ·rw[a.cell (p:=⟨X,3,none⟩) b];exact c3
theorem Kl.drew {X:Nat}{x:Pg.Ct}{A:Option Addr}{c:Nat}{a u:World}(h:Kl X x A c a u):Kl X x A c a u.drew:=h.step (Below.refl _ _).drew
theorem below_drewN (w:World)(n:Nat):Bw w (w.drewN n):=⟨rfl,rfl,rfl,Nat.le_refl _,fun _ _=>rfl⟩
theorem iO (n size:Int)(b:0≤size)(d:size≤8)(X:Nat)(x:Pg.Ct)(A:Option Addr)(c:Nat)(a u:World)(h:Kl X x A c a u):
 Cq 153 #[n,size] u fun e w'=>e= .returned (.string (Oct.Bh n size))∧Kl X x A c a w':=
 (Hp n size b d u).mono fun _ _ ⟨f,g⟩=>⟨f,h.step g⟩
theorem bW (x:Pg.Ct)(A:Option Addr)(c:Nat)(a:Pg.Ou x)(X:Nat)(b u:World)(h:Kl X x A c b u):
 Cq 128 #[.agg #[x.lsn,x.kind,x.link,.slice A x.Ai.length c]] u fun e w'=>e= .returned (.string ⟨(Pg.Cx x).toArray⟩)∧Kl X x A c b w':=
 (Mb x A c a.small (by have:=a.Ay;omega) u h.2.2.2.2.1).mono fun _ _ ⟨d,f⟩=>⟨d,h.step f⟩
theorem nR (p:ByteArray)(F:p.size≤140737488355328)(w:World):
 Cq 109 #[p] w (Po (Pg.right p.data.toList) w):=by
 have q:=Hq (fun W=>nQ p F W);rcases l:Pg.rd p.data.toList with _|x
 ·rw[l]at q
  rw[Pg.Ht l];go_enter Tryz.func109,Tryz.ntmps109
  go_upto_region 2 with(first|(go_at_call 152;(with_reducible refine(q.out _).mono ?_);rintro e a ⟨rfl,d⟩))
  have t:w.heap.size<a.heap.size:=by have:=d.size;simp at this;omega
  have i:=Bd d;have j:=C0 d;clear d;have u:=Hq (show Kl a.heap.size Pg.zero none 0 (a.alloc (.cells #[(),(),(),"s"] 151)) (a.alloc (.cells #[(),(),(),"s"] 151)) by
   obtain⟨a0,y,a2,a3,-⟩:=Ey (heap_alloc_new a (.cells #[(),(),(),"s"] 151));exact⟨a0,y,a2,a3,fun G=>by simp[Pg.zero]at G,by simp,Below.refl _ _⟩)
  go_cut [21] (fun s m=>s= .bool true∧Kl a.heap.size Pg.zero none 0 (a.alloc (.cells #[(),(),(),"s"] 151)) m)
  case first=>
   go_quiet (fail)
   go_wp2_with fail;go_meet
   case rel=>exact⟨rfl,u.out.step (below_drewN _ _)⟩
  case rest=>
   obtain⟨rfl,k⟩:=hcut;have g:=andThen (Bd (k.2.2.2.2.2.2)) (Below.refl _ _);obtain⟨c0,r,c2,c3,f0,f1,f2,f3⟩:=Ey (Fa j g);go_wp2_with fail;refine bodyPost_ret (v:=.tuple #[zeroV,false]) (by simp[results,Tryz.results109,go_sem,c0,r,c2,c3]) rfl ?_;have f:=andThen i g;refine⟨rfl,?_⟩
   repeat (first|exact f|refine Below.setCell ?_ (by simp) _)
 ·rw[l]at q
  obtain⟨D,n⟩:=Pg.Ra l;have H:p.size=512:=by have I:p.data.toList.length=p.size:=(by simp);omega
  rw[Pg.Rt l];have J:=Hq D;clear l D n;have h:(Pg.Cx x==(Oct.Bh 0 4++p.extract 4 512).toList)=decide (Pg.Cx x=Oct.Bm 0 4++p.data.toList.drop 4):=by
   have K:(Oct.Bh 0 4++p.extract 4 512).data.toList=Oct.Bm 0 4++p.data.toList.drop 4:=by
    rw[ByteArray.data_append,Array.toList_append,show(Oct.Bh 0 4).data.toList=Oct.Bm 0 4 from Oct.Ca 0 4 (by omega)]
    congr 1
    rw[show 512=4+508 from rfl,extract_eq];exact List.take_of_length_le (by have I:p.data.toList.length=p.size:=(by simp);rw[List.length_drop];omega)
   rw[ByteArray.toList_eq,K];exact Bool.beq_eq_decide_eq _ _
  generalize decide (Pg.Cx x=Oct.Bm 0 4++p.data.toList.drop 4)=b at h ⊢;have C:=Hq h;have L:(Oct.Bh 0 4).size=4:=Oct.Bn 0 4 (by omega);have M:(p.extract 4 p.size).size=508:=by simp;omega
  have N:4≤p.size:=by omega
  clear h;go_enter Tryz.func109,Tryz.ntmps109
  go_upto_region 2 with(first|(go_at_call 152;(with_reducible refine(q.out _).mono ?_);rintro e a ⟨⟨A,c,rfl,o⟩,d⟩))
  have t:w.heap.size<a.heap.size:=by have:=d.size;simp at this;omega
  have i:=Bd d;have j:=C0 d;clear d;have u:=Hq (show Kl a.heap.size x A c (a.alloc (.cells #[x.lsn,x.kind,x.link,.slice A x.Ai.length c] 151)) (a.alloc (.cells #[x.lsn,x.kind,x.link,.slice A x.Ai.length c] 151)) by
   obtain⟨a0,y,a2,a3,-⟩:=Ey (heap_alloc_new a (.cells #[x.lsn,x.kind,x.link,.slice A x.Ai.length c] 151));exact⟨a0,y,a2,a3,(o.below ((Below.refl _ _).alloc (Nat.le_refl _) _)).cells,by simp,Below.refl _ _⟩)
  go_cut [21] (fun s m=>s= .bool (!b)∧Kl a.heap.size x A c (a.alloc (.cells #[x.lsn,x.kind,x.link,.slice A x.Ai.length c] 151)) m)
  case first=>
   go_region_held3 (fun m=>Kl a.heap.size x A c (a.alloc (.cells #[x.lsn,x.kind,x.link,.slice A x.Ai.length c] 151)) m) (first|assumption|exact u.out.drew) (first|(go_at_call 128;refine(bW x A c J.out _ _ _ (by assumption)).mono ?_;rintro e a ⟨rfl,k⟩)|(go_at_call 153;refine(iO _ _ (by omega) (by omega) _ _ _ _ _ _ (by assumption)).mono ?_;rintro e a ⟨rfl,k⟩))
   go_wp2_with fail;go_meet
   case rel=>exact⟨congrArg (fun z=>Value.bool (!z)) C.out,k⟩
  case rest=>
   obtain⟨rfl,k⟩:=hcut;have g:=Bd (k.2.2.2.2.2.2);obtain⟨c0,r,c2,c3,f0,f1,f2,f3⟩:=Ey (Fa j g);have f:=andThen i g;obtain⟨P,Q,R,S,E,-,-⟩:=k;have O:a.heap.size≠w.heap.size:=by omega
   cases b
   ·go_wp2_with fail
    refine bodyPost_ret (v:=.tuple #[zeroV,false]) (by simp[results,Tryz.results109,go_sem,c0,r,c2,c3]) rfl ?_;refine⟨rfl,?_⟩
    repeat (first|exact f|refine Below.setCell ?_ (by simp) _)
   ·go_wp2_with fail
    refine bodyPost_ret (v:=.tuple #[Fv x A c,true]) (by simp[results,Tryz.results109,go_sem,c0,r,c2,c3]) rfl ?_;refine⟨⟨A,c,rfl,?_⟩,?_⟩
    ·refine Bp.mono (B:=w.heap.size+1) ?_ (by omega)
     repeat (first|exact(o.below g).mono (by simp)|refine Bp.set ?_ _ (by simp) _)
    ·repeat (first|exact f|refine Below.setCell ?_ (by simp) _)
def Pp (r:Option Pg.Ct)(w:World)(e:Ending)(w':World):Prop:=
 (match r with
   |some x=>∃ A c,e= .returned (.tuple #[Fv x A c,true])∧Bp w.heap.size w' A c x.Ai
   |none=>∃ (x:Pg.Ct) (A:Option Addr) (c:Nat),e= .returned (.tuple #[Fv x A c,false]))∧Bw w w'
theorem bX (p:ByteArray)(_hm:p.size≤140737488355328)(w:World):
 Cq 43 #[p] w (Pp (Pg.right p.data.toList) w):=by
 by_cases a1:p.size=512
 ·have HL:=Hq (show p.data.toList.length=512 by have h9:p.data.toList.length=p.size:=(by simp);omega)
  obtain⟨a,m⟩:=ex (Oct.Dj p.data.toList 4 6);obtain⟨kind,h⟩:=ex (Oct.Dj p.data.toList 10 1);obtain⟨link,j⟩:=ex (Oct.Dj p.data.toList 12 3);obtain⟨n,hn⟩:=ex (Oct.Dj p.data.toList 15 2);have H:=Hq (fun W=>I3 p 4 6 (by omega) (by omega) (by omega) (by omega) (by omega) W);have I:=Hq (fun W=>I3 p 10 1 (by omega) (by omega) (by omega) (by omega) (by omega) W);have J:=Hq (fun W=>I3 p 12 3 (by omega) (by omega) (by omega) (by omega) (by omega) W);have K:=Hq (fun W=>I3 p 15 2 (by omega) (by omega) (by omega) (by omega) (by omega) W);have b0:n<65536:=by have:=Pg.Rs p.data.toList 15 2;omega
  rw[show((4:Int).toNat)=4 from rfl,show((6:Int).toNat)=6 from rfl,← m]at H;rw[show((10:Int).toNat)=10 from rfl,show((1:Int).toNat)=1 from rfl,← h]at I;rw[show((12:Int).toNat)=12 from rfl,show((3:Int).toNat)=3 from rfl,← j]at J;rw[show((15:Int).toNat)=15 from rfl,show((2:Int).toNat)=2 from rfl,← hn]at K;have af:=Hq m;have L:=Hq h;have ag:=Hq j;have M:=Hq hn;clear m h j hn
  by_cases d:4<kind∨123<n
  ·have E:=Hq (show Pg.right p.data.toList=none from Pg.Ht (by rw[Pg.rd,if_pos (by rw[← L.out,← M.out];exact .inr d)]))
   have N:4<kind∨(kind≤4∧512<19+4*(n:Int)):=(by omega);clear d;rcases N with y|⟨y,h2⟩
   all_goals
    go_enter Tryz.func43,Tryz.ntmps43
    go_wp2_with(first|(go_at_call 101;(with_reducible refine(H.out _).mono ?_);rintro e w1 ⟨rfl,rfl⟩)|(go_at_call 101;(with_reducible refine(I.out _).mono ?_);rintro e w2 ⟨rfl,rfl⟩)|(go_at_call 101;(with_reducible refine(J.out _).mono ?_);rintro e w3 ⟨rfl,rfl⟩)|(go_at_call 101;(with_reducible refine(K.out _).mono ?_);rintro e w4 ⟨rfl,rfl⟩))
    refine bodyPost_ret (v:=.tuple #[zeroV,false]) (by simp[results,Tryz.results43,go_sem]) rfl ?_;unfold Pp;rw[E.out];refine⟨⟨Pg.zero,none,0,rfl⟩,?_⟩
    repeat (first|exact Below.refl _ _|refine Below.setCell ?_ (by simp) _|refine Below.alloc ?_ (by simp) _)
  ·obtain⟨b4,ah⟩:kind≤4∧n≤123:=by omega
   have a6:=Hq (show Pg.rd p.data.toList=(Pg.Du p.data.toList n).map fun rs=>⟨a,kind,link,rs⟩ by
    rw[Pg.rd,if_neg (by rw[← L.out,← M.out];have:=HL.out;omega),← af.out,← L.out,← ag.out,← M.out])
   clear d;have ai:19+4*(n:Int)≤512:=(by omega);go_enter Tryz.func43,Tryz.ntmps43
   go_upto_block 0 with(first|(go_at_call 101;(with_reducible refine(H.out _).mono ?_);rintro e w1 ⟨rfl,rfl⟩)|(go_at_call 101;(with_reducible refine(I.out _).mono ?_);rintro e w2 ⟨rfl,rfl⟩)|(go_at_call 101;(with_reducible refine(J.out _).mono ?_);rintro e w3 ⟨rfl,rfl⟩)|(go_at_call 101;(with_reducible refine(K.out _).mono ?_);rintro e w4 ⟨rfl,rfl⟩))
   have O:=heap_alloc_new (w.alloc (.cells #[(),(),(),"s"] 95)) (.cells #[a,kind,link,"s"] 95);have hZ:=(Below.heap_alloc (w.alloc (.cells #[(),(),(),"s"] 95)) (.cells #[a,kind,link,"s"] 95) w.heap.size (by simp)).trans (heap_alloc_new w _);rw[show(w.alloc (.cells #[(),(),(),"s"] 95)).heap.size=w.heap.size+1 by simp]at O;have r:Bw w ((w.alloc (.cells #[(),(),(),"s"] 95)).alloc (.cells #[a,kind,link,"s"] 95)):=((Below.refl _ _).alloc (Nat.le_refl _) _).alloc (by simp) _;generalize b5:w.heap.size+1=X at O ⊢;have HX:=Hq O;have HZ:=Hq hZ;have HW:=Hq r;clear O hZ r;go_wp2_with fail
   go_loopw [6] (fun i wr=>∃ (k:Nat) (rs:List ByteArray) (A:Option Addr) (c:Nat),k≤n∧i= .int .i64 k∧Pg.Du p.data.toList k=some rs∧wr.heap[X]? =some (.cells #[a,kind,link,.slice A k c] 95 (0,0))∧wr.heap[w.heap.size]? =some (.cells #[(),(),(),"s"] 95 (0,0))∧wr.ownsRow (w.heap.size+2) 9 1 (.slice A k c) k (rs.map Value.string)∧Bw w wr∧w.heap.size+2≤wr.heap.size) (fun i _=>n-(intOf i).toNat)
   case atStart=>exact⟨0,[],none,0,Nat.zero_le _,rfl,rfl,HX.out,HZ.out,⟨rfl,.inl ⟨rfl,rfl⟩⟩,HW.out,by simp⟩
   case round=>
    obtain⟨k,rs,A,c,hk,rfl,P,O,hZ,F,r,b6⟩:=hrel;have a7:=Pg.Hs _ _ _ P;have Q:=Hq P;have R:=Hq O;have z:=Hq hZ;have HO:=Hq F;have S:=Hq r;have aj:=Hq a7;clear P O hZ F r a7
    by_cases b7:k<n
    ·obtain⟨at_,C⟩:=ex (Oct.Dj p.data.toList (19+4*k) 2)
     obtain⟨long,g⟩:=ex (Oct.Dj p.data.toList (21+4*k) 2);have b8:at_<65536:=by
      have y:=Oct.It ((p.data.toList.drop (19+4*k)).take 2);have h2:256^((p.data.toList.drop (19+4*k)).take 2).length≤256^2:=Nat.pow_le_pow_right (by omega) (by rw[List.length_take];omega);rw[C];unfold Oct.Dj;omega
     have b9:long<65536:=by
      have y:=Oct.It ((p.data.toList.drop (21+4*k)).take 2);have h2:256^((p.data.toList.drop (21+4*k)).take 2).length≤256^2:=Nat.pow_le_pow_right (by omega) (by rw[List.length_take];omega);rw[g];unfold Oct.Dj;omega
     have HA:=Hq (fun W=>I3 p (19+4*(k:Int)) 2 (by omega) (by omega) (by omega) (by omega) (by omega) W);have HB:=Hq (fun W=>I3 p (19+4*(k:Int)+2) 2 (by omega) (by omega) (by omega) (by omega) (by omega) W);rw[show(19+4*(k:Int)).toNat=19+4*k by omega,show((2:Int).toNat)=2 from rfl,← C]at HA;rw[show(19+4*(k:Int)+2).toNat=21+4*k by omega,show((2:Int).toNat)=2 from rfl,← g]at HB;have T:=Hq C;have U:=Hq g;clear C g
     by_cases d:400<long∨512<at_+long
     ·have HN:=Hq (show Pg.right p.data.toList=none from Pg.Ht (by
       have y:Pg.Du p.data.toList (k+1)=none:=by
        simp only[Pg.Du,Q.out];rw[if_pos (by rw[← T.out,← U.out];exact d)]
       have h2:=Pg.Qh _ y (n-(k+1));rw[show k+1+(n-(k+1))=n by omega]at h2;rw[a6.out,h2];rfl))
      have N:512<(at_:Int)+(long:Int)∨((at_:Int)+(long:Int)≤512∧400<long):=(by omega);clear d;rcases N with y|⟨y,h2⟩
      all_goals
       obtain⟨c0,c1,c2,c3,f0,f1,f2,f3⟩:=Ey z.out
       go_wp2_with(first|(go_at_call 101;(with_reducible refine(HA.out _).mono ?_);rintro e w5 ⟨rfl,rfl⟩)|(go_at_call 101;(with_reducible refine(HB.out _).mono ?_);rintro e wr ⟨rfl,rfl⟩))
       refine bodyPost_ret (v:=.tuple #[zeroV,false]) (by simp[results,Tryz.results43,go_sem,c0,c1,c2,c3]) rfl ?_;unfold Pp;rw[HN.out];refine⟨⟨Pg.zero,none,0,rfl⟩,?_⟩
       repeat (first|exact S.out|refine Below.setCell ?_ (by simp) _)
     ·obtain⟨ba,b1⟩:long≤400∧at_+long≤512:=by omega
      clear d
      go_upto_region 13 with(first|(go_at_call 101;(with_reducible refine(HA.out _).mono ?_);rintro e w5 ⟨rfl,rfl⟩)|(go_at_call 101;(with_reducible refine(HB.out _).mono ?_);rintro e wr ⟨rfl,rfl⟩))
      obtain⟨i0,ak,al,an,ao⟩:=info_parts La;have D:=R.out;have aq:=z.out;have l:wr.ownsRow (w.heap.size+2) 9 1 (.slice A k c) k (rs.map Value.string):=HO.out;have ar:Bw w wr:=S.out;obtain⟨x0,x1,x2,x3,g0,g1,g2,g3⟩:=Ey D;have bb:(0:Int)≤(at_:Int):=(by omega);have bc:(at_:Int)≤(at_:Int)+(long:Int):=(by omega);have bd:(at_:Int)+(long:Int)≤512:=(by omega);have au:IntKind.i64.wrap ((at_:Int)+(long:Int))=(at_:Int)+(long:Int):=IntWalk.i64_in _ (by omega);have bf:((at_:Int)+(long:Int)).toNat=at_+long:=(by omega);have bg:0≤(at_:Int)+(long:Int):=(by omega);have bh:at_≤at_+long:=(by omega);have bj:at_+long≤p.size:=(by omega);have HF:=Hq (show ∀ w7:World,((wr.alloc (.cells #[.string (p.extract at_ (at_+long))] 9)).drew).grownBy w7 (Value.slice A k c).ownBlock→∀ (b:Nat) (o:Obj),b<(w.heap.size+2)→wr.heap[b]? =some o→w7.heap[b]? =some o by
       intro w7 hg b o hb ho;rw[hg.block b (by simp;omega) (fun e9=>absurd (l.lt b e9.symm).1 (by omega))];exact(Below.heap_alloc wr _ b (by omega)).trans ho)
      obtain⟨-,-,-,z3,-⟩:=Ey ((Below.heap_alloc wr (.cells #[.string (p.extract at_ (at_+long))] 9) X (by omega)).trans D)
      go_region_law? (refine step_append_lies _ (by rfl) _ _ _ (by rfl) (w.heap.size+2) 9 i0 (.string ⟨#[]⟩) 1 16 V9 ak al an ao rfl (by omega) (.slice A k c) k (rs.map Value.string) (by rfl) (Mc l _) ⟨wr.heap.size,0,none⟩ 1 1 [.string (p.extract at_ (at_+long))] (by rfl) (by rfl) (World.news_of_block (cs:=#[.string (p.extract at_ (at_+long))]) (t:=9) (fr:=(0,0)) (heap_alloc_new wr _)) (by simp[Value.oneCell']) (by omega) (by simp[maxLen];omega) (by omega) (by simp;omega) (wr.heap.size+1) (by simp) ?_;intro gg cap w7 V f b2 b3;obtain⟨y0,y1,y2,y3,k0,k1,k2,k3⟩:=Ey (HF.out w7 f X _ (show X<w.heap.size+2 by omega) D))
      all_goals
       have av:=HF.out w7 f X _ (show X<w.heap.size+2 by omega) D;have aw:=HF.out w7 f w.heap.size _ (by omega) aq;have ax:Bw w w7:=((ar.alloc (by omega) _).drew).grown f (by simp;omega) (fun k9 e9=>by have:=(l.lt k9 e9).1;omega);have bk:wr.heap.size+1≤w7.heap.size:=(by have:=f.size;simp at this;omega);go_wp2_with fail;go_roundw
       case rel=>
        refine⟨k+1,rs++[p.extract at_ (at_+long)],some ⟨gg,0,none⟩,cap,by omega,by go_num,?_,?_,?_,?_,?_,?_⟩
        ·simp only[Pg.Du,Q.out]
         rw[if_neg (by rw[← T.out,← U.out];omega),← T.out,← U.out];rw[extract_eq]
        ·have:=fH 3 av (.slice (some ⟨gg,0,none⟩) (k+1) cap)
         simpa using this
        ·rw[Below.heap_setCell _ _ _ _ (by simp;omega)];exact aw
        ·have:=Qk V ⟨X,3,none⟩ (.slice (some ⟨gg,0,none⟩) (k+1) cap) (show X<w.heap.size+2 by omega)
         simpa using this
        ·exact ax.setCell (by simp;omega) _
        ·simp;omega
       case measure=>simp[intOf];omega
    ·obtain rfl:k=n:=by omega
     have hlen:=aj.out;subst hlen;obtain⟨x0,x1,x2,x3,-⟩:=Ey R.out;obtain⟨c0,c1,c2,c3,f0,f1,f2,f3⟩:=Ey z.out;have ay:X≠w.heap.size:=(by omega);have Y:=Hq (show Pg.rd p.data.toList=some ⟨a,kind,link,rs⟩ by rw[a6.out,Q.out];rfl);have HF:=Hq (Pg.Ra Y.out).1;have Z:=Kk HO.out rfl;have a8:=Hq (fun W hW=>Ow ⟨a,kind,link,rs⟩ A c HF.out.small (by have:=HF.out.Ay;omega) W hW)
     go_upto_region 15 with(first|(go_at_call 31;(with_reducible refine(a8.out _ Z.cells).mono ?_);rintro e w5 ⟨rfl,s⟩))
     obtain⟨x0,x1,x2,x3,-⟩:=Ey (Fa R.out s);obtain⟨c0,c1,c2,c3,f0,f1,f2,f3⟩:=Ey (Fa z.out s);have G:=andThen S.out s;have aa:=Z.below s;clear Z s;have ad:=Hq aa;have u:(⟨(Pg.Cx ⟨a,kind,link,rs⟩).toArray⟩:ByteArray).size=(Pg.Cx ⟨a,kind,link,rs⟩).length:=(by simp[ByteArray.size]);have x:(⟨(Pg.Cx ⟨a,kind,link,rs⟩).toArray⟩:ByteArray).data.toList=Pg.Cx ⟨a,kind,link,rs⟩:=rfl;generalize (⟨(Pg.Cx ⟨a,kind,link,rs⟩).toArray⟩:ByteArray)=q at u x ⊢;rcases Pg.bT ⟨a,kind,link,rs⟩with h0|⟨h0,y⟩
     ·have az:q.size=0:=by rw[u,h0];rfl
      have E:=Hq (show Pg.right p.data.toList=none by
       rw[Pg.Rt Y.out,if_neg];rw[decide_eq_true_iff,h0];intro h9;have:=congrArg List.length h9;rw[List.length_append,Oct.Bc]at this
       simp at this
       omega)
      clear u x h0
      go_region
      all_goals
       go_wp2_with fail;refine bodyPost_ret (v:=.tuple #[Fv ⟨a,kind,link,rs⟩ A c,false]) (by simp[results,Tryz.results43,go_sem,c0,c1,c2,c3]) rfl ?_;unfold Pp;rw[E.out];refine⟨⟨⟨a,kind,link,rs⟩,A,c,rfl⟩,?_⟩
       repeat (first|exact G|refine Below.drew ?_|refine Below.setCell ?_ (by simp) _)
     ·have az:q.size=512:=by rw[u,h0]
      have ae:((q.extract 4 512).toList==(p.extract 4 512).toList)=decide (Pg.Cx ⟨a,kind,link,rs⟩=Oct.Bm 0 4++p.data.toList.drop 4):=by
       rw[ByteArray.toList_eq,ByteArray.toList_eq,show 512=4+508 from rfl,extract_eq,extract_eq];have e1:(q.data.toList.drop 4).take 508=q.data.toList.drop 4:=List.take_of_length_le (by rw[x,List.length_drop,h0];omega);have e2:(p.data.toList.drop 4).take 508=p.data.toList.drop 4:=List.take_of_length_le (by rw[List.length_drop,HL.out];omega);rw[e1,e2,x,Bool.beq_eq_decide_eq];exact decide_eq_decide.2 (y _).symm
      have E:=Hq (Pg.Rt Y.out);generalize decide (Pg.Cx ⟨a,kind,link,rs⟩=Oct.Bm 0 4++p.data.toList.drop 4)=b at E ae;have bl:4≤q.size:=(by omega);have au:4≤p.size:=(by omega);clear u x h0 y
      go_region
      all_goals
       go_wp2_with fail;refine bodyPost_ret (v:=.tuple #[Fv ⟨a,kind,link,rs⟩ A c,b]) (by simp[results,Tryz.results43,go_sem,c0,c1,c2,c3]) rfl ?_;unfold Pp;rw[E.out];refine⟨?_,?_⟩
       ·cases b
        ·exact⟨⟨a,kind,link,rs⟩,A,c,rfl⟩
        ·refine⟨A,c,rfl,?_⟩
         refine Bp.mono (B:=w.heap.size+2) ?_ (by omega)
         repeat (first|exact ad.out|exact ad.out.below (Below.refl _ _).drew|refine Bp.set ?_ _ (by simp) _)
       repeat (first|exact G|refine Below.drew ?_|refine Below.setCell ?_ (by simp) _)
 ·have ay:((p.size:Int)==512)=false:=by simp;omega
  have E:=Hq (show Pg.right p.data.toList=none from Pg.Ht (by
   rw[Pg.rd,if_pos (.inl (by have h9:p.data.toList.length=p.size:=(by simp);omega))]))
  clear a1;go_enter Tryz.func43,Tryz.ntmps43;go_wp2_with fail;refine bodyPost_ret (v:=.tuple #[zeroV,false]) (by simp[results,Tryz.results43,go_sem]) rfl ?_;unfold Pp;rw[E.out];exact⟨⟨Pg.zero,none,0,rfl⟩,(Below.refl _ _).alloc (Nat.le_refl _) _⟩
abbrev Bk (p:ByteArray):Bool:=(Pg.right p.data.toList).isSome
abbrev Ab (p:ByteArray):Pg.Ct:=Pg.Kb p.data.toList
theorem Ef (p:ByteArray)(b:p.size≤140737488355328)(w:World):
 Cq 109 #[p] w fun e w'=>∃ A c,e= .returned (.tuple #[Fv (Ab p) A c,.bool (Bk p)])∧Bp w.heap.size w' A c (Ab p).Ai∧Bw w w':=by
 refine(nR p b w).mono ?_;rintro e w' ⟨h,a⟩;unfold Ab Bk Pg.Kb
 revert h
 cases Pg.right p.data.toList with
 |none=>rintro rfl;exact⟨none,0,rfl,fun d=>by simp[Pg.zero]at d,a⟩
 |some x=>rintro⟨A,c,rfl,h⟩;exact⟨A,c,rfl,h,a⟩
theorem M0 (p:ByteArray)(f:p.size≤140737488355328)(w:World):
 Cr 136 #[p] w (.bool (Bk p)):=by
 have d:=Hq (fun W=>Ef p f W);generalize Bk p=b at d ⊢;generalize Ab p=x at d;go_enter Tryz.func136,Tryz.ntmps136
 go_wp2_with(go_at_call 109;refine(d.out _).mono ?_;rintro e h ⟨A,c,rfl,g,a⟩)
 go_ret;exact⟨rfl,by repeat (first|exact a|refine Below.alloc ?_ (by first|exact a.size|simp) _|refine Below.setCell ?_ (by first|exact a.size|simp) _)⟩
theorem Yn (p:ByteArray)(f:p.size≤140737488355328)(w:World):
 Cr 115 #[p] w (.int .i64 ((Ab p).kind:Nat)):=by
 have d:=Hq (fun W=>Ef p f W);generalize Bk p=b at d;generalize Ab p=x at d ⊢;go_enter Tryz.func115,Tryz.ntmps115
 go_wp2_with(go_at_call 109;refine(d.out _).mono ?_;rintro e h ⟨A,c,rfl,g,a⟩)
 go_ret;exact⟨rfl,by repeat (first|exact a|refine Below.alloc ?_ (by first|exact a.size|simp) _|refine Below.setCell ?_ (by first|exact a.size|simp) _)⟩
theorem fI (p:ByteArray)(f:p.size≤140737488355328)(w:World):
 Cr 86 #[p] w (.int .i64 ((Ab p).lsn:Nat)):=by
 have d:=Hq (fun W=>Ef p f W);generalize Bk p=b at d;generalize Ab p=x at d ⊢;go_enter Tryz.func86,Tryz.ntmps86
 go_wp2_with(go_at_call 109;refine(d.out _).mono ?_;rintro e h ⟨A,c,rfl,g,a⟩)
 go_ret;exact⟨rfl,by repeat (first|exact a|refine Below.alloc ?_ (by first|exact a.size|simp) _|refine Below.setCell ?_ (by first|exact a.size|simp) _)⟩
theorem Yo (p:ByteArray)(f:p.size≤140737488355328)(w:World):
 Cr 108 #[p] w (.int .i64 ((Ab p).link:Nat)):=by
 have d:=Hq (fun W=>Ef p f W);generalize Bk p=b at d;generalize Ab p=x at d ⊢;go_enter Tryz.func108,Tryz.ntmps108
 go_wp2_with(go_at_call 109;refine(d.out _).mono ?_;rintro e h ⟨A,c,rfl,g,a⟩)
 go_ret;exact⟨rfl,by repeat (first|exact a|refine Below.alloc ?_ (by first|exact a.size|simp) _|refine Below.setCell ?_ (by first|exact a.size|simp) _)⟩
theorem Uw (p:ByteArray)(f:p.size≤140737488355328)(w:World):
 Cr 61 #[p] w (.int .i64 ((Ab p).Ai.length:Nat)):=by
 have d:=Hq (fun W=>Ef p f W);generalize Bk p=b at d;generalize Ab p=x at d ⊢;go_enter Tryz.func61,Tryz.ntmps61
 go_wp2_with(go_at_call 109;refine(d.out _).mono ?_;rintro e h ⟨A,c,rfl,g,a⟩)
 go_ret;exact⟨rfl,by repeat (first|exact a|refine Below.alloc ?_ (by first|exact a.size|simp) _|refine Below.setCell ?_ (by first|exact a.size|simp) _)⟩
theorem Ic (p:ByteArray)(b:p.size≤140737488355328)(w:World):
 Cq 43 #[p] w fun e w'=>∃ x A c,e= .returned (.tuple #[Fv x A c,.bool (Bk p)])∧(Bk p=true→x=Ab p∧Bp w.heap.size w' A c (Ab p).Ai)∧Bw w w':=by
 refine(bX p b w).mono ?_;rintro e w' ⟨h,a⟩;unfold Ab Bk Pg.Kb
 revert h
 cases Pg.right p.data.toList with
 |none=>rintro⟨x,A,c,rfl⟩;exact⟨x,A,c,rfl,(fun h=>by cases h),a⟩
 |some x=>rintro⟨A,c,rfl,h⟩;exact⟨x,A,c,rfl,fun _=>⟨rfl,h⟩,a⟩
theorem Wm {p:ByteArray}(h:Bk p=false):Ab p=Pg.zero:=by
 unfold Bk at h;unfold Ab Pg.Kb
 revert h
 cases Pg.right p.data.toList with
 |none=>intro _;rfl
 |some x=>intro h;cases h
theorem Md (p:ByteArray)(f:p.size≤140737488355328)(w:World):
 Cr 88 #[p] w (.bool (Bk p)):=by
 have d:=Hq (fun W=>Ic p f W);generalize Bk p=b at d ⊢;generalize Ab p=y at d;go_enter Tryz.func88,Tryz.ntmps88
 go_wp2_with(go_at_call 43;refine(d.out _).mono ?_;rintro e h ⟨x,A,c,rfl,g,a⟩)
 go_ret;exact⟨rfl,by repeat (first|exact a|refine Below.alloc ?_ (by first|exact a.size|simp) _|refine Below.setCell ?_ (by first|exact a.size|simp) _)⟩
theorem Ux (p:ByteArray)(k:p.size≤140737488355328)(w:World):
 Cq 138 #[p] w fun e w'=>∃ A c,e= .returned (Fv (Ab p) A c)∧Bp w.heap.size w' A c (Ab p).Ai∧Bw w w':=by
 have g:=Hq (fun W=>Ic p k W)
 cases i:Bk p with
 |false=>
  rw[Wm i];rw[i]at g;generalize Ab p=y at g;go_enter Tryz.func138,Tryz.ntmps138
  go_wp2_with(go_at_call 43;refine(g.out _).mono ?_;rintro e h ⟨x,A,c,rfl,-,a⟩;have b:w.heap.size<h.heap.size:=(by have:=a.size;simp at this;omega);obtain⟨c0,j,c2,c3,f0,f1,f2,f3⟩:=Ey (C0 a))
  have d:=Bd a;refine bodyPost_ret (v:=zeroV) (by simp[results,Tryz.results138,go_sem,c0,j,c2,c3,b]) rfl ?_;refine⟨none,0,rfl,fun l=>by simp[Pg.zero]at l,?_⟩
  repeat (first|exact d|refine Below.alloc ?_ (by simp;exact Nat.le_of_lt b) _|refine Below.setCell ?_ (by simp) _)
 |true=>
  rw[i]at g;generalize Ab p=y at g ⊢;go_enter Tryz.func138,Tryz.ntmps138
  go_wp2_with(go_at_call 43;refine(g.out _).mono ?_;rintro e h ⟨x,A,c,rfl,f,a⟩;obtain⟨rfl,f⟩:=f rfl;have m:h.heap.size≠w.heap.size:=(by have:=a.size;simp at this;omega);have b:w.heap.size<h.heap.size:=(by have:=a.size;simp at this;omega);obtain⟨c0,j,c2,c3,f0,f1,f2,f3⟩:=Ey (C0 a))
  have d:=Bd a;refine bodyPost_ret (v:=Fv x A c) (by simp[results,Tryz.results138,go_sem,c0,j,c2,c3,b]) rfl ?_;refine⟨A,c,rfl,?_,?_⟩
  ·refine Bp.mono (B:=w.heap.size+1) ?_ (by omega)
   refine Bp.below ?_ ((Below.refl _ _).alloc (Nat.le_refl _) _)
   repeat (first|exact(show Bp (w.heap.size+1) h A c x.Ai by simpa using f)|refine Bp.set ?_ _ (by simp) _)
  ·repeat (first|exact d|refine Below.alloc ?_ (by simp;exact Nat.le_of_lt b) _|refine Below.setCell ?_ (by simp) _)
theorem bY (a b l v:Value)(W:World):(Instr.field 95 (.agg #[a,b,l,v]) 0).run Tryz.prog W= .ok a W:=by kernel_rfl
theorem Yp (p:ByteArray)(f:p.size≤140737488355328)(w:World):
 Cr 99 #[p] w (.int .i64 ((Ab p).lsn:Nat)):=by
 have b:∀ (A:Option Addr) (c:Nat) (W:World),(Instr.field 95 (Fv (Ab p) A c) 0).run Tryz.prog W= .ok _ W:=fun _ _ W=>bY _ _ _ _ W;have d:=Hq (fun W=>Ux p f W);generalize Ab p=x at d b ⊢;go_enter Tryz.func99,Tryz.ntmps99
 go_wp2_with(go_at_call 138;refine(d.out _).mono ?_;rintro e h ⟨A,c,rfl,g,a⟩)
 go_ret;exact⟨rfl,by repeat (first|exact a|refine Below.alloc ?_ (by first|exact a.size|simp) _|refine Below.setCell ?_ (by first|exact a.size|simp) _)⟩
theorem At {w w':World}{o:Obj}(a:Bw w w'):Bw w (w'.alloc o):=a.alloc a.size o
theorem Wn (x:Pg.Ct)(A:Option Addr)(c:Nat)(i:Int)(w:World)(h:Cells w A c x.Ai):
 Cr 117 #[Fv x A c,i] w (.string (Pg.Ba x.Ai i)):=by
 have f:=Hq (h.below ((Below.refl w.heap.size w).alloc (Nat.le_refl _) (.cells #[x.lsn,x.kind,x.link,.slice A x.Ai.length c] 151 (0,0))));clear h
 by_cases d:i<0
 ·rw[Pg.Oa d]
  go_enter Tryz.func117,Tryz.ntmps117;go_wp2_with fail;go_ret;exact⟨rfl,(Below.refl _ _).alloc (Nat.le_refl _) _⟩
 ·by_cases e:(x.Ai.length:Int)≤i
  ·rw[Pg.L9 e]
   go_enter Tryz.func117,Tryz.ntmps117;go_wp2_with fail;go_ret;exact⟨rfl,(Below.refl _ _).alloc (Nat.le_refl _) _⟩
  ·obtain⟨k,rfl⟩:=Int.eq_ofNat_of_zero_le (show 0≤i by omega)
   have hk:k<x.Ai.length:=(by omega);rw[Pg.Uu hk];obtain⟨b,off,rfl,j,g,a⟩:=f.out.at_ hk;have l:(k:Int)<(x.Ai.length:Int):=(by omega);have m:(0:Int)≤(k:Int):=(by omega);clear d e;generalize x.Ai[k]=r at a ⊢;go_enter Tryz.func117,Tryz.ntmps117;go_wp2_with fail;go_ret;exact⟨rfl,(Below.refl _ _).alloc (Nat.le_refl _) _⟩
theorem Fw (p:ByteArray)(i:Int)(j:p.size≤140737488355328)(w:World):
 Cr 62 #[p,i] w (.tuple #[.string (Pg.Ba (Ab p).Ai i),.bool (!decide ((Pg.Ba (Ab p).Ai i).size=0))]):=by
 have a:=Hq (fun W=>Ef p j W);generalize Bk p=b at a;generalize Ab p=x at a ⊢;have h:=Hq (fun A c W k=>Wn x A c i W k);generalize Pg.Ba x.Ai i=r at h ⊢;rw[← F8];go_enter Tryz.func62,Tryz.ntmps62
 go_wp2_with(first|(go_at_call 109;refine(a.out _).mono ?_;rintro e l ⟨A,c,rfl,d,f⟩)|(go_at_call 117;refine(h.out _ _ _ (d.cells.below ((Below.refl _ _).alloc (Nat.le_refl _) _))).mono ?_;rintro e m ⟨rfl,g⟩))
 refine bodyPost_ret (v:=.tuple #[r,.bool (!r.toList.isEmpty)]) (by simp[results,Tryz.results62,go_sem]) rfl ?_;exact⟨rfl,andThen (At f) g⟩
theorem Km {r:ByteArray}(h:r.size=0):r=⟨#[]⟩:=by
 apply ByteArray.ext
 exact Array.eq_empty_of_size_eq_zero h
theorem Iv (p:ByteArray)(i:Int)(t:p.size≤140737488355328)(w:World):
 Cr 89 #[p,i] w (.tuple #[.string (Pg.Ba (Ab p).Ai i),.bool (!decide ((Pg.Ba (Ab p).Ai i).size=0))]):=by
 have h:=Hq (fun W=>Ux p t W);generalize Ab p=x at h ⊢
 by_cases q:i<0
 ·rw[Pg.Oa q]
  go_enter Tryz.func89,Tryz.ntmps89
  go_wp2_with(go_at_call 138;refine(h.out _).mono ?_;rintro e l ⟨A,c,rfl,f,a⟩)
  refine bodyPost_ret (v:=.tuple #["",false]) (by simp[results,Tryz.results89,go_sem]) rfl ?_;exact⟨rfl,At a⟩
 ·by_cases s:(x.Ai.length:Int)≤i
  ·rw[Pg.L9 s]
   go_enter Tryz.func89,Tryz.ntmps89
   go_wp2_with(go_at_call 138;refine(h.out _).mono ?_;rintro e l ⟨A,c,rfl,f,a⟩)
   refine bodyPost_ret (v:=.tuple #["",false]) (by simp[results,Tryz.results89,go_sem]) rfl ?_;exact⟨rfl,At a⟩
  ·obtain⟨k,rfl⟩:=Int.eq_ofNat_of_zero_le (show 0≤i by omega)
   have hk:k<x.Ai.length:=(by omega);rw[Pg.Uu hk];have y:(k:Int)<(x.Ai.length:Int):=(by omega);have z:(0:Int)≤(k:Int):=(by omega);clear q s;obtain⟨r,m⟩:=ex (x.Ai[k]);rw[← m];have n:=Hq m;clear m;have g:r.toList.isEmpty=decide (r.size=0):=F8 r
   by_cases j:r.size=0
   ·rw[decide_eq_true j]at g ⊢
    rw[Km j]at g n ⊢;clear j;go_enter Tryz.func89,Tryz.ntmps89
    go_wp2_with(go_at_call 138;refine(h.out _).mono ?_;rintro e l ⟨A,c,rfl,f,a⟩;obtain⟨b,off,rfl,u,o,d⟩:=f.cells.at_ hk;rw[← n.out]at d)
    refine bodyPost_ret (v:=.tuple #["",false]) (by simp[results,Tryz.results89,go_sem]) rfl ?_;exact⟨rfl,At a⟩
   ·rw[decide_eq_false j]at g ⊢
    clear j;go_enter Tryz.func89,Tryz.ntmps89
    go_wp2_with(go_at_call 138;refine(h.out _).mono ?_;rintro e l ⟨A,c,rfl,f,a⟩;obtain⟨b,off,rfl,u,o,d⟩:=f.cells.at_ hk;rw[← n.out]at d)
    refine bodyPost_ret (v:=.tuple #[r,true]) (by simp[results,Tryz.results89,go_sem]) rfl ?_;exact⟨rfl,At a⟩
theorem fJ (r:ByteArray)(w:World):
 Cq 116 #[r] w fun e w'=>e= .returned (.bool (decide (1≤r.size∧r.size≤400)))∧w=w':=by
 by_cases a:1≤r.size
 ·by_cases b:r.size≤400
  ·rw[decide_eq_true ⟨a,b⟩]
   have c:(1:Int)≤(r.size:Int):=(by omega);have d:(r.size:Int)≤400:=(by omega);go_enter Tryz.func116,Tryz.ntmps116;go_wp2_with fail;go_ret;exact⟨by simp,rfl⟩
  ·rw[decide_eq_false (fun h=>b h.2)]
   have c:(1:Int)≤(r.size:Int):=(by omega);have d:(400:Int)<(r.size:Int):=(by omega);go_enter Tryz.func116,Tryz.ntmps116;go_wp2_with fail;go_ret;exact⟨by simp[Int.not_le.2 d],rfl⟩
 ·rw[decide_eq_false (fun h=>a h.1)]
  have c:(r.size:Int)<1:=by omega
  go_enter Tryz.func116,Tryz.ntmps116;go_wp2_with fail;go_ret;exact⟨by simp,rfl⟩
theorem Yq (r:ByteArray)(w:World):
 Cq 139 #[r] w fun e w'=>e= .returned (.bool (decide (1≤r.size∧r.size≤400)))∧w=w':=by
 by_cases a:1≤r.size
 ·by_cases b:r.size≤400
  ·rw[decide_eq_true ⟨a,b⟩]
   have c:(1:Int)≤(r.size:Int):=(by omega);have d:(r.size:Int)≤400:=(by omega);go_enter Tryz.func139,Tryz.ntmps139;go_wp2_with fail;go_ret;exact⟨by simp,rfl⟩
  ·rw[decide_eq_false (fun h=>b h.2)]
   have c:(1:Int)≤(r.size:Int):=(by omega);have d:(400:Int)<(r.size:Int):=(by omega);go_enter Tryz.func139,Tryz.ntmps139;go_wp2_with fail;go_ret;exact⟨by simp[Int.not_le.2 d],rfl⟩
 ·rw[decide_eq_false (fun h=>a h.1)]
  have c:(r.size:Int)<1:=by omega
  go_enter Tryz.func139,Tryz.ntmps139;go_wp2_with fail;go_ret;exact⟨by simp,rfl⟩
def Gi (n:Int):ByteArray:=if n<0∨4<n then⟨#[]⟩else⟨(Pg.Cx ⟨0,n.toNat,0,[]⟩).toArray⟩
theorem fK (n:Int)(w:World):
 Cr 145 #[n] w (.string (Gi n)):=by
 by_cases b:n<0
 ·rw[show Gi n=⟨#[]⟩from if_pos (.inl b)]
  go_enter Tryz.func145,Tryz.ntmps145;go_wp2_with fail;go_ret;exact⟨rfl,Below.refl _ _⟩
 ·by_cases c:4<n
  ·rw[show Gi n=⟨#[]⟩from if_pos (.inr c)]
   go_enter Tryz.func145,Tryz.ntmps145;go_wp2_with fail;go_ret;exact⟨rfl,Below.refl _ _⟩
  ·obtain⟨k,rfl⟩:=Int.eq_ofNat_of_zero_le (show 0≤n by omega)
   have d:=Hq (fun W=>Mb ⟨0,k,0,[]⟩ none 0 ⟨(by show 0<281474976710656;omega),(by show k≤4;omega),(by show 0<16777216;omega)⟩ (by show 19≤1099511627776;omega) W (fun f=>by simp at f));rw[show Gi (k:Int)=⟨(Pg.Cx ⟨0,k,0,[]⟩).toArray⟩ by unfold Gi;rw[if_neg (by omega)];rfl];generalize (⟨(Pg.Cx ⟨0,k,0,[]⟩).toArray⟩:ByteArray)=q at d ⊢;have g:(0:Int)≤(k:Int):=(by omega);have h:(k:Int)≤4:=(by omega);clear b c;go_enter Tryz.func145,Tryz.ntmps145
   go_wp2_with(go_at_call 128;refine(d.out _).mono ?_;rintro e i ⟨rfl,a⟩)
   go_ret;exact⟨rfl,a⟩
theorem Yr (n:Int)(w:World):
 Cr 9 #[n] w (.string (Gi n)):=by
 by_cases b:n<0
 ·rw[show Gi n=⟨#[]⟩from if_pos (.inl b)]
  go_enter Tryz.func9,Tryz.ntmps9;go_wp2_with fail;go_ret;exact⟨rfl,Below.refl _ _⟩
 ·by_cases c:4<n
  ·rw[show Gi n=⟨#[]⟩from if_pos (.inr c)]
   go_enter Tryz.func9,Tryz.ntmps9;go_wp2_with fail;go_ret;exact⟨rfl,Below.refl _ _⟩
  ·obtain⟨k,rfl⟩:=Int.eq_ofNat_of_zero_le (show 0≤n by omega)
   have d:=Hq (fun W=>Ow ⟨0,k,0,[]⟩ none 0 ⟨(by show 0<281474976710656;omega),(by show k≤4;omega),(by show 0<16777216;omega)⟩ (by show 19≤1099511627776;omega) W (fun f=>by simp at f));rw[show Gi (k:Int)=⟨(Pg.Cx ⟨0,k,0,[]⟩).toArray⟩ by unfold Gi;rw[if_neg (by omega)];rfl];generalize (⟨(Pg.Cx ⟨0,k,0,[]⟩).toArray⟩:ByteArray)=q at d ⊢;have g:(0:Int)≤(k:Int):=(by omega);have h:(k:Int)≤4:=(by omega);clear b c;go_enter Tryz.func9,Tryz.ntmps9
   go_wp2_with(go_at_call 31;refine(d.out _).mono ?_;rintro e i ⟨rfl,a⟩)
   go_ret;exact⟨rfl,a⟩
def Bl (p:ByteArray)(n:Int):ByteArray:=if Bk p=false∨n<0∨281474976710656≤n then⟨#[]⟩else⟨(Pg.Cx ⟨n.toNat,(Ab p).kind,(Ab p).link,(Ab p).Ai⟩).toArray⟩
def Dy (p:ByteArray)(n:Int):ByteArray:=if Bk p=false∨n<0∨16777216≤n then⟨#[]⟩else⟨(Pg.Cx ⟨(Ab p).lsn,(Ab p).kind,n.toNat,(Ab p).Ai⟩).toArray⟩
theorem Jd (p:ByteArray)(n:Int)(o:p.size≤140737488355328)(w:World):
 Cr 80 #[p,n] w (.string (Bl p n)):=by
 have d:=Hq (fun W=>Ef p o W);have a:=Pg.Ib p.data.toList
 cases g:Bk p with
 |false=>
  rw[show Bl p n=⟨#[]⟩from if_pos (.inl g)];rw[g]at d;generalize Ab p=x at d;clear a;go_enter Tryz.func80,Tryz.ntmps80
  go_wp2_with(go_at_call 109;refine(d.out _).mono ?_;rintro e i ⟨A,c,rfl,f,b⟩)
  go_ret;exact⟨rfl,At b⟩
 |true=>
  rw[g]at d
  by_cases l:n<0
  ·rw[show Bl p n=⟨#[]⟩from if_pos (.inr (.inl l))]
   generalize Ab p=x at d;clear a;go_enter Tryz.func80,Tryz.ntmps80
   go_wp2_with(go_at_call 109;refine(d.out _).mono ?_;rintro e i ⟨A,c,rfl,f,b⟩)
   go_ret;exact⟨rfl,At b⟩
  ·by_cases m:281474976710656≤n
   ·rw[show Bl p n=⟨#[]⟩from if_pos (.inr (.inr m))]
    generalize Ab p=x at d;clear a;go_enter Tryz.func80,Tryz.ntmps80
    go_wp2_with(go_at_call 109;refine(d.out _).mono ?_;rintro e i ⟨A,c,rfl,f,b⟩)
    go_ret;exact⟨rfl,At b⟩
   ·have h:((n.toNat:Nat):Int)=n:=by omega
    have hk:n.toNat<281474976710656:=(by omega);rw[show Bl p n=⟨(Pg.Cx ⟨n.toNat,(Ab p).kind,(Ab p).link,(Ab p).Ai⟩).toArray⟩ by unfold Bl;rw[if_neg (by rw[g];simp;omega)]];have s:(0:Int)≤n:=(by omega);have t:n<281474976710656:=(by omega);clear l m;change Pg.Ou (Ab p)at a;generalize Ab p=x at d a ⊢;have j:=Hq (fun A c W r=>Mb ⟨n.toNat,x.kind,x.link,x.Ai⟩ A c ⟨hk,a.small.2.1,a.small.2.2⟩ (by have:=a.Ay;show Pg.Ay x.Ai≤_;omega) W r);clear a hk g;generalize (⟨(Pg.Cx ⟨n.toNat,x.kind,x.link,x.Ai⟩).toArray⟩:ByteArray)=q at j ⊢;simp only[h]at j;clear h;go_enter Tryz.func80,Tryz.ntmps80
    go_wp2_with(first|(go_at_call 109;refine(d.out _).mono ?_;rintro e i ⟨A,c,rfl,f,b⟩)|(go_at_call 128;refine(j.out A c _ (f.cells.below ((Below.refl _ _).alloc (Nat.le_refl _) _))).mono ?_;rintro e u ⟨rfl,k⟩))
    go_ret;exact⟨rfl,andThen (At b) k⟩
theorem Ys (p:ByteArray)(n:Int)(o:p.size≤140737488355328)(w:World):
 Cr 204 #[p,n] w (.string (Dy p n)):=by
 have d:=Hq (fun W=>Ef p o W);have a:=Pg.Ib p.data.toList
 cases g:Bk p with
 |false=>
  rw[show Dy p n=⟨#[]⟩from if_pos (.inl g)];rw[g]at d;generalize Ab p=x at d;clear a;go_enter Tryz.func204,Tryz.ntmps204
  go_wp2_with(go_at_call 109;refine(d.out _).mono ?_;rintro e i ⟨A,c,rfl,f,b⟩)
  go_ret;exact⟨rfl,At b⟩
 |true=>
  rw[g]at d
  by_cases l:n<0
  ·rw[show Dy p n=⟨#[]⟩from if_pos (.inr (.inl l))]
   generalize Ab p=x at d;clear a;go_enter Tryz.func204,Tryz.ntmps204
   go_wp2_with(go_at_call 109;refine(d.out _).mono ?_;rintro e i ⟨A,c,rfl,f,b⟩)
   go_ret;exact⟨rfl,At b⟩
  ·by_cases m:16777216≤n
   ·rw[show Dy p n=⟨#[]⟩from if_pos (.inr (.inr m))]
    generalize Ab p=x at d;clear a;go_enter Tryz.func204,Tryz.ntmps204
    go_wp2_with(go_at_call 109;refine(d.out _).mono ?_;rintro e i ⟨A,c,rfl,f,b⟩)
    go_ret;exact⟨rfl,At b⟩
   ·have h:((n.toNat:Nat):Int)=n:=by omega
    have hk:n.toNat<16777216:=(by omega);rw[show Dy p n=⟨(Pg.Cx ⟨(Ab p).lsn,(Ab p).kind,n.toNat,(Ab p).Ai⟩).toArray⟩ by unfold Dy;rw[if_neg (by rw[g];simp;omega)]];have s:(0:Int)≤n:=(by omega);have t:n<16777216:=(by omega);clear l m;change Pg.Ou (Ab p)at a;generalize Ab p=x at d a ⊢;have j:=Hq (fun A c W r=>Mb ⟨x.lsn,x.kind,n.toNat,x.Ai⟩ A c ⟨a.small.1,a.small.2.1,hk⟩ (by have:=a.Ay;show Pg.Ay x.Ai≤_;omega) W r);clear a hk g;generalize (⟨(Pg.Cx ⟨x.lsn,x.kind,n.toNat,x.Ai⟩).toArray⟩:ByteArray)=q at j ⊢;simp only[h]at j;clear h;go_enter Tryz.func204,Tryz.ntmps204
    go_wp2_with(first|(go_at_call 109;refine(d.out _).mono ?_;rintro e i ⟨A,c,rfl,f,b⟩)|(go_at_call 128;refine(j.out A c _ (f.cells.below ((Below.refl _ _).alloc (Nat.le_refl _) _))).mono ?_;rintro e u ⟨rfl,k⟩))
    go_ret;exact⟨rfl,andThen (At b) k⟩
theorem Jy (p:ByteArray)(n:Int)(r:p.size≤140737488355328)(w:World):
 Cr 12 #[p,n] w (.string (Bl p n)):=by
 have f:=Hq (fun W=>Ic p r W);have a:=Pg.Ib p.data.toList
 cases g:Bk p with
 |false=>
  rw[show Bl p n=⟨#[]⟩from if_pos (.inl g)];rw[g]at f;generalize Ab p=x at f;clear a;go_enter Tryz.func12,Tryz.ntmps12
  go_wp2_with(go_at_call 43;refine(f.out _).mono ?_;rintro e i ⟨y,A,c,rfl,d,b⟩)
  go_ret;exact⟨rfl,At b⟩
 |true=>
  rw[g]at f
  by_cases m:n<0
  ·rw[show Bl p n=⟨#[]⟩from if_pos (.inr (.inl m))]
   generalize Ab p=x at f;clear a;go_enter Tryz.func12,Tryz.ntmps12
   go_wp2_with(go_at_call 43;refine(f.out _).mono ?_;rintro e i ⟨y,A,c,rfl,d,b⟩)
   go_ret;exact⟨rfl,At b⟩
  ·by_cases o:281474976710656≤n
   ·rw[show Bl p n=⟨#[]⟩from if_pos (.inr (.inr o))]
    generalize Ab p=x at f;clear a;go_enter Tryz.func12,Tryz.ntmps12
    go_wp2_with(go_at_call 43;refine(f.out _).mono ?_;rintro e i ⟨y,A,c,rfl,d,b⟩)
    go_ret;exact⟨rfl,At b⟩
   ·have h:((n.toNat:Nat):Int)=n:=by omega
    have hk:n.toNat<281474976710656:=(by omega);rw[show Bl p n=⟨(Pg.Cx ⟨n.toNat,(Ab p).kind,(Ab p).link,(Ab p).Ai⟩).toArray⟩ by unfold Bl;rw[if_neg (by rw[g];simp;omega)]];have u:(0:Int)≤n:=(by omega);have v:n<281474976710656:=(by omega);clear m o;change Pg.Ou (Ab p)at a;generalize Ab p=x at f a ⊢;have j:=Hq (fun A c W s=>Ow ⟨n.toNat,x.kind,x.link,x.Ai⟩ A c ⟨hk,a.small.2.1,a.small.2.2⟩ (by have:=a.Ay;show Pg.Ay x.Ai≤_;omega) W s);clear a hk g;generalize (⟨(Pg.Cx ⟨n.toNat,x.kind,x.link,x.Ai⟩).toArray⟩:ByteArray)=q at j ⊢;simp only[h]at j;clear h;go_enter Tryz.func12,Tryz.ntmps12
    go_wp2_with(first|(go_at_call 43;refine(f.out _).mono ?_;rintro e i ⟨y,A,c,rfl,d,b⟩;obtain⟨t,k⟩:=d rfl;clear d;subst t)|(go_at_call 31;refine(j.out _ _ _ ((k.cells).below ((Below.refl _ _).alloc (Nat.le_refl _) _))).mono ?_;rintro e z ⟨rfl,l⟩))
    go_ret;exact⟨rfl,andThen (At b) l⟩
def Me (t:ByteArray):ByteArray:=Oct.Bh (Oct.Gr t.data.toList:Nat) 4++t
def Eh (p:ByteArray):ByteArray:=if Bk p then Me (p.extract 4 512)else⟨#[]⟩
theorem Hg {p:ByteArray}(h:Bk p=true):p.size=512:=by
 unfold Bk at h
 cases a:Pg.right p.data.toList with
 |none=>rw[a]at h;cases h
 |some x=>
  have:=(Pg.Hf a).2;have b:p.data.toList.length=p.size:=(by simp);omega
theorem Uy (t:ByteArray)(g:t.size≤1048576)(w:World):
 Cr 181 #[t] w (.string (Me t)):=by
 have a:=Hq (fun W=>fC t (by omega) W);unfold Me;generalize Oct.Gr t.data.toList=n at a ⊢;have d:(Oct.Bh (n:Int) 4).size=4:=Oct.Bn _ 4 (by omega);have b:=Hq (fun W=>Hp (n:Int) 4 (by omega) (by omega) W);generalize Oct.Bh (n:Int) 4=q at b d ⊢;have c:∀ W:World,(Op.stringOp .add q t).run Tryz.prog W= .ok (.string (q++t)) W:=fun W=>run_string_add_sum W _ _ (by omega);go_enter Tryz.func181,Tryz.ntmps181
 go_wp2_with(first|(go_at_call 215;refine(a.out _).mono ?_;rintro e h ⟨rfl,rfl⟩)|(go_at_call 153;refine(b.out _).mono ?_;rintro e i ⟨rfl,f⟩))
 go_ret;exact⟨rfl,f⟩
theorem iP (p:ByteArray)(g:p.size≤140737488355328)(w:World):
 Cr 132 #[p] w (.string (Eh p)):=by
 have c:=Hq (fun W=>M0 p g W);unfold Eh
 cases b:Bk p with
 |false=>
  rw[b]at c;clear b;go_enter Tryz.func132,Tryz.ntmps132
  go_wp2_with(go_at_call 136;refine(c.out _).mono ?_;rintro e h ⟨rfl,a⟩)
  go_ret;exact⟨rfl,a⟩
 |true=>
  have f:=Hg b;have i:=Hq (fun W=>Uy (p.extract 4 512) (by simp;omega) W);rw[b]at c;clear b;go_enter Tryz.func132,Tryz.ntmps132
  go_wp2_with(first|(go_at_call 136;refine(c.out _).mono ?_;rintro e h ⟨rfl,a⟩)|(go_at_call 181;refine(i.out _).mono ?_;rintro e j ⟨rfl,d⟩))
  go_ret;exact⟨rfl,andThen a d⟩
def Hu (p:ByteArray):Bool:=Bk p&&decide (Me (p.extract 4 512)=p)
theorem nS (a b:ByteArray):(a.toList==b.toList)=decide (a=b):=by
 rw[ByteArray.toList_eq,ByteArray.toList_eq,Bool.beq_eq_decide_eq]
 by_cases h:a=b
 ·simp[h]
 ·have c:a.data.toList≠b.data.toList:=fun e=>h (ByteArray.ext (Array.toList_inj.1 e))
  simp[h,c]
theorem bZ (p:ByteArray)(j:p.size≤140737488355328)(w:World):
 Cr 146 #[p] w (.bool (Hu p)):=by
 have d:=Hq (fun W=>M0 p j W);unfold Hu
 cases c:Bk p with
 |false=>
  rw[c]at d;clear c;go_enter Tryz.func146,Tryz.ntmps146
  go_wp2_with(go_at_call 136;refine(d.out _).mono ?_;rintro e k ⟨rfl,a⟩)
  go_ret;exact⟨rfl,a⟩
 |true=>
  have g:=Hg c;have h:=Hq (fun W=>Uy (p.extract 4 512) (by simp;omega) W);have i:=nS (Me (p.extract 4 512)) p;generalize Me (p.extract 4 512)=q at h i ⊢;generalize decide (q=p)=b at i ⊢;rw[c]at d;clear c;go_enter Tryz.func146,Tryz.ntmps146
  go_wp2_with(first|(go_at_call 136;refine(d.out _).mono ?_;rintro e k ⟨rfl,a⟩)|(go_at_call 181;refine(h.out _).mono ?_;rintro e l ⟨rfl,f⟩))
  go_ret;exact⟨by simp,andThen a f⟩
theorem cA (n size:Int)(b:0≤size)(c:size≤8)(a u:World)(h:Bw a u):
 Cq 73 #[n,size] u fun e w'=>e= .returned (.string (Oct.Bh n size))∧Bw a w':=
 (Ja n size b c u).mono fun _ _ ⟨d,f⟩=>⟨d,andThen h f⟩
theorem cB (s:ByteArray)(b:s.size≤281474976710656)(a u:World)(h:Bw a u):
 Cq 123 #[s] u fun e w'=>e= .returned (.int .i64 (Oct.Gr s.data.toList))∧Bw a w':=
 (Yd s b u).mono fun _ _ ⟨c,d⟩=>⟨c,d▸h⟩
theorem cC (p:ByteArray)(l:p.size≤140737488355328)(w:World):
 Cr 269 #[p] w (.string (Eh p)):=by
 have c:=Hq (fun W=>Md p l W);unfold Eh
 cases b:Bk p with
 |false=>
  rw[b]at c;clear b;go_enter Tryz.func269,Tryz.ntmps269
  go_wp2_with(go_at_call 88;refine(c.out _).mono ?_;rintro e g ⟨rfl,a⟩)
  go_ret;exact⟨rfl,a⟩
 |true=>
  have h:=Hg b;have t:4≤p.size:=by omega
  have i:=Hq (fun d W f=>cB (p.extract 4 512) (by simp;omega) d W f);have m:(p.extract 4 p.size).size=508:=by simp;omega
  have o:(p.extract 4 512).size=508:=by simp;omega
  unfold Me;generalize Oct.Gr (p.extract 4 512).data.toList=n at i ⊢;have r:(Oct.Bh (n:Int) 4).size=4:=Oct.Bn _ 4 (by omega);have j:=Hq (fun d W f=>cA (n:Int) 4 (by omega) (by omega) d W f);generalize Oct.Bh (n:Int) 4=q at j r ⊢;rw[b]at c;clear b;go_enter Tryz.func269,Tryz.ntmps269
  go_upto_region 3 with(first|(go_at_call 88;refine(c.out _).mono ?_;rintro e g ⟨rfl,a⟩))
  go_region_held3 (fun s=>Bw g s) (first|assumption|exact(Below.refl _ _).drew) (first|(go_at_call 123;refine(i.out _ _ (by assumption)).mono ?_;rintro e u ⟨rfl,k⟩)|(go_at_call 73;refine(j.out _ _ (by assumption)).mono ?_;rintro e v ⟨rfl,k⟩))
  go_wp2_with fail;go_ret;exact⟨rfl,andThen a k⟩
theorem Yt (p:ByteArray)(h:p.size≤140737488355328)(w:World):
 Cr 228 #[p] w (.bool (Hu p)):=by
 have d:=Hq (fun W=>Md p h W);have f:=Hq (fun W=>cC p h W);unfold Hu;unfold Eh at f
 cases c:Bk p with
 |false=>
  rw[c]at d;clear c;go_enter Tryz.func228,Tryz.ntmps228
  go_wp2_with(go_at_call 88;refine(d.out _).mono ?_;rintro e j ⟨rfl,a⟩)
  go_ret;exact⟨rfl,a⟩
 |true=>
  rw[c,if_pos rfl]at f;have i:=nS (Me (p.extract 4 512)) p;generalize Me (p.extract 4 512)=q at f i ⊢;generalize decide (q=p)=b at i ⊢;rw[c]at d;clear c;go_enter Tryz.func228,Tryz.ntmps228
  go_wp2_with(first|(go_at_call 88;refine(d.out _).mono ?_;rintro e j ⟨rfl,a⟩)|(go_at_call 269;refine(f.out _).mono ?_;rintro e k ⟨rfl,g⟩))
  go_ret;exact⟨by simp,andThen a g⟩
def Je (rs:List ByteArray):Int:=max 0 (min (493-4*(max (rs.length:Int) ((Pg.Db rs:Int)+1))-(Pg.An rs:Int)) 400)
def Jf (p:ByteArray):Int:=if Bk p then Je (Ab p).Ai else 0
theorem rX (a:World)(x:Pg.Ct)(A:Option Addr)(c:Nat)(T:TypeId)(d:Cells a A c x.Ai):
 Kl a.heap.size x A c (a.alloc (.cells #[x.lsn,x.kind,x.link,.slice A x.Ai.length c] T)) (a.alloc (.cells #[x.lsn,x.kind,x.link,.slice A x.Ai.length c] T)):=by
 have b:=heap_alloc_new a (.cells #[x.lsn,x.kind,x.link,.slice A x.Ai.length c] T);refine⟨?_,?_,?_,?_,d.below ((Below.refl _ _).alloc (Nat.le_refl _) _),by simp,Below.refl _ _⟩
 ·rw[cell_of_row _ _ _ _ _ _ b];rfl
 ·rw[cell_of_row _ _ _ _ _ _ b];rfl
 ·rw[cell_of_row _ _ _ _ _ _ b];rfl
 ·rw[cell_of_row _ _ _ _ _ _ b];rfl
abbrev Kd (B:Nat)(w:World)(v:Value)(rs:List ByteArray):Prop:=w.ownsRow B 9 1 v rs.length (rs.map Value.string)
theorem Kd.nil (B:Nat)(w:World):Kd B w (.slice none 0 0) []:=⟨rfl,.inl ⟨rfl,rfl⟩⟩
theorem Kd.below {B:Nat}{w w':World}{v:Value}{rs:List ByteArray}(h:Kd B w v rs)(a:Bw w w'):Kd B w' v rs:=Kc h a
theorem Kd.form {B:Nat}{w:World}{v:Value}{rs:List ByteArray}(h:Kd B w v rs):∃ A c,v= .slice A rs.length c∧Bp B w A c rs∧Cells w A c rs:=by
 obtain⟨A,c,rfl⟩:∃ A c,v= .slice A rs.length c:=by
  rcases h.2 with⟨a,d⟩|⟨g,cap,cur,a,_⟩
  ·exact⟨none,0,by rw[a,d]⟩
  ·exact⟨_,_,a⟩
 have b:=Kk h rfl;exact⟨A,c,rfl,b,b.cells⟩
theorem Kd.block {B:Nat}{w:World}{v:Value}{rs:List ByteArray}(h:Kd B w v rs):∀ k,v.ownBlock=some k→B≤k:=fun k hk=>(h.lt k hk).1
theorem Lb {ops:Array Oper}{rest:List Oper}{o:Oper}{a:Act}{Q:Exit→Act→World→Prop}(w:World)(l:o.guard=none)(s x:Operand)
 (D:o.op= .call {callee:=.builtin .append,args:=#[s,x],argTypes:=#[26,26]})
 (B:Nat) (v:Value) (xs:List ByteArray) (E:a.eval s=v) (d:Kd B w v xs) (A:Option Addr) (c:Nat) (i:List ByteArray) (F:a.eval x= .slice A i.length c) (hy:Cells w A c i)
 (hlen:xs.length+i.length≤1048576) (f:B≤w.heap.size)
 (h:∀ v' w',Kd B w' v' (xs++i)→w.grownBy w' v.ownBlock→Below B w w'→wpList Tryz.prog ops Q rest (a.put o.dst v') w'):wpList Tryz.prog ops Q (o::rest) a w:=by
 obtain⟨i0,p,q,t,y⟩:=info_parts La;have H:∀ w':World,w.grownBy w' v.ownBlock→Below B w w':=fun w' I=>(Below.refl _ _).grown I f d.block;rcases A with _|ad
 ·have J:i=[]:=by
   rcases Nat.eq_zero_or_pos i.length with h0|h0
   ·exact List.eq_nil_of_length_eq_zero h0
   ·obtain⟨b,off,e,_⟩:=hy h0
    cases e
  subst J;refine wpList_plain l fun K L=>?_;have m:(Builtin.append_ #[26,26] o.type #[v,.slice none 0 c]).run Tryz.prog w= .ok v w:=by
   rcases d.2 with⟨rfl,P⟩|⟨g,cap,cur,rfl,_,_,z,_⟩
   ·simp[Builtin.append_,run_underlying V9,sizeOf,typeInfo,p,Builtin.lenOf,Builtin.firstCells]
   ·simp[Builtin.append_,run_underlying V9,sizeOf,typeInfo,p,Builtin.lenOf,Builtin.firstCells,z,storeCells]
  unfold Oper.wp execOp;have C:a.eval x= .slice none 0 c:=F;simp only[D,resolve,invoke,builtin,Sem.run_bind,Sem.run_pure,Result.andThen_ok,List.map_toArray,List.map_cons,List.map_nil,E,C,m];exact L _ _ (h v w (by simpa using d) (World.grownBy.refl w _) (Below.refl _ _))
 ·refine wpList_append_own w l s x _ D B 9 i0 (.string ⟨#[]⟩) 1 16 V9 p q t y rfl (by omega) v xs.length (xs.map Value.string) E d ad i.length c (i.map Value.string) F (by simp) ?_ ?_ (by simp only[maxLen];omega) (by omega) f ?_
  ·intro j u n
   rw[List.getElem?_map]at n;obtain⟨r,M,rfl⟩:=Option.map_eq_some_iff.1 n;obtain⟨N,rfl⟩:=List.getElem?_eq_some_iff.1 M;obtain⟨b,off,e,_,_,k⟩:=hy (by omega)
   injection e with e
   subst e;rw[show(⟨b,off,none⟩:Addr).add j=⟨b,off+j,none⟩from Addr.add_mid b off j];exact k j N
  ·intro u n
   obtain⟨r,_,rfl⟩:=List.mem_map.1 n
   rfl
  ·intro v' w' O G _
   exact h v' w' (by unfold Kd;rw[List.length_append,List.map_append];exact O) G (H w' G)
end Go.Proofs.YtmfkhdhnbkambaaGreatDoor
namespace Pg
def putAt (rs:List ByteArray)(k:Nat)(r:ByteArray):List ByteArray:=(rs++List.replicate (k+1-rs.length) (⟨#[]⟩:ByteArray)).set k r
def Rx (rs:List ByteArray)(k:Nat):List ByteArray:=rs++List.replicate k (⟨#[]⟩:ByteArray)
theorem Ql (rs:List ByteArray)(k:Nat):(Rx rs k).length=rs.length+k:=by simp[Rx]
theorem Uz (rs:List ByteArray)(k:Nat):Rx rs (k+1)=Rx rs k++[⟨#[]⟩]:=by
 unfold Rx;rw[List.replicate_succ',List.append_assoc]
end Pg
namespace Go.Proofs.YtmfkhdhnbkambaaGreatDoor
open Go.RowKit
theorem U0 (w:World)(r:ByteArray):Cells (w.alloc (.cells #[r] 9)) (some ⟨w.heap.size,0,none⟩) 1 [r]:=fun _=>by
 refine⟨w.heap.size,0,rfl,Nat.le_refl _,by simp,fun j a=>?_⟩;obtain rfl:j=0:=by simpa using a
 rw[cell_of_row _ _ _ _ _ _ (heap_alloc_new w (.cells #[r] 9))];rfl
theorem Yu {B:Nat}{w:World}{v:Value}{rs:List ByteArray}(h:Kd B w v rs)(a:0<rs.length):∃ g c,v= .slice (some ⟨g,0,none⟩) rs.length c∧B≤g∧rs.length≤c∧g<w.heap.size∧(∀ j (hj:j<rs.length),w.cell? ⟨g,j,none⟩=some (.string rs[j]))∧(∀ j,w.frozen? ⟨g,j,none⟩=false):=by
 obtain⟨A,c,rfl,b,-⟩:=h.form;obtain⟨g,rfl,d,e,f,i⟩:=b a;exact⟨g,c,rfl,d,e,f,i,fun j=>h.frozenAt j⟩
theorem Ry {B:Nat}{w:World}{g c:Nat}{rs:List ByteArray}(h:Kd B w (.slice (some ⟨g,0,none⟩) rs.length c) rs)(k:Nat)(r:ByteArray):Kd B (w.setCell ⟨g,k,none⟩ (.string r)) (.slice (some ⟨g,0,none⟩) (rs.set k r).length c) (rs.set k r):=by
 have a:=(h.stored k (.string r)).1;unfold Kd;rw[List.length_set,List.map_set];exact a
def rY (v:Value):Nat:=match v with| .slice _ n _=>n|_=>0
theorem Rz (x:Pg.Ct)(A:Option Addr)(c k:Nat)(r:ByteArray)(hl:x.Ai.length≤4096)(hk:k≤4096)(w:World)(h:Cells w A c x.Ai):
 Cq 119 #[Fv x A c,.int .i64 (k:Int),r] w fun e w'=>∃ A' c',e= .returned (Fv {x with Ai:=Pg.putAt x.Ai k r} A' c')∧Bp w.heap.size w' A' c' (Pg.putAt x.Ai k r)∧Bw w w':=by
 go_enter Tryz.func119,Tryz.ntmps119
 go_wp2_with(at_builtin;refine Lb _ rfl _ _ rfl (w.heap.size+2) (.slice none 0 0) [] rfl (Kd.nil _ _) A c x.Ai rfl ((h.below ((Below.refl _ _).alloc (Nat.le_refl _) _)).below ((Below.refl _ _).alloc (Nat.le_refl _) _)) (by simp;omega) (by simp) ?_;intro v1 w1 d C f)
 rw[List.nil_append]at d;have Q:w.heap.size+2≤w1.heap.size:=by have:=f.size;simp at this;omega
 have o:w1.heap[w.heap.size]? =some (.cells #[x.lsn,x.kind,x.link,.slice A x.Ai.length c] 151 (0,0)):=by
  rw[f.block _ (by omega),Below.heap_alloc _ _ _ (by simp)];exact heap_alloc_new w _
 have p:w1.heap[w.heap.size+1]? =some (.cells #[(),(),(),"s"] 151 (0,0)):=by
  rw[f.block _ (by omega)];have:=heap_alloc_new (w.alloc (.cells #[x.lsn,x.kind,x.link,.slice A x.Ai.length c] 151)) (.cells #[(),(),(),"s"] 151)
  simpa using this
 have q:Bw w w1:=(((Below.refl _ _).alloc (Nat.le_refl _) _).alloc (by simp) _).trans (f.mono (by omega));have U:=Hq o;have V:=Hq p;have D:=Hq q;have HC:=Hq h;clear o p q f C h
 go_loopw [7] (fun v wr=>∃ j,j≤k+1-x.Ai.length∧Kd (w.heap.size+2) wr v (Pg.Rx x.Ai j)∧Below (w.heap.size+2) w1 wr) (fun v _=>8193-rY v)
 case atStart=>exact⟨0,Nat.zero_le _,by simpa[Pg.Rx]using d,Below.refl _ _⟩
 case round=>
  obtain⟨j,hj,a,s⟩:=hrel;have W:=s.size;have m:=Pg.Ql x.Ai j;have E:=Hq (Pg.Uz x.Ai j);obtain⟨L,F⟩:=ex (Pg.Rx x.Ai j);rw[← F]at a m E;have X:=Hq F;have Y:=Hq m;clear F;obtain⟨Av,R,rfl,t,-⟩:=a.form
  by_cases Z:L.length≤k
  ·have G:j+1≤k+1-x.Ai.length:=by omega
   clear m t
   go_wp2_with(at_builtin;refine Lb _ rfl _ _ rfl (w.heap.size+2) _ L rfl (a.below ((Below.refl _ _).alloc (Nat.le_refl _) _)) _ 1 [⟨#[]⟩] rfl (U0 wr _) (by simp;omega) (by simp;omega) ?_;intro v2 w2 b H I)
   have J:Below (w.heap.size+2) w1 w2:=s.trans (((Below.refl _ _).alloc (by omega) _).trans I);rw[← E.out]at b;have hf:∃ A' c',v2= .slice A' (L.length+1) c':=by
    obtain⟨A',c',rfl,-⟩:=b.form;exact⟨A',c',by rw[E.out,List.length_append];rfl⟩
   obtain⟨A',c',rfl⟩:=hf;clear H;go_roundw
   case rel=>exact⟨j+1,G,b,J⟩
   case measure=>simp[rY];omega
  ·have u:j=k+1-x.Ai.length:=by omega
   have K:k<L.length:=(by omega);obtain⟨g,a1,hv,hg,a6,a7,i,y⟩:=Yu a (by omega)
   injection hv with hA hn M
   subst hA;subst M;have a8:=i k K;have aa:=y k;have n:=Ry a k r;have l:L.set k r=Pg.putAt x.Ai k r:=(by rw[X.out,u];rfl);rw[l]at n;have N:=Hq n;have z:(Pg.putAt x.Ai k r).length=L.length:=(by rw[← l,List.length_set]);have O:=Hq z;obtain⟨x0,x1,x2,x3,f0,f1,f2,f3⟩:=Ey ((s.block _ (by omega)).trans U.out);obtain⟨y0,y1,y2,y3,k0,k1,k2,k3⟩:=Ey ((s.block _ (by omega)).trans V.out);have P:Bw w wr:=D.out.trans (s.mono (by omega));have ad:(0:Int)≤(k:Int):=(by omega);have ae:(k:Int)<(L.length:Int):=(by omega);clear i y n l z u m t;go_wp2_with fail;have S:g≠w.heap.size+1:=(by omega);have T:g≠w.heap.size:=(by omega);refine bodyPost_ret (v:=.agg #[x.lsn,x.kind,x.link,.slice (some ⟨g,0,none⟩) L.length R]) (by simp[results,Tryz.results119,go_sem,y0,y1,y2,y3]) rfl ?_;refine⟨some ⟨g,0,none⟩,R,by rw[← O.out],?_,?_⟩
   ·have ho:=Kk N.out rfl
    refine Bp.mono (B:=w.heap.size+2) ?_ (by omega)
    repeat (first|(with_reducible exact ho)|(with_reducible refine Bp.set ?_ _ (by simp;done) _))
   ·repeat (first|(with_reducible exact P)|(with_reducible refine Below.setCell ?_ (by first|(simp;done)|(show w.heap.size≤g;omega)) _))
theorem iQ (A:Option Addr)(c n:Nat)(i:Int)(r:ByteArray)(h:512<i)(w:World):
 Cq 140 #[.slice A n c,i,r] w fun e w'=>e= .returned (.tuple #["s",false])∧w=w':=by
 go_enter Tryz.func140,Tryz.ntmps140;go_wp2_with fail;go_ret2;exact⟨rfl,rfl⟩
theorem R0 (rs:List ByteArray)(A:Option Addr)(c k:Nat)(r:ByteArray)(hl:rs.length≤4096)(hk:k≤512)(w:World)(h:Cells w A c rs):
 Cq 140 #[.slice A rs.length c,.int .i64 (k:Int),r] w fun e w'=>∃ A' c',e= .returned (.tuple #[.slice A' (Pg.putAt rs k r).length c',true])∧Bp w.heap.size w' A' c' (Pg.putAt rs k r)∧Bw w w':=by
 have t:(k:Int)≤512:=by omega
 go_enter Tryz.func140,Tryz.ntmps140
 go_wp2_with(at_builtin;refine Lb _ rfl _ _ rfl w.heap.size (.slice none 0 0) [] rfl (Kd.nil _ _) A c rs rfl h (by simp;omega) (Nat.le_refl _) ?_;intro v1 w1 d u n)
 rw[List.nil_append]at d;have HC:=Hq h;have J:=Hq n;clear u h t n
 go_loopw [8] (fun v wr=>∃ j,j≤k+1-rs.length∧Kd w.heap.size wr v (Pg.Rx rs j)∧Bw w wr) (fun v _=>8193-rY v)
 case atStart=>exact⟨0,Nat.zero_le _,by simpa[Pg.Rx]using d,J.out⟩
 case round=>
  obtain⟨j,hj,a,x⟩:=hrel;have K:=x.size;have l:=Pg.Ql rs j;have y:=Hq (Pg.Uz rs j);obtain⟨L,z⟩:=ex (Pg.Rx rs j);rw[← z]at a l y;have M:=Hq z;have N:=Hq l;clear z;obtain⟨Av,O,rfl,o,-⟩:=a.form
  by_cases P:L.length≤k
  ·have B:j+1≤k+1-rs.length:=by omega
   clear l o
   go_wp2_with(at_builtin;refine Lb _ rfl _ _ rfl w.heap.size _ L rfl (a.below ((Below.refl _ _).alloc (Nat.le_refl _) _)) _ 1 [⟨#[]⟩] rfl (U0 wr _) (by simp;omega) (by simp;omega) ?_;intro v2 w2 b C D)
   have E:Bw w w2:=x.trans (((Below.refl _ _).alloc (by omega) _).trans D);rw[← y.out]at b;have Q:∃ A' c',v2= .slice A' (L.length+1) c':=by
    obtain⟨A',c',rfl,-⟩:=b.form;exact⟨A',c',by rw[y.out,List.length_append];rfl⟩
   obtain⟨A',c',rfl⟩:=Q;clear C;go_roundw
   case rel=>exact⟨j+1,B,b,E⟩
   case measure=>simp[rY];omega
  ·have p:j=k+1-rs.length:=by omega
   have F:k<L.length:=(by omega);obtain⟨g,R,S,T,U,V,f,q⟩:=Yu a (by omega)
   injection S with W hn G
   subst W;subst G;have X:=f k F;have Y:=q k;have m:=Ry a k r;have i:L.set k r=Pg.putAt rs k r:=(by rw[M.out,p];rfl);rw[i]at m;have H:=Hq m;have s:(Pg.putAt rs k r).length=L.length:=(by rw[← i,List.length_set]);have I:=Hq s;have Z:(0:Int)≤(k:Int):=(by omega);have a1:(k:Int)<(L.length:Int):=(by omega);clear f q m i s p l o;go_wp2_with fail;go_ret2;exact⟨some ⟨g,0,none⟩,O,(by rw[I.out];rfl),Kk H.out rfl,x.setCell T _⟩
end Go.Proofs.YtmfkhdhnbkambaaGreatDoor
namespace Pg
theorem R3 (rs:List ByteArray):Ay (trim rs)≤Ay rs:=by
 unfold Ay trim;have:=Ci rs (Dv rs rs.length);have:=List.length_take_le (Dv rs rs.length) rs;have:(rs.take (Dv rs rs.length)).length≤rs.length:=by rw[List.length_take];omega
 omega
theorem Yv {x:Ct}(h:512<Ay (trim x.Ai)):Cx x=[]:=by unfold Cx L8;rw[if_pos h]
theorem Mf {x:Ct}(h:Ay (trim x.Ai)≤512):(Cx x).length=512:=Qg x _ (by omega)
theorem Ox (x:Ct):Cx x=[]↔512<Ay (trim x.Ai):=by
 constructor
 ·intro h
  rcases Nat.lt_or_ge 512 (Ay (trim x.Ai))with h1|h1
  ·exact h1
  ·have:=Mf h1;rw[h]at this;cases this
 ·exact Yv
def Ek (x:Ct):ByteArray×Int:=if Cx x=[]then(⟨#[]⟩,18)else(⟨(Cx x).toArray⟩,0)
theorem Pq {x:Ct}(h:Ay (trim x.Ai)≤512):Ek x=(⟨(Cx x).toArray⟩,0):=by
 unfold Ek;rw[if_neg];rw[Ox];omega
theorem Yw {x:Ct}(h:512<Ay (trim x.Ai)):Ek x=(⟨#[]⟩,18):=by
 unfold Ek;rw[if_pos ((Ox x).2 h)]
end Pg
namespace Go.Proofs.YtmfkhdhnbkambaaGreatDoor
open Go.RowKit
abbrev Kn (o:ByteArray×Int):Value:=.tuple #[o.1,o.2]
theorem R4 (x:Pg.Ct)(A:Option Addr)(c:Nat)(i:Pg.Small x)(j:Pg.Ay x.Ai≤1099511627776)(w:World)(h:Cells w A c x.Ai):
 Cr 118 #[Fv x A c] w (Kn (Pg.Ek x)):=by
 have d:=Hq (Mb x A c i j _ (h.below ((Below.refl w.heap.size w).alloc (Nat.le_refl _) (.cells #[x.lsn,x.kind,x.link,.slice A x.Ai.length c] 151 (0,0)))));clear h;unfold Pg.Ek
 by_cases a:Pg.Cx x=[]
 ·rw[if_pos a]
  rw[a]at d;clear a;go_enter Tryz.func118,Tryz.ntmps118
  go_wp2_with(go_at_call 128;refine(d.out).mono ?_;rintro e k ⟨rfl,b⟩)
  go_ret2;exact⟨rfl,Bd b⟩
 ·rw[if_neg a]
  obtain⟨q,f⟩:=ex (⟨(Pg.Cx x).toArray⟩:ByteArray);rw[← f]at d ⊢;have l:q.toList.isEmpty=false:=by
   rw[F8,f];refine decide_eq_false fun m=>a ?_;have n:(Pg.Cx x).toArray.size=0:=m
   simpa using n
  have g:q.toList=Pg.Cx x:=by rw[ByteArray.toList_eq,f]
  have o:¬ q.toList=[]:=by rw[g];exact a
  clear a f g;go_enter Tryz.func118,Tryz.ntmps118
  go_wp2_with(go_at_call 128;refine(d.out).mono ?_;rintro e k ⟨rfl,b⟩)
  go_ret2;exact⟨rfl,Bd b⟩
theorem Yx (x:Pg.Ct)(A:Option Addr)(c:Nat)(n:Pg.Small x)(d:Pg.Ay x.Ai≤1099511627776)(i:Pg.Ay x.Ai≤512∨Pg.trim x.Ai=x.Ai)(w:World)(h:Cells w A c x.Ai):
 Cr 141 #[Fv x A c] w (Kn (Pg.Ek x)):=by
 have m:=Hq (fun W f=>Ow x A c n d W f);have j:=Hq (h.below ((Below.refl w.heap.size w).alloc (Nat.le_refl _) (.cells #[x.lsn,x.kind,x.link,.slice A x.Ai.length c] 95 (0,0))));clear h
 by_cases b:Pg.Ay x.Ai≤512
 ·rw[Pg.Pq (Nat.le_trans (Pg.R3 _) b)]
  have k:=Hq (fun W f=>Ov x A c x.Ai d true (decide_eq_true b) W f);clear b d i;generalize (⟨(Pg.Cx x).toArray⟩:ByteArray)=q at m ⊢;go_enter Tryz.func141,Tryz.ntmps141
  go_wp2_with(first|(go_at_call 72;refine(k.out _ j.out).mono ?_;rintro e o ⟨rfl,a⟩;obtain⟨c0,p,c2,c3,f0,f1,f2,f3⟩:=Ey (C0 a))|(go_at_call 31;refine(m.out _ (j.out.below a)).mono ?_;rintro e r ⟨rfl,l⟩))
  go_ret2;exact⟨rfl,andThen (Bd a) l⟩
 ·have g:Pg.trim x.Ai=x.Ai:=by rcases i with h|h;exact absurd h b;exact h
  rw[Pg.Yw (by rw[g];omega)];have k:=Hq (fun W f=>Ov x A c x.Ai d false (decide_eq_false b) W f);clear b d i g;go_enter Tryz.func141,Tryz.ntmps141
  go_wp2_with(first|(go_at_call 72;refine(k.out _ j.out).mono ?_;rintro e o ⟨rfl,a⟩))
  go_ret2;exact⟨rfl,Bd a⟩
end Go.Proofs.YtmfkhdhnbkambaaGreatDoor
namespace Pg
theorem Jg (n:Nat):An (List.replicate n (⟨#[]⟩:ByteArray))=0:=by
 induction n with
 |zero=>rfl
 |succ n ih=>rw[List.replicate_succ,An,ih];rfl
theorem Oy (rs:List ByteArray)(k:Nat)(r:ByteArray)(h:k<rs.length):An (rs.set k r)+rs[k].size=An rs+r.size:=by
 have a:=Ma rs k h;rw[List.set_eq_take_append_cons_drop,if_pos h,D4,An];omega
theorem Lc (rs:List ByteArray)(k:Nat)(r:ByteArray):(putAt rs k r).length=max rs.length (k+1):=by
 unfold putAt
 simp
 omega
theorem Pr (rs:List ByteArray)(k:Nat)(r:ByteArray):An (putAt rs k r)≤An rs+r.size:=by
 unfold putAt;have h:k<(rs++List.replicate (k+1-rs.length) (⟨#[]⟩:ByteArray)).length:=by simp;omega
 have a:=Oy _ k r h;rw[D4,Jg]at a;omega
theorem Gm {rs:List ByteArray}{k:Nat}{r:ByteArray}{m:Nat}(b:∀ r∈rs,r.size≤m)(c:r.size≤m):∀ q∈putAt rs k r,q.size≤m:=by
 intro q a;unfold putAt at a;rcases List.mem_or_eq_of_mem_set a with h|h
 ·rw[List.mem_append]at h
  rcases h with h|h
  ·exact b q h
  ·rw[(List.mem_replicate.1 h).2];exact Nat.zero_le _
 ·rw[h];exact c
theorem U1 (rs:List ByteArray)(k:Nat)(r:ByteArray)(j:Nat):((putAt rs k r)[j]?).getD ⟨#[]⟩=if j=k then r else(rs[j]?).getD ⟨#[]⟩:=by
 unfold putAt;rw[List.getElem?_set]
 by_cases h:k=j
 ·subst h
  rw[if_pos rfl,if_pos (by simp;omega),if_pos rfl];rfl
 ·rw[if_neg h,if_neg (fun e=>h e.symm),List.getElem?_append]
  split
  ·rfl
  ·rename_i a
   rw[List.getElem?_replicate,List.getElem?_eq_none (by omega)]
   split<;>rfl
theorem Uh {rs:List ByteArray}(h:rs.length=0∨((rs[rs.length-1]?).getD ⟨#[]⟩).size≠0):Jc rs:=by
 intro r a;rw[List.getLast?_eq_getElem?]at a;rcases h with h|h
 ·rw[List.eq_nil_of_length_eq_zero h]at a;simp at a
 ·rw[a]at h;exact h
theorem R5 {rs:List ByteArray}(h:Jc rs):rs.length=0∨((rs[rs.length-1]?).getD ⟨#[]⟩).size≠0:=by
 rcases Nat.eq_zero_or_pos rs.length with h0|h0
 ·exact .inl h0
 ·right
  have a:rs[rs.length-1]? =some rs[rs.length-1]:=List.getElem?_eq_getElem (by omega);rw[a];exact h _ (by rw[List.getLast?_eq_getElem?,a];rfl)
theorem Qm {rs:List ByteArray}(h:Jc rs)(k:Nat){r:ByteArray}(a:r.size≠0):Jc (putAt rs k r):=by
 refine Uh (.inr ?_);rw[U1,Lc]
 split
 ·exact a
 ·rcases R5 h with h1|h1
  ·omega
  ·rw[show max rs.length (k+1)-1=rs.length-1 by omega];exact h1
theorem Jh (rs:List ByteArray)(k:Nat)(r:ByteArray):Ay (putAt rs k r)≤19+4*max rs.length (k+1)+(An rs+r.size):=by
 have:=Pr rs k r;unfold Ay;rw[Lc];omega
def R6 (rs:List ByteArray)(k:Nat)(r:ByteArray):List ByteArray:=if rs.length≤k then putAt rs k r else rs.take k++[r]++rs.drop k
def R7 (rs:List ByteArray)(k:Nat):List ByteArray:=rs.take k++rs.drop (k+1)
theorem U2 {rs:List ByteArray}{k:Nat}{r:ByteArray}{m:Nat}(a:∀ r∈rs,r.size≤m)(b:r.size≤m):∀ q∈R6 rs k r,q.size≤m:=by
 unfold R6
 split
 ·exact Gm a b
 ·intro q c
  simp only[List.mem_append,List.mem_singleton]at c;rcases c with(h|h)|h
  ·exact a q (List.mem_of_mem_take h)
  ·rw[h];exact b
  ·exact a q (List.mem_of_mem_drop h)
theorem U3 {rs:List ByteArray}{k:Nat}{m:Nat}(b:∀ r∈rs,r.size≤m):∀ q∈R7 rs k,q.size≤m:=by
 intro q a;unfold R7 at a;rw[List.mem_append]at a;rcases a with h|h
 ·exact b q (List.mem_of_mem_take h)
 ·exact b q (List.mem_of_mem_drop h)
theorem I4 {rs:List ByteArray}{i:Int}(h:(Ba rs i).size≠0):0≤i∧i<rs.length:=by
 constructor
 ·rcases Int.lt_or_le i 0 with h1|h1
  ·rw[Oa h1]at h;exact absurd rfl h
  ·exact h1
 ·rcases Int.lt_or_le i rs.length with h1|h1
  ·exact h1
  ·rw[L9 h1]at h;exact absurd rfl h
structure Good (x:Ct):Prop where
 fine:Ou x
 tight:Jc x.Ai
 fits:Ay x.Ai≤512
theorem cD {p:List UInt8}{x:Ct}(h:right p=some x):Good x:=
 ⟨(Hf h).1,(Jv h).1,(Jv h).2⟩
theorem Yy (p:List UInt8):Good (Kb p):=by
 unfold Kb
 cases h:right p with
 |none=>exact⟨Ut,(by intro r a;cases a),by decide⟩
 |some x=>exact cD h
end Pg
