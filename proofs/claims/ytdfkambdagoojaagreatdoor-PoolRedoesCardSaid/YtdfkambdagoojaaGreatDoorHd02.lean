import Derived.Test.YtdfkambdagoojaaGreatDoorHd00
import Derived.Test.YtdfkambdagoojaaGreatDoorHd01
import Derived.Deep.QuietTactic
import Derived.BigQuiet
import Derived.Deep.DeepCutAuto
import Derived.Deep.LoopGhost
import Derived.Deep.RegionHeld3
import Derived.Deep.AppendLies
import Derived.Laws.ResultCell
import Derived.Laws.Tables
import Derived.BigRegion
import Derived.IntWalk
import Derived.Maps.AppendAt
import Derived.OwnWalk
import Derived.Deep.MidRow
set_option maxRecDepth 100000
set_option maxHeartbeats 16000000
set_option linter.unusedSimpArgs false
namespace Pg
open Oct
structure Dg where
 lsn:Nat
 kind:Nat
 link:Nat
 recs:List ByteArray
def Small (x:Dg):Prop:=x.lsn<281474976710656∧x.kind≤4∧x.link<16777216
def zero:Dg:=⟨0,0,0,[]⟩
def Aq:List ByteArray→Nat
 |[]=>0
 |r::rs=>r.size+Aq rs
theorem Dn (a b:List ByteArray):Aq (a++b)=Aq a+Aq b:=by
 induction a with
 |nil=>simp[Aq]
 |cons r a ih=>simp[Aq,ih];omega
theorem Cs (rs:List ByteArray)(k:Nat):Aq (rs.take k)≤Aq rs:=by
 have h:=Dn (rs.take k) (rs.drop k);rw[List.take_append_drop]at h;omega
theorem Ja (rs:List ByteArray)(k:Nat)(h:k<rs.length):Aq (rs.take (k+1))=Aq (rs.take k)+rs[k].size:=by
 rw[List.take_succ_eq_append_getElem h,Dn];simp[Aq]
def Bb (rs:List ByteArray):Nat:=19+4*rs.length+Aq rs
def Ev (rs:List ByteArray):Nat→Nat
 |0=>0
 |m+1=>if(rs[m]?.getD ⟨#[]⟩).size=0 then Ev rs m else m+1
theorem Pv (rs:List ByteArray)(m:Nat):Ev rs m≤m:=by
 induction m with
 |zero=>exact Nat.le_refl _
 |succ m ih=>unfold Ev;split<;>omega
def trim (rs:List ByteArray):List ByteArray:=rs.take (Ev rs rs.length)
def Ng (at_:Nat)(r:ByteArray):List UInt8:=if r.size=0 then Bp 0 4 else Bp (at_-r.size) 2++Bp r.size 2
def C9 (at_:Nat):List ByteArray→List UInt8
 |[]=>[]
 |r::rs=>Ng at_ r++C9 (at_-r.size) rs
theorem Oq (a b:List ByteArray):∀ at_:Nat,C9 at_ (a++b)=C9 at_ a++C9 (at_-Aq a) b:=by
 induction a with
 |nil=>intro at_;simp[C9,Aq]
 |cons r a ih=>intro at_;simp only[List.cons_append,C9,ih,Aq,List.append_assoc,Nat.sub_sub]
theorem R5 (rs:List ByteArray)(k:Nat)(h:k<rs.length):C9 512 (rs.take (k+1))=C9 512 (rs.take k)++Ng (512-Aq (rs.take k)) rs[k]:=by
 rw[List.take_succ_eq_append_getElem h,Oq];simp[C9]
theorem Yc (at_:Nat)(r:ByteArray):(Ng at_ r).length=4:=by
 unfold Ng;split<;>simp[A0]
theorem Ew (rs:List ByteArray):∀ at_,(C9 at_ rs).length=4*rs.length:=by
 induction rs with
 |nil=>intro _;rfl
 |cons r rs ih=>intro at_;simp[C9,Yc,ih];omega
def D5:List ByteArray→List UInt8
 |[]=>[]
 |r::rs=>D5 rs++r.data.toList
theorem Fz (rs:List ByteArray):(D5 rs).length=Aq rs:=by
 induction rs with
 |nil=>rfl
 |cons r rs ih=>simp[D5,Aq,ih];omega
theorem eL (rs:List ByteArray)(k:Nat)(h:k<rs.length):D5 (rs.drop k)=D5 (rs.drop (k+1))++rs[k].data.toList:=by
 rw[List.drop_eq_getElem_cons h];rfl
theorem Py (a b:List ByteArray):D5 (a++b)=D5 b++D5 a:=by
 induction a with
 |nil=>simp[D5]
 |cons r a ih=>simp[D5,ih]
theorem eM (rs:List ByteArray)(k:Nat)(h:k<rs.length):D5 (rs.take (k+1))=rs[k].data.toList++D5 (rs.take k):=by
 rw[List.take_succ_eq_append_getElem h,Py];simp[D5]
def M4 (x:Dg)(n at_:Nat):List UInt8:=Bp 0 4++Bp x.lsn 6++Bp x.kind 1++Bp 0 1++Bp x.link 3++Bp n 2++Bp at_ 2
theorem Yd (x:Dg)(n at_:Nat):(M4 x n at_).length=19:=by simp[M4,A0]
def Nh (x:Dg)(rs:List ByteArray):List UInt8:=
 if 512<Bb rs then[]else M4 x rs.length (512-Aq rs)++C9 512 rs++List.replicate (512-Bb rs) 0++D5 rs
def Dh (x:Dg):List UInt8:=Nh x (trim x.recs)
theorem R6 (x:Dg)(rs:List ByteArray)(h:¬ 512<Bb rs):(Nh x rs).length=512:=by
 rw[Nh,if_neg h]
 simp[Yd,Ew,Fz]
 unfold Bb at h ⊢;omega
def Ei (p:List UInt8):Nat→Option (List ByteArray)
 |0=>some []
 |k+1=>match Ei p k with
  |none=>none
  |some rs=>
   if 400<Bq p (21+4*k) 2∨512<Bq p (19+4*k) 2+Bq p (21+4*k) 2 then none
   else some (rs++[⟨((p.drop (Bq p (19+4*k) 2)).take (Bq p (21+4*k) 2)).toArray⟩])
theorem Jb (p:List UInt8):∀ (k:Nat) (rs:List ByteArray),Ei p k=some rs→rs.length=k:=by
 intro k
 induction k with
 |zero=>intro rs h;simp[Ei]at h;rw[h];rfl
 |succ k a=>
  intro rs h;unfold Ei at h
  split at h
  ·cases h
  ·rename_i c b
   split at h
   ·cases h
   ·injection h with h
    rw[← h,List.length_append,a _ b];rfl
theorem R7 (p:List UInt8){k:Nat}(h:Ei p k=none):∀ j,Ei p (k+j)=none:=by
 intro j
 induction j with
 |zero=>exact h
 |succ j ih=>
  show Ei p ((k+j)+1)=none
  simp only[Ei,ih]
def rd (p:List UInt8):Option Dg:=
 if p.length≠512∨4<Bq p 10 1∨123<Bq p 15 2 then none
 else(Ei p (Bq p 15 2)).map fun rs=>⟨Bq p 4 6,Bq p 10 1,Bq p 12 3,rs⟩
def right (p:List UInt8):Option Dg:=(rd p).filter fun x=>decide (Dh x=Bp 0 4++p.drop 4)
def Ls (p:List UInt8):Dg:=(right p).getD zero
theorem Ud (s:List UInt8)(a k:Nat):Oct.Bq s a k<256^k:=by
 have b:=Oct.Hz ((s.drop a).take k);have c:256^((s.drop a).take k).length≤256^k:=Nat.pow_le_pow_right (by omega) (by rw[List.length_take];omega);unfold Oct.Bq;omega
theorem Ye (p:List UInt8):∀ (k:Nat) (rs:List ByteArray),Ei p k=some rs→∀ r∈rs,r.size≤400:=by
 intro k
 induction k with
 |zero=>intro rs h;simp[Ei]at h;subst h;intro r a;cases a
 |succ k b=>
  intro rs h;unfold Ei at h
  split at h
  ·cases h
  ·rename_i c d
   split at h
   ·cases h
   ·rename_i e
    injection h with h
    intro r a;rw[← h,List.mem_append]at a;rcases a with a|a
    ·exact b c d r a
    ·rw[List.mem_singleton.1 a]
     simp[ByteArray.size]
     omega
theorem aL (rs:List ByteArray)(m:Nat)(h:∀ r∈rs,r.size≤m):Aq rs≤m*rs.length:=by
 induction rs with
 |nil=>simp[Aq]
 |cons r rs ih=>
  have b:=h r (by simp);have c:=ih (fun r a=>h r (by simp[a]));simp only[Aq,List.length_cons,Nat.mul_succ];omega
structure Pz (x:Dg):Prop where
 small:Small x
 len:x.recs.length≤123
 each:∀ r∈x.recs,r.size≤400
theorem Pz.sum {x:Dg}(h:Pz x):Aq x.recs≤49200:=by
 have:=aL x.recs 400 h.each;have:=h.len;omega
theorem Pz.Bb {x:Dg}(h:Pz x):Pg.Bb x.recs≤60000:=by
 have:=h.sum;have:=h.len;unfold Pg.Bb;omega
theorem Wj:Pz zero:=⟨⟨by decide,by decide,by decide⟩,by decide,by intro r a;cases a⟩
theorem Tj {p:List UInt8}{x:Dg}(h:rd p=some x):Pz x∧p.length=512:=by
 unfold rd at h
 split at h
 ·cases h
 ·rename_i d
  cases a:Ei p (Bq p 15 2)with
  |none=>rw[a]at h;cases h
  |some rs=>
   rw[a]at h
   injection h with h
   subst h;have b:=Ud p 4 6;have c:=Ud p 12 3;refine⟨⟨⟨by simpa using b,(by show Bq p 10 1≤4;omega),by simpa using c⟩,(by show rs.length≤123;rw[Jb p _ rs a];omega),Ye p _ rs a⟩,by omega⟩
theorem eN (x:Dg):Dh x=[]∨((Dh x).length=512∧∀ p:List UInt8,(Dh x=Bp 0 4++p.drop 4↔(Dh x).drop 4=p.drop 4)):=by
 by_cases h:512<Pg.Bb (trim x.recs)
 ·left;unfold Dh Nh;rw[if_pos h]
 ·right
  refine⟨R6 x _ h,fun p=>?_⟩;have b:Dh x=Bp 0 4++(Dh x).drop 4:=by
   unfold Dh Nh;rw[if_neg h];unfold M4;simp only[List.append_assoc];rw[List.drop_append_of_le_length (by rw[A0];exact Nat.le_refl _),List.drop_of_length_le (by rw[A0];exact Nat.le_refl _),List.nil_append]
  constructor
  ·intro a;rw[a,List.drop_append_of_le_length (by rw[A0];exact Nat.le_refl _),List.drop_of_length_le (by rw[A0];exact Nat.le_refl _),List.nil_append]
  ·intro a;rw[b,a]
theorem Mm {p:List UInt8}{x:Dg}:right p=some x↔rd p=some x∧Dh x=Bp 0 4++p.drop 4:=by
 unfold right;rw[Option.filter_eq_some_iff,decide_eq_true_iff]
theorem Ue {p:List UInt8}{x:Dg}(h:rd p=some x):right p=if decide (Dh x=Bp 0 4++p.drop 4)then some x else none:=by
 unfold right;rw[h];rfl
theorem Jd {p:List UInt8}(h:rd p=none):right p=none:=by unfold right;rw[h];rfl
theorem It {p:List UInt8}{x:Dg}(h:right p=some x):Pz x∧p.length=512:=Tj (Mm.1 h).1
theorem Lh (p:List UInt8):Pz (Ls p):=by
 unfold Ls
 cases h:right p with
 |none=>exact Wj
 |some x=>exact(It h).1
def Ay (rs:List ByteArray)(i:Int):ByteArray:=if i<0 then⟨#[]⟩else(rs[i.toNat]?).getD ⟨#[]⟩
theorem O4 {rs:List ByteArray}{i:Int}(h:i<0):Ay rs i=⟨#[]⟩:=if_pos h
theorem Li {rs:List ByteArray}{i:Int}(h:(rs.length:Int)≤i):Ay rs i=⟨#[]⟩:=by
 unfold Ay;rw[if_neg (by omega),List.getElem?_eq_none (by omega)];rfl
theorem Wk {rs:List ByteArray}{k:Nat}(h:k<rs.length):Ay rs (k:Int)=rs[k]:=by
 unfold Ay;rw[if_neg (by omega),show((k:Int).toNat)=k from rfl,List.getElem?_eq_getElem h];rfl
theorem pU (a b:List UInt8)(u k:Nat)(h:u<256^k):Bq (a++(Bp u k++b)) a.length k=u:=by
 unfold Bq;rw[List.drop_left,List.take_left' (A0 u k),Q3,Nat.mod_eq_of_lt h]
theorem Kb (l a b:List UInt8)(n u k:Nat)(c:l=a++(Bp u k++b))(d:a.length=n)(h:u<256^k):Bq l n k=u:=by
 rw[c,← d];exact pU a b u k h
def Jg (rs:List ByteArray):Prop:=∀ r,rs.getLast? =some r→r.size≠0
theorem Kh (rs:List ByteArray):trim rs=rs↔Jg rs:=by
 have b:trim rs=rs↔Ev rs rs.length=rs.length:=by
  unfold trim
  constructor
  ·intro h
   have c:=congrArg List.length h;rw[List.length_take]at c;have:=Pv rs rs.length;omega
  ·intro h;rw[h,List.take_length]
 rw[b];unfold Jg;rw[List.getLast?_eq_getElem?];rcases d:rs.length with _|m
 ·simp[Ev,d]
 ·have a:m<rs.length:=by omega
  have e:rs[m]? =some rs[m]:=List.getElem?_eq_getElem a;simp only[Nat.add_sub_cancel,e,Option.some.injEq,forall_eq',Ev,Option.getD_some]
  constructor
  ·intro h f
   rw[if_pos f]at h;have:=Pv rs m;omega
  ·intro h;rw[if_neg h]
theorem Q7 (rs:List ByteArray):Jg (trim rs):=by
 unfold trim;have key:∀ m,m≤rs.length→Jg (rs.take (Ev rs m)):=by
  intro m
  induction m with
  |zero=>intro _ r a;simp[Ev]at a
  |succ m b=>
   intro c;unfold Ev
   split
   ·exact b (by omega)
   ·rename_i h
    intro r a;rw[List.getLast?_eq_getElem?,List.length_take,Nat.min_eq_left c,Nat.add_sub_cancel,List.getElem?_take_of_lt (by omega)]at a;rw[a]at h;exact h
 exact key _ (Nat.le_refl _)
theorem uJ {x:Dg}(h:Bb (trim x.recs)≤512):Dh x=M4 x (trim x.recs).length (512-Aq (trim x.recs))++C9 512 (trim x.recs)++List.replicate (512-Bb (trim x.recs)) 0++D5 (trim x.recs):=by
 unfold Dh Nh;rw[if_neg (by omega)]
def Lj (x:Dg)(n a:Nat):List UInt8:=Bp x.lsn 6++(Bp x.kind 1++(Bp 0 1++(Bp x.link 3++(Bp n 2++Bp a 2))))
theorem pV (x:Dg)(n a:Nat):M4 x n a=Bp 0 4++Lj x n a:=by unfold M4 Lj;simp only[List.append_assoc]
theorem Jw (x:Dg)(n a:Nat):(Lj x n a).length=15:=by simp[Lj,A0]
def Ip (x:Dg)(rs:List ByteArray):List UInt8:=Lj x rs.length (512-Aq rs)++(C9 512 rs++(List.replicate (512-Bb rs) 0++D5 rs))
theorem Yf (x:Dg)(rs:List ByteArray)(h:Bb rs≤512):(Ip x rs).length=508:=by
 unfold Ip;simp only[List.length_append,Jw,Ew,List.length_replicate,Fz];have a:Bb rs=19+4*rs.length+Aq rs:=rfl;omega
theorem N7 {x:Dg}(h:Bb (trim x.recs)≤512):Dh x=Bp 0 4++Ip x (trim x.recs):=by
 rw[uJ h,pV];unfold Ip;simp only[List.append_assoc]
structure pW (x:Dg) (l:List UInt8) (n:Nat):Prop where
 lsn:Bq l 4 6=x.lsn
 kind:Bq l 10 1=x.kind
 link:Bq l 12 3=x.link
 count:Bq l 15 2=n
theorem R8 (h:List UInt8)(c:h.length=4)(x:Dg)(d:Small x)(n a:Nat)(e:n<65536)(b:List UInt8):pW x (h++(Lj x n a++b)) n:=by
 obtain⟨f,g,i⟩:=d
 constructor
 ·exact Kb _ h (Bp x.kind 1++(Bp 0 1++(Bp x.link 3++(Bp n 2++(Bp a 2++b))))) _ _ _ (by simp[Lj]) (by simp[c]) (by omega)
 ·exact Kb _ (h++Bp x.lsn 6) (Bp 0 1++(Bp x.link 3++(Bp n 2++(Bp a 2++b)))) _ _ _ (by simp[Lj]) (by simp[A0,c]) (by omega)
 ·exact Kb _ (h++Bp x.lsn 6++Bp x.kind 1++Bp 0 1) (Bp n 2++(Bp a 2++b)) _ _ _ (by simp[Lj]) (by simp[A0,c]) (by omega)
 ·exact Kb _ (h++Bp x.lsn 6++Bp x.kind 1++Bp 0 1++Bp x.link 3) (Bp a 2++b) _ _ _ (by simp[Lj]) (by simp[A0,c]) (by omega)
theorem pX (a:Nat)(r:ByteArray):Ng a r=Bp (if r.size=0 then 0 else a-r.size) 2++Bp r.size 2:=by
 unfold Ng
 by_cases h:r.size=0
 ·rw[if_pos h,if_pos h,h];rfl
 ·rw[if_neg h,if_neg h]
theorem Yg (rs:List ByteArray)(k:Nat)(h:k<rs.length):C9 512 rs=C9 512 (rs.take k)++(Ng (512-Aq (rs.take k)) rs[k]++C9 (512-Aq (rs.take k)-rs[k].size) (rs.drop (k+1))):=by
 have a:rs=rs.take k++rs[k]::rs.drop (k+1):=by rw[← List.drop_eq_getElem_cons h,List.take_append_drop]
 conv=>lhs;rw[a]
 rw[Oq];rfl
theorem aM (rs:List ByteArray)(k:Nat)(h:k<rs.length):D5 rs=D5 (rs.drop (k+1))++(rs[k].data.toList++D5 (rs.take k)):=by
 have a:rs=rs.take k++rs[k]::rs.drop (k+1):=by rw[← List.drop_eq_getElem_cons h,List.take_append_drop]
 conv=>lhs;rw[a]
 rw[Py];simp[D5]
theorem Ki (rs:List ByteArray)(k:Nat)(h:k<rs.length):Aq rs=Aq (rs.take k)+rs[k].size+Aq (rs.drop (k+1)):=by
 have a:rs=rs.take k++rs[k]::rs.drop (k+1):=by rw[← List.drop_eq_getElem_cons h,List.take_append_drop]
 conv=>lhs;rw[a]
 rw[Dn];simp[Aq];omega
theorem eO (h:List UInt8)(g:h.length=4)(x:Dg)(rs:List ByteArray)(o:Bb rs≤512)(m:∀ r∈rs,r.size≤400):
 ∀ k,k≤rs.length→Ei (h++Ip x rs) k=some (rs.take k):=by
 intro k
 induction k with
 |zero=>intro _;simp[Ei]
 |succ k ih=>
  intro p;have a:k<rs.length:=by omega
  unfold Ei;rw[ih (by omega)];simp only;have l:=Ki rs k a;have q:Bb rs=19+4*rs.length+Aq rs:=rfl;have n:rs[k].size≤400:=m _ (List.getElem_mem a);have c:=Yg rs k a;have i:=aM rs k a;have d:=pX (512-Aq (rs.take k)) rs[k];have e:(C9 512 (rs.take k)).length=4*k:=by rw[Ew,List.length_take];omega
  have g1:Bq (h++Ip x rs) (19+4*k) 2=if rs[k].size=0 then 0 else 512-Aq (rs.take k)-rs[k].size:=by
   refine Kb _ (h++Lj x rs.length (512-Aq rs)++C9 512 (rs.take k)) (Bp rs[k].size 2++(C9 (512-Aq (rs.take k)-rs[k].size) (rs.drop (k+1))++(List.replicate (512-Bb rs) 0++D5 rs))) _ _ _ ?_ ?_ ?_
   ·unfold Ip;rw[c,d];simp only[List.append_assoc]
   ·rw[List.length_append,List.length_append,Jw,e,g]
   ·split<;>omega
  have g2:Bq (h++Ip x rs) (21+4*k) 2=rs[k].size:=by
   refine Kb _ (h++Lj x rs.length (512-Aq rs)++C9 512 (rs.take k)++Bp (if rs[k].size=0 then 0 else 512-Aq (rs.take k)-rs[k].size) 2) (C9 (512-Aq (rs.take k)-rs[k].size) (rs.drop (k+1))++(List.replicate (512-Bb rs) 0++D5 rs)) _ _ _ ?_ ?_ ?_
   ·unfold Ip;rw[c,d];simp only[List.append_assoc]
   ·rw[List.length_append,List.length_append,List.length_append,Jw,e,A0,g];omega
   ·omega
  rw[g1,g2];rw[if_neg (by split<;>omega)];rw[List.take_succ_eq_append_getElem a]
  congr 2
  by_cases j:rs[k].size=0
  ·rw[j]
   have:rs[k]=⟨#[]⟩:=(by apply ByteArray.ext;exact Array.eq_empty_of_size_eq_zero j);rw[this];rfl
  ·rw[if_neg j]
   have f:(h++(Lj x rs.length (512-Aq rs)++(C9 512 rs++(List.replicate (512-Bb rs) 0++D5 (rs.drop (k+1)))))).length=512-Aq (rs.take k)-rs[k].size:=by
    simp only[List.length_append,Jw,Ew,List.length_replicate,Fz,g];omega
   have b:h++Ip x rs=(h++(Lj x rs.length (512-Aq rs)++(C9 512 rs++(List.replicate (512-Bb rs) 0++D5 (rs.drop (k+1))))))++(rs[k].data.toList++D5 (rs.take k)):=by
    unfold Ip
    conv=>lhs;rw[i]
    simp only[List.append_assoc]
   rw[b,← f,List.drop_left,List.take_left' (by simp)]
theorem uK (h:List UInt8)(b:h.length=4){x:Dg}(c:Small x)(rs:List ByteArray)(d:Bb rs≤512)(f:∀ r∈rs,r.size≤400):rd (h++Ip x rs)=some {x with recs:=rs}:=by
 have i:Bb rs=19+4*rs.length+Aq rs:=rfl;have a:=R8 h b x c rs.length (512-Aq rs) (by omega) (C9 512 rs++(List.replicate (512-Bb rs) 0++D5 rs));have e:=eO h b x rs d f rs.length (Nat.le_refl _);rw[List.take_length]at e;have g:(h++Ip x rs).length=512:=by rw[List.length_append,Yf x rs d,b]
 change pW x (h++Ip x rs) rs.length at a;unfold rd;rw[a.kind,a.count,a.lsn,a.link,g,if_neg (by have:=c.2.1;omega),e]
 rfl
theorem Ga {rs:List ByteArray}(h:Jg rs):trim rs=rs:=(Kh rs).2 h
theorem Uf (h:List UInt8)(a:h.length=4){x:Dg}(d:Small x)(rs:List ByteArray)(b:Bb rs≤512)(e:∀ r∈rs,r.size≤400)(f:Jg rs):right (h++Ip x rs)=some {x with recs:=rs}:=by
 rw[Mm];refine⟨uK h a d rs b e,?_⟩;have c:trim ({x with recs:=rs}:Dg).recs=rs:=Ga f;rw[N7 (x:={x with recs:=rs}) (by rw[c];exact b),c,← a,List.drop_left]
 rfl
theorem eP {x:Dg}(b:Small x)(a:Bb (trim x.recs)≤512)(c:∀ r∈x.recs,r.size≤400):right (Dh x)=some {x with recs:=trim x.recs}:=by
 rw[N7 a];exact Uf _ (A0 0 4) b _ a (fun r d=>c r (List.mem_of_mem_take d)) (Q7 _)
theorem Lk {p:List UInt8}{x:Dg}(h:right p=some x):Jg x.recs∧Bb x.recs≤512:=by
 obtain⟨a,i⟩:=Mm.1 h;obtain⟨l,b⟩:=Tj a;have hlen:(Dh x).length=512:=by
  rw[i,List.length_append,A0,List.length_drop,b]
 have c:Bb (trim x.recs)≤512:=by
  rcases Nat.lt_or_ge 512 (Bb (trim x.recs))with d|d
  ·have:Dh x=[]:=by unfold Dh Nh;rw[if_pos d]
   rw[this]at hlen;cases hlen
  ·exact d
 have e:=R8 (Bp 0 4) (A0 0 4) x l.small (trim x.recs).length (512-Aq (trim x.recs)) (by have:Bb (trim x.recs)=19+4*(trim x.recs).length+Aq (trim x.recs):=rfl;omega) (C9 512 (trim x.recs)++(List.replicate (512-Bb (trim x.recs)) 0++D5 (trim x.recs)));change pW x (Bp 0 4++Ip x (trim x.recs)) _ at e;rw[← N7 c]at e;have m:=e.count;have f:Bq (Dh x) 15 2=Bq p 15 2:=by
  rw[i];unfold Bq;rw[show 15=4+11 from rfl,← List.drop_drop,← List.drop_drop,List.drop_left' (A0 0 4)]
 have n:x.recs.length=Bq p 15 2:=by
  unfold rd at a
  split at a
  ·cases a
  ·cases g:Ei p (Bq p 15 2)with
   |none=>rw[g]at a;cases a
   |some rs=>
    rw[g]at a
    injection a with a
    rw[← a];exact Jb p _ rs g
 have j:trim x.recs=x.recs:=by
  have k:(trim x.recs).length=x.recs.length:=by rw[n,← f,m]
  unfold trim at k ⊢;rw[List.length_take]at k;exact List.take_of_length_le (by omega)
 exact⟨(Kh _).1 j,by rw[j]at c;exact c⟩
theorem aN {p:List UInt8}{x:Dg}(h:right p=some x):p=p.take 4++Ip x x.recs:=by
 obtain⟨c,d⟩:=Lk h;have a:trim x.recs=x.recs:=Ga c;have b:=(Mm.1 h).2;rw[N7 (by rw[a];exact d),a]at b;have e:=List.append_cancel_left b;rw[e,List.take_append_drop]
theorem lF {p q:List UInt8}{x:Dg}(h:right p=some x)(f:q.length=512)(a:q.drop 4=p.drop 4):right q=some x:=by
 obtain⟨b,c⟩:=Lk h;have g:=(It h).2;have d:=aN h;have e:p.drop 4=Ip x x.recs:=by
  conv=>lhs;rw[d]
  exact List.drop_left' (by rw[List.length_take];omega)
 rw[← List.take_append_drop 4 q,a,e];exact Uf _ (by rw[List.length_take];omega) (It h).1.small _ c (It h).1.each b
end Pg
namespace Go.Proofs.YtdfkambdagoojaaGreatDoor
open Go.RowKit
def Cells (w:World)(A:Option Addr)(c:Nat)(rs:List ByteArray):Prop:=
 0<rs.length→∃ b off,A=some ⟨b,off,none⟩∧rs.length≤c∧b<w.heap.size∧∀ j (h:j<rs.length),w.cell? ⟨b,off+j,none⟩=some (.string rs[j])
theorem Cells.below {w w':World}{A:Option Addr}{c:Nat}{rs:List ByteArray}(h:Cells w A c rs)(e:Bw w w'):Cells w' A c rs:=fun f=>by
 obtain⟨b,off,g,i,d,a⟩:=h f;refine⟨b,off,g,i,Nat.lt_of_lt_of_le d e.size,fun j k=>?_⟩;rw[e.cell (p:=⟨b,off+j,none⟩) d];exact a j k
theorem Cells.at_ {w:World}{A:Option Addr}{c:Nat}{rs:List ByteArray}(h:Cells w A c rs){k:Nat}(e:k<rs.length):∃ b off,A=some ⟨b,off,none⟩∧rs.length≤c∧b<w.heap.size∧w.cell? ⟨b,off+k,none⟩=some (.string rs[k]):=by
 obtain⟨b,off,f,g,d,a⟩:=h (by omega);exact⟨b,off,f,g,d,a k e⟩
theorem uL {k:IntKind}{a b:Int}(h:a=b):Ending.returned (.int k a)= .returned (.int k b):=by rw[h]
theorem Tk {a b:ByteArray}(h:a=b):Ending.returned (.string a)= .returned (.string b):=by rw[h]
theorem andThen {a b c:World}(h:Bw a b)(k:Bw b c):Bw a c:=h.trans (k.mono h.size)
theorem aO (A:Option Addr)(c:Nat)(rs:List ByteArray)(m:Pg.Bb rs≤1099511627776)(w:World)(h:Cells w A c rs):
 Cq 180 #[.slice A rs.length c] w fun e w'=>e= .returned (.int .i64 (Pg.Bb rs))∧w=w':=by
 unfold Pg.Bb at m;have o:=Hq h;clear h;go_enter Tryz.func180,Tryz.ntmps180;go_wp2_with fail
 go_loop [3,12] (fun n i=>∃ k:Nat,k≤rs.length∧i= .int .i64 k∧n= .int .i64 ((19+4*rs.length+Pg.Aq (rs.take k):Nat):Int)) (fun _ i=>rs.length-(intOf i).toNat)
 case atStart=>exact⟨0,Nat.zero_le _,rfl,by simp[Pg.Aq]⟩
 case round=>
  obtain⟨k,t,rfl,rfl⟩:=hrel;have p:=Pg.Cs rs k
  by_cases f:k<rs.length
  ·obtain⟨b,off,rfl,u,q,d⟩:=o.out.at_ f
   have j:=Hq (Pg.Ja rs k f);have a:=Pg.Cs rs (k+1);have g:Pg.Aq (rs.take k)+rs[k].size≤Pg.Aq rs:=(by rw[← j.out];exact a);clear a;generalize l:rs[k]=r at d g;have s:=Hq l;clear l;go_wp2_with fail
   go_round
   case rel=>exact⟨k+1,by omega,by go_num,by rw[j.out,s.out];go_num⟩
   case measure=>simp[intOf];omega
  ·obtain rfl:k=rs.length:=by omega
   go_wp2_with fail;go_ret;exact⟨uL (by unfold Pg.Bb;omega),rfl⟩
def Wl (x:Pg.Dg)(A:Option Addr)(m c:Nat):Obj:=.cells #[x.lsn,x.kind,x.link,.slice A m c] 147
theorem Hk (r:ByteArray):r.toList.isEmpty=decide (r.size=0):=by
 rw[ByteArray.toList_eq];have h:r.data.toList.length=r.size:=by simp
 cases b:r.data.toList with
 |nil=>rw[b]at h;simp at h;simp[h.symm]
 |cons a l=>
  rw[b,List.length_cons]at h;simp only[List.isEmpty_cons];exact(decide_eq_false (by omega)).symm
theorem lG (w:World)(o1 a o3:Obj):(((w.alloc o1).alloc a).alloc o3).heap[w.heap.size]? =some o1∧(((w.alloc o1).alloc a).alloc o3).heap[w.heap.size+1]? =some a∧(((w.alloc o1).alloc a).alloc o3).heap[w.heap.size+1+1]? =some o3∧(((w.alloc o1).alloc a).alloc o3).heap.size=w.heap.size+3:=by
 have e:(((w.alloc o1).alloc a).alloc o3).heap=((w.heap.push o1).push a).push o3:=rfl;rw[e];refine⟨?_,?_,?_,by simp⟩
 ·rw[Array.getElem?_push_lt (by simp;omega),Array.getElem_push_lt (by simp),Array.getElem_push_eq]
 ·rw[Array.getElem?_push_lt (by simp),Array.getElem_push];simp
 ·rw[Array.getElem?_push];simp
theorem pY (n size:Int)(d:0≤size)(f:size≤8)(X:Nat)(v0 v1 v2 v3:Value)(b w:World)(g:X<b.heap.size)
 (h:w.cell? ⟨X,0,none⟩=some v0∧w.cell? ⟨X,1,none⟩=some v1∧w.cell? ⟨X,2,none⟩=some v2∧w.cell? ⟨X,3,none⟩=some v3∧Bw b w):
 Cq 171 #[n,size] w fun e w'=>e= .returned (.string (Oct.Bj n size))∧
  (w'.cell? ⟨X,0,none⟩=some v0∧w'.cell? ⟨X,1,none⟩=some v1∧w'.cell? ⟨X,2,none⟩=some v2∧w'.cell? ⟨X,3,none⟩=some v3∧Bw b w'):=by
 obtain⟨c0,c1,c2,c3,c⟩:=h;have i:=c.size;refine(I9 n size d f w).mono ?_;rintro e w' ⟨rfl,a⟩;refine⟨rfl,?_,?_,?_,?_,andThen c a⟩
 ·rw[a.cell (p:=⟨X,0,none⟩) (by show X<_;omega)];exact c0
 ·rw[a.cell (p:=⟨X,1,none⟩) (by show X<_;omega)];exact c1
 ·rw[a.cell (p:=⟨X,2,none⟩) (by show X<_;omega)];exact c2
 ·rw[a.cell (p:=⟨X,3,none⟩) (by show X<_;omega)];exact c3
theorem Ni (x:Pg.Dg)(A:Option Addr)(c:Nat)(Q:Pg.Small x)(hb:Pg.Bb x.recs≤1099511627776)(w:World)(h:Cells w A c x.recs):
 Cr 125 #[.agg #[x.lsn,x.kind,x.link,.slice A x.recs.length c]] w (.string ⟨(Pg.Dh x).toArray⟩):=by
 have b3:=Hq Q;clear Q;have HC:=Hq h;have b5:x.recs.length≤1099511627776:=by unfold Pg.Bb at hb;omega
 have HB:=Hq hb;clear h hb;go_enter Tryz.func125,Tryz.ntmps125
 go_upto_block 0 with(fail)
 go_cut [] (fun wc=>∃ m:Nat,m≤x.recs.length∧Pg.Ev x.recs x.recs.length=m∧wc=w.alloc (Wl x A m c))
 case first=>
  go_wp2_with fail
  go_loopg [] x.recs.length (fun m wr=>m≤x.recs.length∧Pg.Ev x.recs m=Pg.Ev x.recs x.recs.length∧wr=w.alloc (Wl x A m c))
  case atStart=>exact⟨Nat.le_refl _,rfl,rfl⟩
  case round=>
   obtain⟨hm,ht,rfl⟩:=hrel;have HT:=Hq ht;clear ht;unfold Wl
   by_cases h0:gk=0
   ·subst h0
    go_wp2_with fail;go_meet
    case rel=>exact⟨0,Nat.zero_le _,by rw[← HT.out];rfl,rfl⟩
   ·obtain⟨b,off,rfl,hc,C,f⟩:=HC.out.at_ (k:=gk-1) (by omega)
    obtain⟨m,rfl⟩:∃ m,gk=m+1:=⟨gk-1,by omega⟩;simp only[Nat.add_sub_cancel]at f;have o:=Hk x.recs[m];have HR:=Hq (show x.recs[m]?.getD ⟨#[]⟩=x.recs[m] by simp[show m<x.recs.length by omega]);have aq:(World.cell? (w.alloc (Wl x (some ⟨b,off,none⟩) (m+1) c)) ⟨b,off+m,none⟩)=some (.string x.recs[m]):=by
     rw[World.cell?_alloc_lt _ _ _ C];exact f
    unfold Wl at aq;generalize hr:x.recs[m]=r at f o aq HR
    by_cases G:r.size=0
    ·have I:r.toList.isEmpty=true:=by rw[o];exact decide_eq_true G
     clear o hr;have X:=Hq G;clear G;go_wp2_with fail
     go_roundg m
     case measure=>omega
     case rel=>exact⟨by omega,by rw[← HT.out,Pg.Ev,HR.out,if_pos X.out],rfl⟩
    ·have I:r.toList.isEmpty=false:=by rw[o];exact decide_eq_false G
     clear o hr;have X:=Hq G;clear G;go_wp2_with fail;go_meet
     case rel=>exact⟨m+1,hm,by rw[← HT.out,Pg.Ev,HR.out,if_neg X.out],rfl⟩
 case rest=>
  obtain⟨m,hm,ht,rfl⟩:=hcut;have hlen:(x.recs.take m).length=m:=by rw[List.length_take];omega
  have Z:Pg.Bb (x.recs.take m)≤1099511627776:=by
   have:=HB.out;have:=Pg.Cs x.recs m;unfold Pg.Bb at*;omega
  have J:=Hq (show Cells w A c (x.recs.take m)from fun h0=>by
   obtain⟨b,off,hA,hc,K,f⟩:=HC.out (by omega);refine⟨b,off,hA,by omega,K,fun j hj=>?_⟩;rw[List.getElem_take];exact f j (by omega))
  have HL:=Hq (show Pg.Dh x=Pg.Nh x (x.recs.take m) by rw[Pg.Dh,Pg.trim,ht]);generalize b6:x.recs.take m=rs at hlen Z J HL;subst hlen;clear HC HB b5 hm ht b6;unfold Wl
  by_cases t:512<Pg.Bb rs
  ·go_wp2_with(go_at_call 180;refine(aO A c rs Z _ (J.out.below ((Below.refl _ _).alloc (Nat.le_refl _) _))).mono ?_;rintro e w' ⟨rfl,rfl⟩)
   go_ret;exact⟨Tk (by rw[HL.out,Pg.Nh,if_pos t]),(Below.refl _ _).alloc (Nat.le_refl _) _⟩
  ·go_upto_block 2 with(go_at_call 180;refine(aO A c rs Z _ (J.out.below ((Below.refl _ _).alloc (Nat.le_refl _) _))).mono ?_;rintro e w' ⟨rfl,rfl⟩)
   have b7:Pg.Aq rs≤512:=(by unfold Pg.Bb at t;omega);have b8:rs.length≤512:=(by unfold Pg.Bb at t;omega);obtain⟨W3,T⟩:=ex (((w.alloc (.cells #[x.lsn,x.kind,x.link,.slice A rs.length c] 147)).alloc (.cells #[.pointer none,'s'] 186)).alloc (.cells #[.pointer none,'s'] 186));rw[← T];have ar:Bw w W3:=(by rw[T];exact(((Below.refl _ _).alloc (Nat.le_refl _) _).alloc (by simp) _).alloc (by simp;omega) _);obtain⟨a1,a6,a7,a8⟩:=lG w (.cells #[x.lsn,x.kind,x.link,.slice A rs.length c] 147) (.cells #[.pointer none,'s'] 186) (.cells #[.pointer none,'s'] 186);rw[← T]at a1 a6 a7 a8;clear T;have aa:=Hq ar;have b9:=Hq a1;have ba:=Hq a6;have bb:=Hq a7;have s:=Hq a8;have Y:=Hq t;clear ar a1 a6 a7 a8 t
   go_cut [6] (fun s6 wc=>s6= .int .i64 ((512-Pg.Aq rs:Nat):Int)∧Pr W3.heap.size wc.heap.size (w.heap.size+1) (Pg.C9 512 rs) wc∧C7 W3.heap.size (w.heap.size+1) W3 wc)
   case first=>
    go_wp2_with fail
    go_loopw [6,43] (fun a i wr=>∃ k:Nat,k≤rs.length∧i= .int .i64 k∧a= .int .i64 ((512-Pg.Aq (rs.take k):Nat):Int)∧Pr W3.heap.size wr.heap.size (w.heap.size+1) (Pg.C9 512 (rs.take k)) wr∧C7 W3.heap.size (w.heap.size+1) W3 wr) (fun _ i _=>rs.length-(intOf i).toNat)
    case atStart=>exact⟨0,Nat.zero_le _,rfl,by simp[Pg.Aq],Pr.fresh _ _ _ _ (by rw[s.out];omega) ba.out,C7.refl _ _ _⟩
    case round=>
     obtain⟨k,hk,rfl,rfl,g,d⟩:=hrel;have P:=Hq d;have HD:=Hq g;have bt:=Pg.Cs rs k;have ad:W3.heap.size≤wr.heap.size:=d.size;clear g d
     by_cases K:k<rs.length
     ·obtain⟨b,off,rfl,hc,C,f⟩:=J.out.at_ K
      have ae:wr.cell? ⟨b,off+k,none⟩=some (.string rs[k]):=by
       rw[(P.out.below (lo:=w.heap.size) (by rw[s.out];omega) (by omega)).cell (p:=⟨b,off+k,none⟩) C,aa.out.cell (p:=⟨b,off+k,none⟩) C];exact f
      have HS:=Hq (Pg.Ja rs k K);have af:=Hq (Pg.R5 rs k K);have au:=Pg.Cs rs (k+1);have av:Pg.Aq (rs.take k)+rs[k].size≤512:=(by rw[← HS.out];omega);have hlen:(Pg.C9 512 (rs.take k)).length≤4096:=(by rw[Pg.Ew,List.length_take];omega);have o:=Hk rs[k];clear au f;generalize hr:rs[k]=r at ae av o HS af;clear hr
      by_cases G:r.size=0
      ·have I:r.toList.isEmpty=true:=by rw[o];exact decide_eq_true G
       clear o;have X:=Hq G;clear G
       go_wp2_with(first|(go_at_call 171;refine(I9 _ _ (by omega) (by omega) _).mono ?_;rintro e w1 ⟨rfl,D⟩)|(go_at_call 181;refine(N5 _ _ _ _ _ _ (HD.out.below D) ?_ ?_).mono ?_;(rw[show(Oct.Bj 0 4).size=4 from Oct.Bx 0 4 (by omega)];omega);(have:=D.size;omega);rintro e w2 ⟨rfl,y,E⟩))
       go_roundw
       case rel=>exact⟨k+1,by omega,by go_num,by rw[HS.out,X.out];rfl,by
        rw[af.out,Pg.Ng,if_pos X.out];rw[show(Oct.Bj 0 4).data.toList=Oct.Bp 0 4 from Oct.Ch 0 4 (by omega)]at y;exact y,P.out.trans ((C7.Jf ad D).trans E)⟩
       case measure=>simp[intOf];omega
      ·have I:r.toList.isEmpty=false:=by rw[o];exact decide_eq_false G
       clear o;have X:=Hq G;clear G;obtain⟨a,ha⟩:=ex (512-Pg.Aq (rs.take k):Nat);rw[← ha];have bu:r.size≤a:=(by omega);have bc:a≤512:=(by omega);have HA:=Hq ha;clear ha;have br:∀ (u v:Int) (W:World),(Op.stringOp .add (Oct.Bj u 2) (Oct.Bj v 2)).run Tryz.prog W= .ok (.string (Oct.Bj u 2++Oct.Bj v 2)) W:=fun u v W=>run_string_add_sum W _ _ (by
        rw[show(Oct.Bj u 2).size=2 from Oct.Bx u 2 (by omega),show(Oct.Bj v 2).size=2 from Oct.Bx v 2 (by omega)];omega)
       go_wp2_with(first|(go_at_call 171;(with_reducible refine(I9 (r.size:Int) _ (by omega) (by omega) _).mono ?_);rintro e w2 ⟨rfl,ag⟩)|(go_at_call 171;refine(I9 _ _ (by omega) (by omega) _).mono ?_;rintro e w1 ⟨rfl,D⟩)|(go_at_call 181;refine(N5 _ _ _ _ _ _ ((HD.out.below D).below ag) ?_ ?_).mono ?_;(rw[ByteArray.size_append,show(Oct.Bj _ 2).size=2 from Oct.Bx _ 2 (by omega),show(Oct.Bj _ 2).size=2 from Oct.Bx _ 2 (by omega)];omega);(have:=D.size;have:=ag.size;omega);rintro e w3 ⟨rfl,L,ah⟩))
       go_roundw
       case rel=>
        refine⟨k+1,by omega,by go_num,?_,?_,P.out.trans ((C7.Jf ad D).trans ((C7.Jf (by have:=D.size;omega) ag).trans ah))⟩
        ·have:=HA.out
         rw[HS.out];exact congrArg (Value.int IntKind.i64) (by omega)
        ·rw[af.out,Pg.Ng,if_neg X.out,← HA.out]
         have e1:(Oct.Bj ((a:Int)-(r.size:Int)) 2).data.toList=Oct.Bp (a-r.size) 2:=by
          rw[show((a:Int)-(r.size:Int))=((a-r.size:Nat):Int) by omega];have:=Oct.Ch ((a-r.size:Nat):Int) 2 (by omega)
          rwa[Oct.El (a-r.size) (by omega)]at this
         have e2:(Oct.Bj (r.size:Int) 2).data.toList=Oct.Bp r.size 2:=by
          have:=Oct.Ch (r.size:Int) 2 (by omega)
          rwa[Oct.El r.size (by omega)]at this
         rw[ByteArray.data_append,Array.toList_append,e1,e2]at L;exact L
       case measure=>simp[intOf];omega
     ·obtain rfl:k=rs.length:=by omega
      have HT:=Hq (List.take_length (l:=rs));go_wp2_with fail;go_meet
      case rel=>
       have h1:=HD.out;rw[HT.out]at h1;exact⟨by rw[HT.out],h1,P.out⟩
   case rest=>
    obtain⟨q,rfl⟩:=ex wc;obtain⟨rfl,g,d⟩:=hcut;have HD:=Hq g;have P:=Hq d;have bw:W3.heap.size≤q.heap.size:=d.size;clear g d;have Q:q.heap[w.heap.size]? =some (.cells #[x.lsn,x.kind,x.link,.slice A rs.length c] 147 (0,0)):=by
     rw[P.out.block _ (by rw[s.out];omega) (by omega)];exact b9.out
    have c0:q.cell? ⟨w.heap.size,0,none⟩=some (.int .i64 x.lsn):=(by rw[Bv Q];rfl);have c1:q.cell? ⟨w.heap.size,1,none⟩=some (.int .i64 x.kind):=(by rw[Bv Q];rfl);have c2:q.cell? ⟨w.heap.size,2,none⟩=some (.int .i64 x.link):=(by rw[Bv Q];rfl);have c3:q.cell? ⟨w.heap.size,3,none⟩=some (.slice A rs.length c):=(by rw[Bv Q];rfl);have HX:=Hq Q;clear Q
    go_upto_block 4 with(fail)
    go_cut [] (fun wc=>Pr q.heap.size wc.heap.size (w.heap.size+1+1) (Pg.D5 rs) wc∧C7 q.heap.size (w.heap.size+1+1) q wc)
    case first=>
     go_wp2_with fail
     go_loopw [9] (fun i wr=>∃ j:Nat,j≤rs.length∧i= .int .i64 ((j:Int)-1)∧Pr q.heap.size wr.heap.size (w.heap.size+1+1) (Pg.D5 (rs.drop j)) wr∧C7 q.heap.size (w.heap.size+1+1) q wr) (fun i _=>(intOf i+1).toNat)
     case atStart=>
      refine⟨rs.length,Nat.le_refl _,rfl,?_,C7.refl _ _ _⟩;rw[List.drop_length];exact Pr.fresh _ _ _ _ (by have:=s.out;omega) (by rw[P.out.block _ (by rw[s.out];omega) (by omega)];exact bb.out)
     case round=>
      obtain⟨j,hj,rfl,g,d⟩:=hrel;have ai:=Hq d;have aw:=Hq g;have ad:q.heap.size≤wr.heap.size:=d.size;have hz:=s.out;have d3:wr.cell? ⟨w.heap.size,3,none⟩=some (.slice A rs.length c):=by
       have:wr.heap[w.heap.size]? =_:=(d.block _ (by omega) (by omega)).trans HX.out;rw[Bv this];rfl
      clear g d c0 c1 c2 c3 hz
      by_cases h0:j=0
      ·subst h0
       go_wp2_with fail;go_meet
       case rel=>exact⟨aw.out,ai.out⟩
      ·obtain⟨k,rfl⟩:∃ k,j=k+1:=⟨j-1,by omega⟩
       rw[show((k+1:Nat):Int)-1=(k:Int) by omega];obtain⟨b,off,rfl,hc,C,f⟩:=J.out.at_ (k:=k) (by omega);have ae:wr.cell? ⟨b,off+k,none⟩=some (.string rs[k]):=by
        have hz:=s.out;rw[(ai.out.below (lo:=w.heap.size) (by omega) (by omega)).cell (p:=⟨b,off+k,none⟩) C,(P.out.below (lo:=w.heap.size) (by omega) (by omega)).cell (p:=⟨b,off+k,none⟩) C,aa.out.cell (p:=⟨b,off+k,none⟩) C];exact f
       have aj:=Hq (Pg.eL rs k (by omega));have hlen:(Pg.D5 (rs.drop (k+1))).length+rs[k].size≤4096:=by
        have h1:=Pg.Fz (rs.drop k);rw[aj.out,List.length_append]at h1;have h2:=Pg.Dn (rs.take k) (rs.drop k);rw[List.take_append_drop]at h2;have h3:rs[k].data.toList.length=rs[k].size:=(by simp);omega
       clear f;generalize hr:rs[k]=r at ae hlen aj;clear hr
       go_wp2_with(go_at_call 181;refine(N5 _ _ _ _ _ _ aw.out ?_ ?_).mono ?_;(omega);(omega);rintro e w2 ⟨rfl,y,E⟩)
       go_roundw
       case rel=>exact⟨k,by omega,rfl,by rw[aj.out];exact y,ai.out.trans E⟩
       case measure=>simp[intOf]
    case rest=>
     obtain⟨M,z⟩:=hcut;have bd:=Hq M;have ak:=Hq z;have bx:q.heap.size≤wc.heap.size:=z.size;have H:wc.heap[w.heap.size]? =some (.cells #[x.lsn,x.kind,x.link,.slice A rs.length c] 147 (0,0)):=by
      have hz:=s.out;rw[ak.out.block _ (by omega) (by omega)];exact HX.out
     have d0:wc.cell? ⟨w.heap.size,0,none⟩=some (.int .i64 x.lsn):=(by rw[Bv H];rfl);have d1:wc.cell? ⟨w.heap.size,1,none⟩=some (.int .i64 x.kind):=(by rw[Bv H];rfl);have d2:wc.cell? ⟨w.heap.size,2,none⟩=some (.int .i64 x.link):=(by rw[Bv H];rfl);have d3:wc.cell? ⟨w.heap.size,3,none⟩=some (.slice A rs.length c):=(by rw[Bv H];rfl);have bz:=Hq H;clear M z H c0 c1 c2 c3;obtain⟨wd,rfl⟩:=ex wc
     go_upto_region 20 with(fail)
     have bf:w.heap.size<wd.heap.size:=(by have:=s.out;omega);have bg:Bw wd wd:=Below.refl _ _;obtain⟨at_,an⟩:=ex (512-Pg.Aq rs:Nat);rw[← an];have ax:=Hq an;clear an;have z1:(Oct.Bj 0 4).size=4:=Oct.Bx 0 4 (by omega);have z2:(Oct.Bj x.lsn 6).size=6:=Oct.Bx x.lsn 6 (by omega);have z3:(Oct.Bj x.kind 1).size=1:=Oct.Bx x.kind 1 (by omega);have z4:(Oct.Bj 0 1).size=1:=Oct.Bx 0 1 (by omega);have z5:(Oct.Bj x.link 3).size=3:=Oct.Bx x.link 3 (by omega);have z6:(Oct.Bj rs.length 2).size=2:=Oct.Bx rs.length 2 (by omega);have z7:(Oct.Bj at_ 2).size=2:=Oct.Bx at_ 2 (by omega)
     go_cut [10] (fun bh we=>bh= .string (Oct.Bj 0 4++Oct.Bj x.lsn 6++Oct.Bj x.kind 1++Oct.Bj 0 1++Oct.Bj x.link 3++Oct.Bj rs.length 2++Oct.Bj at_ 2)∧Bw wd we)
     case first=>
      go_region_held3 (fun w'=>w'.cell? ⟨w.heap.size,0,none⟩=some (.int .i64 x.lsn)∧w'.cell? ⟨w.heap.size,1,none⟩=some (.int .i64 x.kind)∧w'.cell? ⟨w.heap.size,2,none⟩=some (.int .i64 x.link)∧w'.cell? ⟨w.heap.size,3,none⟩=some (.slice A rs.length c)∧Bw wd w') (first|assumption|exact⟨d0,d1,d2,d3,bg.drew⟩|go_keep) (first|(go_at_call 171;refine(pY _ _ (by omega) (by omega) w.heap.size _ _ _ _ wd _ bf (by assumption)).mono ?_;rintro e w1 ⟨rfl,hS⟩))
      go_wp2_with fail;go_meet
      case rel=>exact⟨rfl,hS.2.2.2.2⟩
     case rest=>
      obtain⟨rfl,N⟩:=hcut;have hz:=s.out;have bs:=N.size;have c6:W3.heap.size≤q.heap.size:=P.out.size;obtain⟨F,hF⟩:=ex (Oct.Bj 0 4++Oct.Bj x.lsn 6++Oct.Bj x.kind 1++Oct.Bj 0 1++Oct.Bj x.link 3++Oct.Bj rs.length 2++Oct.Bj at_ 2:ByteArray);have c7:F.size=19:=(by rw[hF];simp only[ByteArray.size_append,z1,z2,z3,z4,z5,z6,z7]);rw[← hF];obtain⟨S,hS⟩:=ex (⟨(Pg.C9 512 rs).toArray⟩:ByteArray);have c8:S.size≤4096:=(by rw[hS];show(Pg.C9 512 rs).toArray.size≤_;simp[Pg.Ew];omega);obtain⟨B,hB⟩:=ex (⟨(Pg.D5 rs).toArray⟩:ByteArray);have ca:B.size≤4096:=(by rw[hB];show(Pg.D5 rs).toArray.size≤_;simp[Pg.Fz];omega);obtain⟨room,O⟩:=ex (512-Pg.Bb rs:Nat);have t:=Y.out;have ay:(512:Int)-(Pg.Bb rs:Int)=(room:Int):=(by omega);have bj:room≤512:=(by omega);obtain⟨R,hR⟩:=ex (⟨(Lib.repeatL (⟨#[0]⟩:ByteArray).data.toList room).toArray⟩:ByteArray);have ao:R.data.toList=List.replicate room 0:=by
       rw[hR];have key:∀ n,Lib.repeatL (⟨#[0]⟩:ByteArray).data.toList n=List.replicate n 0:=fun n=>by
        induction n with
        |zero=>rfl
        |succ n ih=>rw[Lib.repeatL,ih];rfl
       rw[key]
      have cb:R.size=room:=by
       have:R.data.toList.length=R.size:=(by simp);rw[← this,ao,List.length_replicate]
      have b4:Pr W3.heap.size q.heap.size (w.heap.size+1) (Pg.C9 512 rs) wc:=((HD.out.later (Nat.le_refl _)).kept (fun k hk _=>ak.out.block k (by omega) (by omega))).below N;have bk:=Hq b4;have az:∀ W,Pr W3.heap.size q.heap.size (w.heap.size+1) (Pg.C9 512 rs) W→Cq 182 #[.pointer (some ⟨w.heap.size+1,0,none⟩)] W fun e w'=>e= .returned (.string S)∧Nf W3.heap.size q.heap.size W w':=fun W h=>by
       rw[hS];exact O1 _ _ _ _ W h
      have b0:∀ W,Pr q.heap.size wd.heap.size (w.heap.size+1+1) (Pg.D5 rs) W→Cq 182 #[.pointer (some ⟨w.heap.size+1+1,0,none⟩)] W fun e w'=>e= .returned (.string B)∧Nf q.heap.size wd.heap.size W w':=fun W h=>by
       rw[hB];exact O1 _ _ _ _ W h
      have b1:∀ W,Cr 183 #[.string ⟨#[0]⟩,.int .i64 (room:Int)] W (.string R):=fun W=>by
       rw[hR];exact Tryz.strings_Repeat ⟨#[0]⟩ room W (by omega) (by show 1*room≤_;omega)
      have bl:=Hq az;have b2:=Hq b0;have bm:=Hq b1;have HF:=Hq hF;have HS:=Hq hS;have bn:=Hq hB;have bo:=Hq ao;have bp:=Hq O;rw[ay];clear az b0 b1 hF hS hB ao hR ay O b4 z1 z2 z3 z4 z5 z6 z7 d0 d1 d2 d3;have bq:=Hq (show ∀ W V,Nf W3.heap.size q.heap.size wc W→Bw W V→Pr q.heap.size wd.heap.size (w.heap.size+1+1) (Pg.D5 rs) V from fun W V k1 k2=>
       ((bd.out.below N).kept (fun k hk cc=>k1.block k (by have:=N.size;omega) (by omega))).below k2)
      go_wp2_with(first|(go_at_call 182;(with_reducible refine(bl.out _ ?_).mono ?_);(exact bk.out);rintro e w1 ⟨rfl,U⟩)|(go_at_call 183;refine(bm.out _).mono ?_;rintro e w2 ⟨rfl,E⟩)|(go_at_call 182;(with_reducible refine(b2.out _ ?_).mono ?_);(exact bq.out _ _ U E);rintro e w3 ⟨rfl,ah⟩))
      go_ret;refine⟨Tk ?_,?_⟩
      ·rw[HL.out,Pg.Nh,if_neg Y.out]
       apply ByteArray.ext
       have e1:F.data.toList=Pg.M4 x rs.length (512-Pg.Aq rs):=by
        rw[HF.out,Pg.M4];simp only[ByteArray.data_append,Array.toList_append];have q1:(Oct.Bj 0 4).data.toList=Oct.Bp 0 4:=Oct.Ch 0 4 (by omega);have q4:(Oct.Bj 0 1).data.toList=Oct.Bp 0 1:=Oct.Ch 0 1 (by omega);obtain⟨y1,y2,y3⟩:=b3.out;have q2:(Oct.Bj x.lsn 6).data.toList=Oct.Bp x.lsn 6:=(Oct.Ch x.lsn 6 (by omega)).trans (by rw[Oct.El _ (by omega)]);have q3:(Oct.Bj x.kind 1).data.toList=Oct.Bp x.kind 1:=(Oct.Ch x.kind 1 (by omega)).trans (by rw[Oct.El _ (by omega)]);have q5:(Oct.Bj x.link 3).data.toList=Oct.Bp x.link 3:=(Oct.Ch x.link 3 (by omega)).trans (by rw[Oct.El _ (by omega)]);have q6:(Oct.Bj rs.length 2).data.toList=Oct.Bp rs.length 2:=(Oct.Ch rs.length 2 (by omega)).trans (by rw[Oct.El _ (by omega)]);have q7:(Oct.Bj at_ 2).data.toList=Oct.Bp (512-Pg.Aq rs) 2:=(Oct.Ch at_ 2 (by omega)).trans (by rw[Oct.El _ (by have:=ax.out;omega),ax.out]);rw[q1,q2,q3,q4,q5,q6,q7]
       have e2:S.data.toList=Pg.C9 512 rs:=(by rw[HS.out]);have e3:B.data.toList=Pg.D5 rs:=by rw[bn.out]
       apply Array.toList_inj.1
       simp only[ByteArray.data_append,Array.toList_append,e1,e2,e3,bo.out,bp.out]
      ·exact(((((aa.out.trans (P.out.below (by omega) (by omega))).trans (ak.out.below (by omega) (by omega))).trans (N.mono (by omega))).trans (U.below (by omega) (by omega))).trans (E.mono (by have:=U.size;omega))).trans (ah.below (by omega) (by have:=U.size;have:=E.size;omega))
theorem pZ (S:World→Prop)(a:∀ u v,S u→Bw u v→S v)(n size:Int)(b:0≤size)(c:size≤8)(w:World)(h:S w):
 Cq 83 #[n,size] w fun e w'=>e= .returned (.string (Oct.Bj n size))∧S w':=by
 refine(L0 n size b c w).mono ?_;rintro e w' ⟨rfl,d⟩;exact⟨rfl,a _ _ h d⟩
theorem Yh (A:Option Addr)(c:Nat)(rs:List ByteArray)(u:rs.length≤1099511627776)(w:World)(h:Cells w A c rs):
 Cq 105 #[.slice A rs.length c] w fun e w'=>e= .returned (.slice A (Pg.Ev rs rs.length) c)∧w=w':=by
 have p:=Hq h;clear h;go_enter Tryz.func105,Tryz.ntmps105;go_wp2_with fail
 go_loop [0] (fun v=>∃ m:Nat,m≤rs.length∧Pg.Ev rs m=Pg.Ev rs rs.length∧v= .slice A m c) (fun v=>match v with| .slice _ m _=>m|_=>0)
 case atStart=>exact⟨rs.length,Nat.le_refl _,rfl,rfl⟩
 case round=>
  obtain⟨m,x,o,rfl⟩:=hrel;have i:=Hq o;clear o
  by_cases q:m=0
  ·subst q
   go_wp2_with fail;go_ret;exact⟨by rw[← i.out];rfl,rfl⟩
  ·obtain⟨b,off,rfl,y,s,a⟩:=p.out.at_ (k:=m-1) (by omega)
   obtain⟨m,rfl⟩:∃ n,m=n+1:=⟨m-1,by omega⟩;simp only[Nat.add_sub_cancel]at a;have d:=Hk rs[m];have j:=Hq (show rs[m]?.getD ⟨#[]⟩=rs[m] by simp[show m<rs.length by omega]);generalize t:rs[m]=r at a d j;clear t
   by_cases f:r.size=0
   ·have g:r.toList.isEmpty=true:=by rw[d];exact decide_eq_true f
    clear d;have l:=Hq f;clear f;go_wp2_with fail
    go_round
    case rel=>exact⟨m,by omega,by rw[← i.out,Pg.Ev,j.out,if_pos l.out],rfl⟩
    case measure=>simp
   ·have g:r.toList.isEmpty=false:=by rw[d];exact decide_eq_false f
    clear d;have l:=Hq f;clear f;go_wp2_with fail;go_ret;exact⟨by rw[← i.out,Pg.Ev,j.out,if_neg l.out];rfl,rfl⟩
theorem lH (x:Pg.Dg)(A:Option Addr)(c:Nat)(rs:List ByteArray)(o:Pg.Bb rs≤1099511627776)(w:World)(h:Cells w A c rs):
 Cr 106 #[.agg #[x.lsn,x.kind,x.link,.slice A rs.length c]] w (.bool (decide (Pg.Bb rs≤512))):=by
 unfold Pg.Bb at o;have p:=Hq h;clear h;go_enter Tryz.func106,Tryz.ntmps106;go_wp2_with fail
 go_loop [3,4] (fun n i=>∃ k:Nat,k≤rs.length∧i= .int .i64 k∧n= .int .i64 ((19+4*rs.length+Pg.Aq (rs.take k):Nat):Int)) (fun _ i=>rs.length-(intOf i).toNat)
 case atStart=>exact⟨0,Nat.zero_le _,rfl,by simp[Pg.Aq]⟩
 case round=>
  obtain⟨k,t,rfl,rfl⟩:=hrel;have q:=Pg.Cs rs k
  by_cases e:k<rs.length
  ·obtain⟨b,off,rfl,u,f,a⟩:=p.out.at_ e
   have l:=Hq (Pg.Ja rs k e);have d:=Pg.Cs rs (k+1);have g:Pg.Aq (rs.take k)+rs[k].size≤Pg.Aq rs:=(by rw[← l.out];exact d);have j:(World.cell? (w.alloc (.cells #[x.lsn,x.kind,x.link,.slice (some ⟨b,off,none⟩) rs.length c] 90)) ⟨b,off+k,none⟩)=some (.string rs[k]):=by
    rw[World.cell?_alloc_lt _ _ _ f];exact a
   clear d;generalize m:rs[k]=r at a g j;have s:=Hq m;clear m;go_wp2_with fail
   go_round
   case rel=>exact⟨k+1,by omega,by go_num,by rw[l.out,s.out];go_num⟩
   case measure=>simp[intOf];omega
  ·obtain rfl:k=rs.length:=by omega
   go_wp2_with fail;go_ret;exact⟨congrArg (fun b=>Ending.returned (.bool b)) (by unfold Pg.Bb;rw[decide_eq_decide];omega),(Below.refl _ _).alloc (Nat.le_refl _) _⟩
theorem P0 (x:Pg.Dg)(A:Option Addr)(c:Nat)(rs:List ByteArray)(a:Pg.Bb rs≤1099511627776)(b:Bool)(d:decide (Pg.Bb rs≤512)=b)(w:World)(h:Cells w A c rs):
 Cr 106 #[.agg #[x.lsn,x.kind,x.link,.slice A rs.length c]] w (.bool b):=by
 subst d;exact lH x A c rs a w h
theorem Cells.take {w:World}{A:Option Addr}{c:Nat}{rs:List ByteArray}(h:Cells w A c rs)(m:Nat)(i:m≤rs.length):Cells w A c (rs.take m):=fun e=>by
 rw[List.length_take]at e;obtain⟨b,off,f,k,d,a⟩:=h (by omega);refine⟨b,off,f,by rw[List.length_take];omega,d,fun j g=>?_⟩;rw[List.getElem_take];exact a j (by rw[List.length_take]at g;omega)
theorem R9 (n:Nat)(e:n≤4096)(W:World):(Instr.makeSlice 141 (.int .i64 (n:Int)) (.int .i64 (n:Int))).run Tryz.prog W= .ok (.slice (some ⟨W.heap.size,0,none⟩) n n) (W.alloc (.cells (madeCells #[Value.int .u8 0] n) 5)):=by
 obtain⟨i0,d,a,b,c⟩:=info_parts Tryz.elem8;have h:=run_make (P:=Tryz.prog) W 141 5 i0 (.int .u8 0) Io d a .i64 .i64 n n (by omega) (by omega) (by rw[c];omega) (by omega);rw[b,Int.toNat_natCast,Nat.mul_one]at h;exact h
theorem Sa (n:Nat)(W:World):(convert 141 9 (.slice (some ⟨W.heap.size,0,none⟩) n n)).run Tryz.prog (W.alloc (.cells (madeCells #[Value.int .u8 0] n) 5))= .ok (.string ⟨(List.replicate n 0).toArray⟩) (W.alloc (.cells (madeCells #[Value.int .u8 0] n) 5)):=by
 have h:=run_convert_bytes_back (P:=Tryz.prog) (W.alloc (.cells (madeCells #[Value.int .u8 0] n) 5)) 141 9 5 ⟨W.heap.size,0,none⟩ n (List.replicate n 0) Io pG Ua (fun j b=>by
  have a:j<n:=by simpa using b
  have c:(⟨W.heap.size,0,none⟩:Addr).add j=⟨W.heap.size,j,none⟩:=by
   unfold Addr.add;split
   ·rename_i h;rw[h]
   ·simp
  rw[c,World.cell?_alloc_new]
  simp[madeCells,a,Nat.mod_one])
 rw[List.length_replicate]at h;exact h
theorem Nj (x:Pg.Dg)(A:Option Addr)(c:Nat)(z:Pg.Small x)(m:Pg.Bb x.recs≤1099511627776)(w:World)(h:Cells w A c x.recs):
 Cr 62 #[.agg #[x.lsn,x.kind,x.link,.slice A x.recs.length c]] w (.string ⟨(Pg.Dh x).toArray⟩):=by
 have af:=Hq z;clear z;have ag:x.recs.length≤1099511627776:=by unfold Pg.Bb at m;omega
 have hm:=Pg.Pv x.recs x.recs.length;have HL:=Hq (show Pg.Dh x=Pg.Nh x (x.recs.take (Pg.Ev x.recs x.recs.length))from rfl);have HC:=Hq (h.take _ hm);have HA:=Hq h;have G:Pg.Bb (x.recs.take (Pg.Ev x.recs x.recs.length))≤1099511627776:=by
  have:=Pg.Cs x.recs (Pg.Ev x.recs x.recs.length);unfold Pg.Bb at*;rw[List.length_take];omega
 have hlen:(x.recs.take (Pg.Ev x.recs x.recs.length)).length=Pg.Ev x.recs x.recs.length:=by rw[List.length_take];omega
 have HT:=Hq (fun W hW=>Yh A c x.recs ag W hW);rw[← hlen]at HT;generalize x.recs.take (Pg.Ev x.recs x.recs.length)=rs at HL HC G hlen HT;clear h m hm hlen
 by_cases d:512<Pg.Bb rs
 ·have H:=Hq (P0 x A c rs G false (decide_eq_false (by omega)))
  go_enter Tryz.func62,Tryz.ntmps62
  go_wp2_with(first|(go_at_call 105;refine(HT.out _ (HA.out.below ((Below.refl _ _).alloc (Nat.le_refl _) _))).mono ?_;rintro e w' ⟨rfl,rfl⟩)|(go_at_call 106;refine(H.out _ (HC.out.below ((Below.refl _ _).alloc (Nat.le_refl _) _))).mono ?_;rintro e w1 ⟨rfl,j⟩))
  go_ret;exact⟨Tk (by rw[HL.out,Pg.Nh,if_pos d]),((Below.refl _ _).alloc (Nat.le_refl _) _).trans (j.mono (by simp))⟩
 ·have H:=Hq (P0 x A c rs G true (decide_eq_true (by omega)))
  go_enter Tryz.func62,Tryz.ntmps62
  go_upto_block 0 with(first|(go_at_call 105;refine(HT.out _ (HA.out.below ((Below.refl _ _).alloc (Nat.le_refl _) _))).mono ?_;rintro e w' ⟨rfl,rfl⟩)|(go_at_call 106;refine(H.out _ (HC.out.below ((Below.refl _ _).alloc (Nat.le_refl _) _))).mono ?_;rintro e w1 ⟨rfl,j⟩))
  have ah:Pg.Aq rs≤512:=by unfold Pg.Bb at d;omega
  have ai:rs.length≤512:=by unfold Pg.Bb at d;omega
  have hX:w.heap.size<w1.heap.size:=by have:=j.size;simp at this;omega
  have X:Bw w w1:=((Below.refl _ _).alloc (Nat.le_refl _) _).trans (j.mono (by simp));have Y:w1.heap[w.heap.size]? =some (.cells #[x.lsn,x.kind,x.link,.slice A rs.length c] 90 (0,0)):=by
   rw[j.block _ (by simp)];exact heap_alloc_new w _
  have Z:=Hq X;have a1:=Hq Y;have C:=Hq d;clear j X Y d
  go_cut [3,4,5] (fun s3 s4 s5 wc=>s3= .int .i64 ((512-Pg.Aq rs:Nat):Int)∧s4= .string ⟨(Pg.C9 512 rs).toArray⟩∧s5= .string ⟨(Pg.D5 rs).toArray⟩∧Bw w1 wc)
  case first=>
   go_wp2_with fail
   go_loopw [3,4,5,6] (fun s3 s4 s5 i wr=>∃ (k a:Nat) (S B:ByteArray),k≤rs.length∧i= .int .i64 k∧s3= .int .i64 (a:Int)∧a=512-Pg.Aq (rs.take k)∧s4= .string S∧S.data.toList=Pg.C9 512 (rs.take k)∧s5= .string B∧B.data.toList=Pg.D5 (rs.take k)∧Bw w1 wr) (fun _ _ _ i _=>rs.length-(intOf i).toNat)
   case atStart=>exact⟨0,512,⟨#[]⟩,⟨#[]⟩,Nat.zero_le _,rfl,rfl,by simp[Pg.Aq],rfl,rfl,rfl,rfl,Below.refl _ _⟩
   case round=>
    obtain⟨k,a,S,B,hk,rfl,rfl,ha,rfl,D,rfl,E,f⟩:=hrel;have d3:wr.cell? ⟨w.heap.size,3,none⟩=some (.slice A rs.length c):=by
     have:wr.heap[w.heap.size]? =_:=(f.block _ hX).trans a1.out;rw[Bv this];rfl
    have aj:a≤512:=(by omega);have I:S.size≤4096:=by
     have J:S.data.toList.length=S.size:=(by simp);rw[D,Pg.Ew,List.length_take]at J;omega
    have ak:B.size≤512:=by
     have J:B.data.toList.length=B.size:=(by simp);have:=Pg.Cs rs k;rw[E,Pg.Fz]at J;omega
    have n:=Hq ha;have HS:=Hq D;have HB:=Hq E;have b0:=f.size;clear ha D E
    by_cases t:k<rs.length
    ·obtain⟨b,off,rfl,hc,an,o⟩:=HC.out.at_ t
     have a6:wr.cell? ⟨b,off+k,none⟩=some (.string rs[k]):=by
      rw[f.cell (p:=⟨b,off+k,none⟩) (by show b<_;omega),Z.out.cell (p:=⟨b,off+k,none⟩) an];exact o
     have y:=Hq (Pg.Ja rs k t);have K:=Hq (Pg.R5 rs k t);have L:=Hq (Pg.eM rs k t);have ao:rs[k].size≤a:=by
      have:=Pg.Cs rs (k+1);have:=y.out;have:=n.out;omega
     have q:=Hk rs[k];clear o;generalize hr:rs[k]=r at a6 q y K L ao;clear hr
     by_cases V:r.size=0
     ·have a7:r.toList.isEmpty=true:=by rw[q];exact decide_eq_true V
      clear q;have HE:=Hq V;clear V;have z0:(Oct.Bj 0 4).size=4:=Oct.Bx 0 4 (by omega)
      go_wp2_with(go_at_call 83;refine(L0 _ _ (by omega) (by omega) _).mono ?_;rintro e w2 ⟨rfl,M⟩)
      go_roundw
      case rel=>exact⟨k+1,a,_,B,by omega,by go_num,rfl,by rw[y.out,HE.out];exact n.out,rfl,by
       rw[K.out,Pg.Ng,if_pos HE.out,ByteArray.data_append,Array.toList_append,HS.out,show(Oct.Bj 0 4).data.toList=Oct.Bp 0 4 from Oct.Ch 0 4 (by omega)],rfl,by
       rw[L.out,HB.out,show r.data.toList=[]from List.eq_nil_of_length_eq_zero (by have h9:r.data.toList.length=r.size:=(by simp);rw[h9];exact HE.out)];rfl,andThen f M⟩
      case measure=>simp[intOf];omega
     ·have a7:r.toList.isEmpty=false:=by rw[q];exact decide_eq_false V
      clear q;have HE:=Hq V;clear V;obtain⟨a2,a8⟩:=ex (a-r.size:Nat);have aa:(a:Int)-(r.size:Int)=(a2:Int):=(by omega);have s:∀ u v:World,(u.cell? ⟨w.heap.size,3,none⟩=some (.slice (some ⟨b,off,none⟩) rs.length c)∧u.cell? ⟨b,off+k,none⟩=some (.string r)∧Bw w1 u)→Bw u v→(v.cell? ⟨w.heap.size,3,none⟩=some (.slice (some ⟨b,off,none⟩) rs.length c)∧v.cell? ⟨b,off+k,none⟩=some (.string r)∧Bw w1 v):=fun u v ⟨c1,c2,c3⟩ m=>by
       have:=c3.size;refine⟨?_,?_,andThen c3 m⟩
       ·rw[m.cell (p:=⟨w.heap.size,3,none⟩) (by show w.heap.size<_;omega)];exact c1
       ·rw[m.cell (p:=⟨b,off+k,none⟩) (by show b<_;omega)];exact c2
      have N:=Hq s;have b1:(0:Int)≤(k:Int):=(by omega);have b2:(k:Int)<(rs.length:Int):=(by omega);have z1:(Oct.Bj a2 2).size=2:=Oct.Bx a2 2 (by omega);have z2:(Oct.Bj r.size 2).size=2:=Oct.Bx r.size 2 (by omega);have O:=Hq a8;have aw:∀ W:World,(Op.stringOp .add S (Oct.Bj a2 2++Oct.Bj r.size 2)).run Tryz.prog W= .ok (.string (S++(Oct.Bj a2 2++Oct.Bj r.size 2))) W:=fun W=>run_string_add_sum W _ _ (by rw[ByteArray.size_append,z1,z2];omega);have P:r.size≤512:=(by omega);clear s a8
      go_upto_region 12 with(fail)
      clear aa
      go_region_held3 (fun w'=>w'.cell? ⟨w.heap.size,3,none⟩=some (.slice (some ⟨b,off,none⟩) rs.length c)∧w'.cell? ⟨b,off+k,none⟩=some (.string r)∧Bw w1 w') (first|assumption|exact⟨d3,a6,f.drew⟩|go_keep) (first|(go_at_call 83;refine(pZ _ N.out _ _ (by omega) (by omega) _ (by assumption)).mono ?_;rintro e w2 ⟨rfl,Q⟩))
      obtain⟨e1,e2,M⟩:=Q;go_wp2_with fail;go_roundw
      case rel=>
       refine⟨k+1,a2,_,_,by omega,by go_num,rfl,?_,rfl,?_,rfl,?_,M⟩
       ·rw[y.out,O.out,n.out];omega
       ·have q1:(Oct.Bj a2 2).data.toList=Oct.Bp a2 2:=(Oct.Ch a2 2 (by omega)).trans (by rw[Oct.El _ (by have:=O.out;omega)])
        have q2:(Oct.Bj r.size 2).data.toList=Oct.Bp r.size 2:=(Oct.Ch r.size 2 (by omega)).trans (by rw[Oct.El _ (by omega)]);simp only[ByteArray.data_append,Array.toList_append];rw[K.out,Pg.Ng,if_neg HE.out,HS.out,← n.out,q1,q2,O.out]
       ·simp only[ByteArray.data_append,Array.toList_append]
        rw[L.out,HB.out]
      case measure=>simp[intOf];omega
    ·obtain rfl:k=rs.length:=by omega
     have ad:=Hq (List.take_length (l:=rs));go_wp2_with fail;go_meet
     case rel=>
      have J:=HS.out;have h2:=HB.out;rw[ad.out]at J h2;exact⟨by rw[n.out,ad.out],by rw[← J],by rw[← h2],f⟩
  case rest=>
   obtain⟨rfl,rfl,rfl,f⟩:=hcut;obtain⟨wd,rfl⟩:=ex wc;obtain⟨S,D⟩:=ex (⟨(Pg.C9 512 rs).toArray⟩:ByteArray);obtain⟨B,E⟩:=ex (⟨(Pg.D5 rs).toArray⟩:ByteArray);obtain⟨at_,T⟩:=ex (512-Pg.Aq rs:Nat);rw[← D,← E,← T];have I:S.size=4*rs.length:=(by rw[D];show(Pg.C9 512 rs).toArray.size=_;simp[Pg.Ew]);have ak:B.size≤4096:=(by rw[E];show(Pg.D5 rs).toArray.size≤_;simp[Pg.Fz];omega);have z:wd.heap[w.heap.size]? =some (.cells #[x.lsn,x.kind,x.link,.slice A rs.length c] 90 (0,0)):=(f.block _ hX).trans a1.out;have d0:wd.cell? ⟨w.heap.size,0,none⟩=some (.int .i64 x.lsn):=(by rw[Bv z];rfl);have d1:wd.cell? ⟨w.heap.size,1,none⟩=some (.int .i64 x.kind):=(by rw[Bv z];rfl);have d2:wd.cell? ⟨w.heap.size,2,none⟩=some (.int .i64 x.link):=(by rw[Bv z];rfl);have d3:wd.cell? ⟨w.heap.size,3,none⟩=some (.slice A rs.length c):=(by rw[Bv z];rfl);have s:∀ u v:World,(u.cell? ⟨w.heap.size,0,none⟩=some (.int .i64 x.lsn)∧u.cell? ⟨w.heap.size,1,none⟩=some (.int .i64 x.kind)∧u.cell? ⟨w.heap.size,2,none⟩=some (.int .i64 x.link)∧u.cell? ⟨w.heap.size,3,none⟩=some (.slice A rs.length c)∧Bw w1 u)→Bw u v→(v.cell? ⟨w.heap.size,0,none⟩=some (.int .i64 x.lsn)∧v.cell? ⟨w.heap.size,1,none⟩=some (.int .i64 x.kind)∧v.cell? ⟨w.heap.size,2,none⟩=some (.int .i64 x.link)∧v.cell? ⟨w.heap.size,3,none⟩=some (.slice A rs.length c)∧Bw w1 v):=fun u v ⟨c0,c1,c2,c3,c4⟩ m=>by
    have:=c4.size;refine⟨?_,?_,?_,?_,andThen c4 m⟩
    ·rw[m.cell (p:=⟨w.heap.size,0,none⟩) (by show w.heap.size<_;omega)];exact c0
    ·rw[m.cell (p:=⟨w.heap.size,1,none⟩) (by show w.heap.size<_;omega)];exact c1
    ·rw[m.cell (p:=⟨w.heap.size,2,none⟩) (by show w.heap.size<_;omega)];exact c2
    ·rw[m.cell (p:=⟨w.heap.size,3,none⟩) (by show w.heap.size<_;omega)];exact c3
   have N:=Hq s;have z1:(Oct.Bj 0 4).size=4:=Oct.Bx 0 4 (by omega);have z2:(Oct.Bj x.lsn 6).size=6:=Oct.Bx x.lsn 6 (by omega);have z3:(Oct.Bj x.kind 1).size=1:=Oct.Bx x.kind 1 (by omega);have z4:(Oct.Bj 0 1).size=1:=Oct.Bx 0 1 (by omega);have z5:(Oct.Bj x.link 3).size=3:=Oct.Bx x.link 3 (by omega);have z6:(Oct.Bj rs.length 2).size=2:=Oct.Bx rs.length 2 (by omega);have z7:(Oct.Bj at_ 2).size=2:=Oct.Bx at_ 2 (by omega);have HS:=Hq D;have HB:=Hq E;have U:=Hq T;have aq:=Hq I;have ax:S.size≤4096:=(by omega);clear D E T s z I
   go_upto_region 14 with(fail)
   go_cut [7] (fun s7 we=>s7= .string (Oct.Bj 0 4++Oct.Bj x.lsn 6++Oct.Bj x.kind 1++Oct.Bj 0 1++Oct.Bj x.link 3++Oct.Bj rs.length 2++Oct.Bj at_ 2)∧Bw w1 we)
   case first=>
    go_region_held3 (fun w'=>w'.cell? ⟨w.heap.size,0,none⟩=some (.int .i64 x.lsn)∧w'.cell? ⟨w.heap.size,1,none⟩=some (.int .i64 x.kind)∧w'.cell? ⟨w.heap.size,2,none⟩=some (.int .i64 x.link)∧w'.cell? ⟨w.heap.size,3,none⟩=some (.slice A rs.length c)∧Bw w1 w') (first|assumption|exact⟨d0,d1,d2,d3,f.drew⟩|go_keep) (first|(go_at_call 83;refine(pZ _ N.out _ _ (by omega) (by omega) _ (by assumption)).mono ?_;rintro e w2 ⟨rfl,Q⟩))
    go_wp2_with fail;go_meet
    case rel=>exact⟨rfl,Q.2.2.2.2⟩
   case rest=>
    obtain⟨rfl,ae⟩:=hcut;obtain⟨F,hF⟩:=ex (Oct.Bj 0 4++Oct.Bj x.lsn 6++Oct.Bj x.kind 1++Oct.Bj 0 1++Oct.Bj x.link 3++Oct.Bj rs.length 2++Oct.Bj at_ 2:ByteArray);have b3:F.size=19:=(by rw[hF];simp only[ByteArray.size_append,z1,z2,z3,z4,z5,z6,z7]);rw[← hF];have d:=C.out;obtain⟨room,g⟩:=ex (512-Pg.Bb rs:Nat);have b4:(at_:Int)-19-(S.size:Int)=(room:Int):=by
     have J:=U.out;have h2:=aq.out;unfold Pg.Bb at g d;omega
    have P:room≤512:=(by omega);have ay:at_≤512:=(by have:=U.out;omega);have b5:=R9 room (by omega);have ar:=Sa room;obtain⟨R,hR⟩:=ex (⟨(List.replicate room 0).toArray⟩:ByteArray);rw[← hR]at ar;have au:R.size=room:=(by rw[hR];show(List.replicate room (0:UInt8)).toArray.size=_;simp);have az:R.size≤512:=(by omega);have HF:=Hq hF;have HR:=Hq hR;have av:=Hq g;clear hF hR g d au z1 z2 z3 z4 z5 z6 z7 d0 d1 d2 d3 f;go_wp2_with fail;go_ret;refine⟨Tk ?_,Z.out.trans ((ae.mono (by omega)).trans ((Below.refl _ _).alloc (by have:=ae.size;omega) _))⟩;rw[HL.out,Pg.Nh,if_neg C.out]
    apply ByteArray.ext
    have e1:F.data.toList=Pg.M4 x rs.length (512-Pg.Aq rs):=by
     rw[HF.out,Pg.M4];simp only[ByteArray.data_append,Array.toList_append];obtain⟨y1,y2,y3⟩:=af.out;have q1:(Oct.Bj 0 4).data.toList=Oct.Bp 0 4:=Oct.Ch 0 4 (by omega);have q4:(Oct.Bj 0 1).data.toList=Oct.Bp 0 1:=Oct.Ch 0 1 (by omega);have q2:(Oct.Bj x.lsn 6).data.toList=Oct.Bp x.lsn 6:=(Oct.Ch x.lsn 6 (by omega)).trans (by rw[Oct.El _ (by omega)]);have q3:(Oct.Bj x.kind 1).data.toList=Oct.Bp x.kind 1:=(Oct.Ch x.kind 1 (by omega)).trans (by rw[Oct.El _ (by omega)]);have q5:(Oct.Bj x.link 3).data.toList=Oct.Bp x.link 3:=(Oct.Ch x.link 3 (by omega)).trans (by rw[Oct.El _ (by omega)]);have q6:(Oct.Bj rs.length 2).data.toList=Oct.Bp rs.length 2:=(Oct.Ch rs.length 2 (by omega)).trans (by rw[Oct.El _ (by omega)]);have q7:(Oct.Bj at_ 2).data.toList=Oct.Bp (512-Pg.Aq rs) 2:=(Oct.Ch at_ 2 (by omega)).trans (by rw[Oct.El _ (by omega),U.out]);rw[q1,q2,q3,q4,q5,q6,q7]
    have e2:S.data.toList=Pg.C9 512 rs:=(by rw[HS.out]);have e3:B.data.toList=Pg.D5 rs:=(by rw[HB.out]);have e4:R.data.toList=List.replicate (512-Pg.Bb rs) 0:=by rw[HR.out,av.out]
    apply Array.toList_inj.1
    simp only[ByteArray.data_append,Array.toList_append,e1,e2,e3,e4]
theorem Sb (u:Nat)(h:u<281474976710656):Oct.intOf u=(u:Int):=by
 unfold Oct.intOf;rw[if_pos (by omega)]
theorem jI (s:List UInt8)(a k:Nat)(h:k≤6):Oct.Bq s a k<281474976710656:=by
 have b:=Oct.Hz ((s.drop a).take k);have c:256^((s.drop a).take k).length≤256^6:=Nat.pow_le_pow_right (by omega) (by rw[List.length_take];omega);unfold Oct.Bq;omega
theorem N8 (s:ByteArray)(a size:Int)(c:0≤a)(g:1≤size)(h:size≤6)(d:a+size≤s.size)(i:s.size≤1048576)(w:World):
 Cr 204 #[s,a,size] w (.int .i64 (Oct.Bq s.data.toList a.toNat size.toNat)):=by
 obtain⟨a,rfl⟩:=Int.eq_ofNat_of_zero_le c;obtain⟨k,rfl⟩:=Int.eq_ofNat_of_zero_le (show 0≤size by omega);have b:=Hq (fun W=>uE s a k (by omega) (by omega) (by omega) (by omega) W);rw[Sb _ (jI _ _ _ (by omega))]at b;go_enter Tryz.func204,Tryz.ntmps204
 go_wp2_with(go_at_call 227;refine(b.out _).mono ?_;rintro e w' ⟨rfl,f⟩)
 go_ret;exact⟨rfl,f⟩
theorem Kc (s:ByteArray)(a size:Int)(c:0≤a)(f:1≤size)(g:size≤6)(d:a+size≤s.size)(h:s.size≤1048576)(w:World):
 Cq 104 #[s,a,size] w fun e w'=>e= .returned (.int .i64 (Oct.Bq s.data.toList a.toNat size.toNat))∧w=w':=by
 obtain⟨a,rfl⟩:=Int.eq_ofNat_of_zero_le c;obtain⟨k,rfl⟩:=Int.eq_ofNat_of_zero_le (show 0≤size by omega);have b:=Hq (fun W=>Nb s a k (by omega) (by omega) (by omega) (by omega) W);rw[Sb _ (jI _ _ _ (by omega))]at b;go_enter Tryz.func104,Tryz.ntmps104
 go_wp2_with(go_at_call 100;refine(b.out _).mono ?_;rintro e w' ⟨rfl,rfl⟩)
 go_ret;exact⟨rfl,rfl⟩
theorem Dw {w:World}{b:Nat}{T:TypeId}{v0 v1 v2 v3:Value}(h:w.heap[b]? =some (.cells #[v0,v1,v2,v3] T (0,0))):
 w.cell? ⟨b,0,none⟩=some v0∧w.cell? ⟨b,1,none⟩=some v1∧w.cell? ⟨b,2,none⟩=some v2∧w.cell? ⟨b,3,none⟩=some v3∧
 w.frozen? ⟨b,0,none⟩=false∧w.frozen? ⟨b,1,none⟩=false∧w.frozen? ⟨b,2,none⟩=false∧w.frozen? ⟨b,3,none⟩=false:=by
 refine⟨by rw[Bv h];rfl,by rw[Bv h];rfl,by rw[Bv h];rfl,by rw[Bv h];rfl,?_,?_,?_,?_⟩<;>simp[World.frozen?,h]
theorem Cm {w w':World}{o:Obj}(a:Below (w.alloc o).heap.size (w.alloc o) w'):w'.heap[w.heap.size]? =some o:=
 (a.block _ (by simp)).trans (heap_alloc_new w _)
theorem Fk {w w':World}{b:Nat}{o:Obj}(h:w.heap[b]? =some o)(d:Bw w w'):w'.heap[b]? =some o:=by
 have a:b<w.heap.size:=by
  rcases Nat.lt_or_ge b w.heap.size with c|c
  ·exact c
  ·rw[Array.getElem?_eq_none c]at h;cases h
 rw[d.block b a];exact h
theorem aP {w w':World}{b:Nat}{o a:Obj}(h:w.heap[b]? =some o)(e:Below (w.alloc a).heap.size (w.alloc a) w'):w'.heap[b]? =some o:=by
 have c:b<w.heap.size:=by
  rcases Nat.lt_or_ge b w.heap.size with d|d
  ·exact d
  ·rw[Array.getElem?_eq_none d]at h;cases h
 rw[e.block b (by simp;omega),Below.heap_alloc w a b c];exact h
theorem Bd {w w':World}{o:Obj}(a:Below (w.alloc o).heap.size (w.alloc o) w'):Bw w w':=
 ((Below.refl _ _).alloc (Nat.le_refl _) _).trans (a.mono (by simp))
theorem Mn:(Tryz.prog.info? 9).map (fun i=>(i.zero,i.size,i.bytes))=some (some (.string ⟨#[]⟩),1,16):=by kernel_rfl
theorem Lt {w w':World}{B:Nat}{e:TypeId}{size n:Nat}{v:Value}{xs:List Value}(h:w.ownsRow B e size v n xs)(a:Bw w w'):w'.ownsRow B e size v n xs:=by
 refine⟨h.1,?_⟩;rcases h.2 with b|⟨g,cap,cur,c,d,f,r⟩
 ·exact .inl b
 ·exact .inr ⟨g,cap,cur,c,d,Fk f a,r⟩
theorem jJ {w:World}{b:Nat}(i:Nat){cs:Array Value}{T:TypeId}{fr:Nat×Nat}(h:w.heap[b]? =some (.cells cs T fr))(v:Value):(w.setCell ⟨b,i,none⟩ v).heap[b]? =some (.cells (cs.setIfInBounds i v) T fr):=by
 rw[setCell_eq_setRow w b i cs T fr v h];exact setRow_heap w b _ _ T _ h
theorem Sd {w:World}{B:Nat}{e:TypeId}{size n:Nat}{v:Value}{xs:List Value}(h:w.ownsRow B e size v n xs)(a:Addr)(u:Value)(i:a.block<B):(w.setCell a u).ownsRow B e size v n xs:=by
 refine⟨h.1,?_⟩;rcases h.2 with b|⟨g,cap,cur,c,d,f,r⟩
 ·exact .inl b
 ·exact .inr ⟨g,cap,cur,c,d,by rw[Below.heap_setCell _ _ _ _ (by omega)];exact f,r⟩
theorem Nk {w:World}{B:Nat}{e:TypeId}{size n:Nat}{v:Value}{xs:List Value}(h:w.ownsRow B e size v n xs)(o:Obj):(w.alloc o).drew.ownsRow B e size v n xs:=
 Lt h (((Below.refl _ _).alloc (Nat.le_refl _) o).drew)
theorem extract_eq (p:ByteArray)(a l:Nat):p.extract a (a+l)=⟨((p.data.toList.drop a).take l).toArray⟩:=by
 apply ByteArray.ext
 apply Array.ext'
 simp
def Bi (B:Nat)(w:World)(A:Option Addr)(c:Nat)(rs:List ByteArray):Prop:=
 0<rs.length→∃ b,A=some ⟨b,0,none⟩∧B≤b∧rs.length≤c∧b<w.heap.size∧∀ j (hj:j<rs.length),w.cell? ⟨b,j,none⟩=some (.string rs[j])
theorem Bi.cells {B:Nat}{w:World}{A:Option Addr}{c:Nat}{rs:List ByteArray}(h:Bi B w A c rs):Cells w A c rs:=fun e=>by
 obtain⟨b,f,k,g,d,a⟩:=h e;exact⟨b,0,f,g,d,fun j i=>by rw[Nat.zero_add];exact a j i⟩
theorem Bi.set {B:Nat}{w:World}{A:Option Addr}{c:Nat}{rs:List ByteArray}(h:Bi B w A c rs)(a:Addr)(m:a.block<B)(u:Value):Bi B (w.setCell a u) A c rs:=fun f=>by
 obtain⟨b,g,i,k,e,d⟩:=h f;refine⟨b,g,i,k,by simpa using e,fun j l=>?_⟩;rw[← d j l];exact World.cell?_of_block (Below.heap_setCell _ _ _ _ (by simp;omega))
theorem Bi.mono {B a:Nat}{w:World}{A:Option Addr}{c:Nat}{rs:List ByteArray}(h:Bi B w A c rs)(g:a≤B):Bi a w A c rs:=fun d=>by
 obtain⟨b,e,i,f⟩:=h d;exact⟨b,e,by omega,f⟩
theorem Bi.below {B:Nat}{w w':World}{A:Option Addr}{c:Nat}{rs:List ByteArray}(h:Bi B w A c rs)(a:Bw w w'):Bi B w' A c rs:=fun e=>by
 obtain⟨b,f,g,i,d,k⟩:=h e;refine⟨b,f,g,i,Nat.lt_of_lt_of_le d a.size,fun j l=>?_⟩;rw[a.cell (p:=⟨b,j,none⟩) d];exact k j l
theorem L4 {w:World}{B:Nat}{e:TypeId}{A:Option Addr}{k c:Nat}{rs:List ByteArray}(h:w.ownsRow B e 1 (.slice A k c) k (rs.map Value.string))(p:rs.length=k):Bi B w A c rs:=fun q=>by
 rcases h.2 with⟨f,-⟩|⟨g,cap,cur,i,l,b,r,s,t,m⟩
 ·simp at f;omega
 ·have a:A=some ⟨g,0,none⟩∧c=cap:=by simpa using i
  obtain⟨rfl,rfl⟩:=a;refine⟨g,rfl,l,by omega,(Array.getElem?_eq_some_iff.1 b).1,fun j n=>?_⟩;have o:cur.toList[j]? =some (.string rs[j]):=by
   have d:(rs.map Value.string)[j]? =some (.string rs[j]):=(by simp[n]);rw[← m,List.getElem?_take_of_lt (by omega)]at d;exact d
  rw[Bv b]
  simpa using o
abbrev Gi (x:Pg.Dg)(A:Option Addr)(c:Nat):Value:=.agg #[x.lsn,x.kind,x.link,.slice A x.recs.length c]
abbrev zeroV:Value:=.agg #[(),(),(),'s']
def Q8 (r:Option Pg.Dg)(w:World)(e:Ending)(w':World):Prop:=
 (match r with
   |some x=>∃ A c,e= .returned (.tuple #[Gi x A c,true])∧Bi w.heap.size w' A c x.recs
   |none=>e= .returned (.tuple #[zeroV,false]))∧Bw w w'
theorem qA (p:ByteArray)(_hm:p.size≤140737488355328)(w:World):
 Cq 170 #[p] w (Q8 (Pg.rd p.data.toList) w):=by
 by_cases a6:p.size=512
 ·have HL:=Hq (show p.data.toList.length=512 by have h9:p.data.toList.length=p.size:=(by simp);omega)
  obtain⟨G,y⟩:=ex (Oct.Bq p.data.toList 4 6);obtain⟨kind,l⟩:=ex (Oct.Bq p.data.toList 10 1);obtain⟨link,m⟩:=ex (Oct.Bq p.data.toList 12 3);obtain⟨n,hn⟩:=ex (Oct.Bq p.data.toList 15 2);have H:=Hq (fun W=>N8 p 4 6 (by omega) (by omega) (by omega) (by omega) (by omega) W);have I:=Hq (fun W=>N8 p 10 1 (by omega) (by omega) (by omega) (by omega) (by omega) W);have J:=Hq (fun W=>N8 p 12 3 (by omega) (by omega) (by omega) (by omega) (by omega) W);have K:=Hq (fun W=>N8 p 15 2 (by omega) (by omega) (by omega) (by omega) (by omega) W);rw[show((4:Int).toNat)=4 from rfl,show((6:Int).toNat)=6 from rfl,← y]at H;rw[show((10:Int).toNat)=10 from rfl,show((1:Int).toNat)=1 from rfl,← l]at I;rw[show((12:Int).toNat)=12 from rfl,show((3:Int).toNat)=3 from rfl,← m]at J;rw[show((15:Int).toNat)=15 from rfl,show((2:Int).toNat)=2 from rfl,← hn]at K;have ae:=Hq y;have L:=Hq l;have af:=Hq m;have M:=Hq hn;clear y l m hn
  by_cases a:4<kind∨123<n
  ·have HR:=Hq (show Pg.rd p.data.toList=none by rw[Pg.rd,if_pos (by rw[← L.out,← M.out];exact .inr a)])
   have d:4<kind∨(kind≤4∧123<n):=(by omega);clear a;rcases d with N|⟨N,Z⟩
   all_goals
    go_enter Tryz.func170,Tryz.ntmps170
    go_wp2_with(first|(go_at_call 204;(with_reducible refine(H.out _).mono ?_);rintro e w1 ⟨rfl,d⟩)|(go_at_call 204;(with_reducible refine(I.out _).mono ?_);rintro e w2 ⟨rfl,q⟩)|(go_at_call 204;(with_reducible refine(J.out _).mono ?_);rintro e w3 ⟨rfl,r⟩)|(go_at_call 204;(with_reducible refine(K.out _).mono ?_);rintro e w4 ⟨rfl,g⟩;obtain⟨a0,a1,a2,a3,-⟩:=Dw (Cm g);obtain⟨c0,c1,c2,c3,f0,f1,f2,f3⟩:=Dw (aP (Fk (Fk (Cm d) q) r) g)))
    refine bodyPost_ret (v:=.tuple #[zeroV,false]) (by simp[results,Tryz.results170,go_sem,c0,c1,c2,c3]) rfl ?_;unfold Q8;rw[HR.out];have s:Bw w w4:=andThen (andThen (andThen (Bd d) q) r) (Bd g);refine⟨rfl,?_⟩
    repeat (first|exact s|refine Below.setCell ?_ (by simp) _)
  ·obtain⟨b1,ag⟩:kind≤4∧n≤123:=by omega
   have a7:=Hq (show Pg.rd p.data.toList=(Pg.Ei p.data.toList n).map fun rs=>⟨G,kind,link,rs⟩ by
    rw[Pg.rd,if_neg (by rw[← L.out,← M.out];have:=HL.out;omega),← ae.out,← L.out,← af.out,← M.out])
   clear a;go_enter Tryz.func170,Tryz.ntmps170
   go_upto_block 0 with(first|(go_at_call 204;(with_reducible refine(H.out _).mono ?_);rintro e w1 ⟨rfl,d⟩)|(go_at_call 204;(with_reducible refine(I.out _).mono ?_);rintro e w2 ⟨rfl,q⟩)|(go_at_call 204;(with_reducible refine(J.out _).mono ?_);rintro e w3 ⟨rfl,r⟩)|(go_at_call 204;(with_reducible refine(K.out _).mono ?_);rintro e w4 ⟨rfl,g⟩;obtain⟨a0,a1,a2,a3,-⟩:=Dw (Cm g)))
   have O:=Cm g;have hZ:=aP (Fk (Fk (Cm d) q) r) g;have s:Bw w w4:=andThen (andThen (andThen (Bd d) q) r) (Bd g);have ah:w.heap.size<w3.heap.size:=by
    have:=d.size;have:=q.size;have:=r.size;simp at*;omega
   have x:w3.heap.size<w4.heap.size:=(by have:=g.size;simp at this;omega);clear d q r g a0 a1 a2 a3;generalize w3.heap.size=X at O ah x ⊢;have HX:=Hq O;have HZ:=Hq hZ;have HW:=Hq s;clear O hZ s;go_wp2_with fail
   go_loopw [31] (fun i wr=>∃ (k:Nat) (rs:List ByteArray) (A:Option Addr) (c:Nat),k≤n∧i= .int .i64 k∧Pg.Ei p.data.toList k=some rs∧wr.heap[X]? =some (.cells #[G,kind,link,.slice A k c] 147 (0,0))∧wr.heap[w.heap.size]? =some (.cells #[(),(),(),'s'] 147 (0,0))∧wr.ownsRow w4.heap.size 9 1 (.slice A k c) k (rs.map Value.string)∧Bw w wr∧w4.heap.size≤wr.heap.size) (fun i _=>n-(intOf i).toNat)
   case atStart=>exact⟨0,[],none,0,Nat.zero_le _,rfl,rfl,HX.out,HZ.out,⟨rfl,.inl ⟨rfl,rfl⟩⟩,HW.out,Nat.le_refl _⟩
   case round=>
    obtain⟨k,rs,A,c,hk,rfl,P,O,hZ,F,s,b2⟩:=hrel;have a8:=Pg.Jb _ _ _ P;have Q:=Hq P;have R:=Hq O;have S:=Hq hZ;have HO:=Hq F;have T:=Hq s;have aa:=Hq a8;clear P O hZ F s a8
    by_cases b3:k<n
    ·obtain⟨at_,D⟩:=ex (Oct.Bq p.data.toList (19+4*k) 2)
     obtain⟨long,j⟩:=ex (Oct.Bq p.data.toList (21+4*k) 2);have b4:at_<65536:=by
      have N:=Oct.Hz ((p.data.toList.drop (19+4*k)).take 2);have Z:256^((p.data.toList.drop (19+4*k)).take 2).length≤256^2:=Nat.pow_le_pow_right (by omega) (by rw[List.length_take];omega);rw[D];unfold Oct.Bq;omega
     have b5:long<65536:=by
      have N:=Oct.Hz ((p.data.toList.drop (21+4*k)).take 2);have Z:256^((p.data.toList.drop (21+4*k)).take 2).length≤256^2:=Nat.pow_le_pow_right (by omega) (by rw[List.length_take];omega);rw[j];unfold Oct.Bq;omega
     have HA:=Hq (fun W=>N8 p (19+4*(k:Int)) 2 (by omega) (by omega) (by omega) (by omega) (by omega) W);have HB:=Hq (fun W=>N8 p (19+4*(k:Int)+2) 2 (by omega) (by omega) (by omega) (by omega) (by omega) W);rw[show(19+4*(k:Int)).toNat=19+4*k by omega,show((2:Int).toNat)=2 from rfl,← D]at HA;rw[show(19+4*(k:Int)+2).toNat=21+4*k by omega,show((2:Int).toNat)=2 from rfl,← j]at HB;have U:=Hq D;have V:=Hq j;clear D j
     by_cases a:400<long∨512<at_+long
     ·have HN:=Hq (show Pg.rd p.data.toList=none by
       have N:Pg.Ei p.data.toList (k+1)=none:=by
        simp only[Pg.Ei,Q.out];rw[if_pos (by rw[← U.out,← V.out];exact a)]
       have Z:=Pg.R7 _ N (n-(k+1));rw[show k+1+(n-(k+1))=n by omega]at Z;rw[a7.out,Z];rfl)
      have d:400<long∨(long≤400∧(512:Int)-(long:Int)<(at_:Int)):=(by omega);clear a;rcases d with N|⟨N,Z⟩
      all_goals
       go_wp2_with(first|(go_at_call 204;(with_reducible refine(HA.out _).mono ?_);rintro e w5 ⟨rfl,z⟩)|(go_at_call 204;(with_reducible refine(HB.out _).mono ?_);rintro e w6 ⟨rfl,C⟩;obtain⟨c0,c1,c2,c3,f0,f1,f2,f3⟩:=Dw (Fk (Fk S.out z) C)))
       refine bodyPost_ret (v:=.tuple #[zeroV,false]) (by simp[results,Tryz.results170,go_sem,c0,c1,c2,c3]) rfl ?_;unfold Q8;rw[HN.out];have ad:Bw w w6:=andThen (andThen T.out z) C;refine⟨rfl,?_⟩
       repeat (first|exact ad|refine Below.setCell ?_ (by simp) _)
     ·obtain⟨b6,ay⟩:long≤400∧at_+long≤512:=by omega
      clear a
      go_upto_region 13 with(first|(go_at_call 204;(with_reducible refine(HA.out _).mono ?_);rintro e w5 ⟨rfl,z⟩)|(go_at_call 204;(with_reducible refine(HB.out _).mono ?_);rintro e w6 ⟨rfl,C⟩))
      obtain⟨i0,ai,aj,ak,an⟩:=info_parts Mn;have h:Bw wr w6:=andThen z C;have E:=Fk R.out h;have ao:=Fk S.out h;have u:w6.ownsRow w4.heap.size 9 1 (.slice A k c) k (rs.map Value.string):=Lt HO.out h;have aq:Bw w w6:=andThen T.out h;have b7:=h.size;obtain⟨x0,x1,x2,x3,g0,g1,g2,g3⟩:=Dw E;have b8:(0:Int)≤(at_:Int):=(by omega);have b9:(at_:Int)≤(at_:Int)+(long:Int):=(by omega);have ba:(at_:Int)+(long:Int)≤512:=(by omega);have bb:IntKind.i64.wrap ((at_:Int)+(long:Int))=(at_:Int)+(long:Int):=IntWalk.i64_in _ (by omega);have bc:((at_:Int)+(long:Int)).toNat=at_+long:=(by omega);have bd:0≤(at_:Int)+(long:Int):=(by omega);have bf:at_≤at_+long:=(by omega);have bg:at_+long≤p.size:=(by omega);clear z C h;have HF:=Hq (show ∀ w7:World,((w6.alloc (.cells #[.string (p.extract at_ (at_+long))] 9)).drew).grownBy w7 (Value.slice A k c).ownBlock→∀ (b:Nat) (o:Obj),b<w4.heap.size→w6.heap[b]? =some o→w7.heap[b]? =some o by
       intro w7 hg b o hb ho;rw[hg.block b (by simp;omega) (fun e9=>absurd (u.lt b e9.symm).1 (by omega))];exact(Below.heap_alloc w6 _ b (by omega)).trans ho)
      obtain⟨-,-,-,z3,-⟩:=Dw ((Below.heap_alloc w6 (.cells #[.string (p.extract at_ (at_+long))] 9) X (by omega)).trans E)
      go_region_law? (refine step_append_lies _ (by rfl) _ _ _ (by rfl) w4.heap.size 9 i0 (.string ⟨#[]⟩) 1 16 aC ai aj ak an rfl (by omega) (.slice A k c) k (rs.map Value.string) (by rfl) (Nk u _) ⟨w6.heap.size,0,none⟩ 1 1 [.string (p.extract at_ (at_+long))] (by rfl) (by rfl) (World.news_of_block (cs:=#[.string (p.extract at_ (at_+long))]) (t:=9) (fr:=(0,0)) (heap_alloc_new w6 _)) (by simp[Value.oneCell']) (by omega) (by simp[maxLen];omega) (by omega) (by simp;omega) (w6.heap.size+1) (by simp) ?_;intro gg cap w7 Y f az b0;obtain⟨y0,y1,y2,y3,k0,k1,k2,k3⟩:=Dw (HF.out w7 f X _ x E))
      all_goals
       have ar:=HF.out w7 f X _ x E;have au:=HF.out w7 f w.heap.size _ (by omega) ao;have av:Bw w w7:=((aq.alloc (by omega) _).drew).grown f (by simp;omega) (fun k9 e9=>by have:=(u.lt k9 e9).1;omega);have bh:w6.heap.size+1≤w7.heap.size:=(by have:=f.size;simp at this;omega);go_wp2_with fail;go_roundw
       case rel=>
        refine⟨k+1,rs++[p.extract at_ (at_+long)],some ⟨gg,0,none⟩,cap,by omega,by go_num,?_,?_,?_,?_,?_,?_⟩
        ·simp only[Pg.Ei,Q.out]
         rw[if_neg (by rw[← U.out,← V.out];omega),← U.out,← V.out];rw[extract_eq]
        ·have:=jJ 3 ar (.slice (some ⟨gg,0,none⟩) (k+1) cap)
         simpa using this
        ·rw[Below.heap_setCell _ _ _ _ (by simp;omega)];exact au
        ·have:=Sd Y ⟨X,3,none⟩ (.slice (some ⟨gg,0,none⟩) (k+1) cap) x
         simpa using this
        ·exact av.setCell (by simp;omega) _
        ·simp;omega
       case measure=>simp[intOf];omega
    ·obtain rfl:k=n:=by omega
     have O:=R.out;obtain⟨x0,x1,x2,x3,-⟩:=Dw R.out;obtain⟨c0,c1,c2,c3,f0,f1,f2,f3⟩:=Dw S.out;have aw:X≠w.heap.size:=(by omega);go_wp2_with fail;refine bodyPost_ret (v:=.tuple #[Gi ⟨G,kind,link,rs⟩ A c,true]) (by simp[results,Tryz.results170,go_sem,c0,c1,c2,c3];exact aa.out.symm) rfl ?_;unfold Q8;rw[a7.out,Q.out];have hlen:=aa.out;have ax:=L4 HO.out hlen;refine⟨⟨A,c,by simp[Gi,hlen],?_⟩,?_⟩
     ·refine Bi.mono (B:=w4.heap.size) ?_ (by omega)
      repeat (first|exact ax|refine Bi.set ?_ _ (by simp;omega) _)
     ·repeat (first|exact T.out|refine Below.setCell ?_ (by simp) _)
 ·have aw:((p.size:Int)==512)=false:=by simp;omega
  have HR:=Hq (show Pg.rd p.data.toList=none by
   rw[Pg.rd,if_pos (.inl (by have h9:p.data.toList.length=p.size:=(by simp);omega))])
  clear a6;go_enter Tryz.func170,Tryz.ntmps170;go_wp2_with fail;refine bodyPost_ret (v:=.tuple #[zeroV,false]) (by simp[results,Tryz.results170,go_sem]) rfl ?_;unfold Q8;rw[HR.out];exact⟨rfl,(Below.refl _ _).alloc (Nat.le_refl _) _⟩
abbrev O5 (X:Nat)(x:Pg.Dg)(A:Option Addr)(c:Nat)(w0 u:World):Prop:=
 u.cell? ⟨X,0,none⟩=some (.int .i64 x.lsn)∧u.cell? ⟨X,1,none⟩=some (.int .i64 x.kind)∧u.cell? ⟨X,2,none⟩=some (.int .i64 x.link)∧u.cell? ⟨X,3,none⟩=some (.slice A x.recs.length c)∧Cells u A c x.recs∧X<u.heap.size∧Bw w0 u
theorem O5.step {X:Nat}{x:Pg.Dg}{A:Option Addr}{c:Nat}{d u v:World}(h:O5 X x A c d u)(a:Bw u v):O5 X x A c d v:=by
 obtain⟨c0,c1,c2,c3,e,b,f⟩:=h;have:=a.size;refine⟨?_,?_,?_,?_,e.below a,by omega,andThen f a⟩
 ·rw[a.cell (p:=⟨X,0,none⟩) b];exact c0
 ·rw[a.cell (p:=⟨X,1,none⟩) b];exact c1
 ·rw[a.cell (p:=⟨X,2,none⟩) b];exact c2
 ·rw[a.cell (p:=⟨X,3,none⟩) b];exact c3
theorem O5.drew {X:Nat}{x:Pg.Dg}{A:Option Addr}{c:Nat}{a u:World}(h:O5 X x A c a u):O5 X x A c a u.drew:=h.step (Below.refl _ _).drew
theorem below_drewN (w:World)(n:Nat):Bw w (w.drewN n):=⟨rfl,rfl,rfl,Nat.le_refl _,fun _ _=>rfl⟩
theorem lI (n size:Int)(b:0≤size)(d:size≤8)(X:Nat)(x:Pg.Dg)(A:Option Addr)(c:Nat)(a u:World)(h:O5 X x A c a u):
 Cq 171 #[n,size] u fun e w'=>e= .returned (.string (Oct.Bj n size))∧O5 X x A c a w':=
 (I9 n size b d u).mono fun _ _ ⟨f,g⟩=>⟨f,h.step g⟩
theorem eQ (x:Pg.Dg)(A:Option Addr)(c:Nat)(a:Pg.Pz x)(X:Nat)(b u:World)(h:O5 X x A c b u):
 Cq 125 #[.agg #[x.lsn,x.kind,x.link,.slice A x.recs.length c]] u fun e w'=>e= .returned (.string ⟨(Pg.Dh x).toArray⟩)∧O5 X x A c b w':=
 (Ni x A c a.small (by have:=a.Bb;omega) u h.2.2.2.2.1).mono fun _ _ ⟨d,f⟩=>⟨d,h.step f⟩
theorem qB (p:ByteArray)(E:p.size≤140737488355328)(w:World):
 Cq 122 #[p] w (Q8 (Pg.right p.data.toList) w):=by
 have q:=Hq (fun W=>qA p E W);rcases l:Pg.rd p.data.toList with _|x
 ·rw[l]at q
  rw[Pg.Jd l];go_enter Tryz.func122,Tryz.ntmps122
  go_upto_region 2 with(first|(go_at_call 170;(with_reducible refine(q.out _).mono ?_);rintro e a ⟨rfl,d⟩))
  have r:w.heap.size<a.heap.size:=by have:=d.size;simp at this;omega
  have i:=Bd d;have j:=Cm d;clear d;have t:=Hq (show O5 a.heap.size Pg.zero none 0 (a.alloc (.cells #[(),(),(),'s'] 147)) (a.alloc (.cells #[(),(),(),'s'] 147)) by
   obtain⟨a0,u,a2,a3,-⟩:=Dw (heap_alloc_new a (.cells #[(),(),(),'s'] 147));exact⟨a0,u,a2,a3,fun F=>by simp[Pg.zero]at F,by simp,Below.refl _ _⟩)
  go_cut [21] (fun s m=>s= .bool true∧O5 a.heap.size Pg.zero none 0 (a.alloc (.cells #[(),(),(),'s'] 147)) m)
  case first=>
   go_quiet (fail)
   go_wp2_with fail;go_meet
   case rel=>exact⟨rfl,t.out.step (below_drewN _ _)⟩
  case rest=>
   obtain⟨rfl,k⟩:=hcut;have g:=andThen (Bd (k.2.2.2.2.2.2)) (Below.refl _ _);obtain⟨c0,c1,c2,c3,f0,f1,f2,f3⟩:=Dw (Fk j g);go_wp2_with fail;refine bodyPost_ret (v:=.tuple #[zeroV,false]) (by simp[results,Tryz.results122,go_sem,c0,c1,c2,c3]) rfl ?_;have f:=andThen i g;refine⟨rfl,?_⟩
   repeat (first|exact f|refine Below.setCell ?_ (by simp) _)
 ·rw[l]at q
  obtain⟨C,n⟩:=Pg.Tj l;have G:p.size=512:=by have H:p.data.toList.length=p.size:=(by simp);omega
  rw[Pg.Ue l];have I:=Hq C;clear l C n;have h:(Pg.Dh x==(Oct.Bj 0 4++p.extract 4 512).toList)=decide (Pg.Dh x=Oct.Bp 0 4++p.data.toList.drop 4):=by
   have J:(Oct.Bj 0 4++p.extract 4 512).data.toList=Oct.Bp 0 4++p.data.toList.drop 4:=by
    rw[ByteArray.data_append,Array.toList_append,show(Oct.Bj 0 4).data.toList=Oct.Bp 0 4 from Oct.Ch 0 4 (by omega)]
    congr 1
    rw[show 512=4+508 from rfl,extract_eq];exact List.take_of_length_le (by have H:p.data.toList.length=p.size:=(by simp);rw[List.length_drop];omega)
   rw[ByteArray.toList_eq,J];exact Bool.beq_eq_decide_eq _ _
  generalize decide (Pg.Dh x=Oct.Bp 0 4++p.data.toList.drop 4)=b at h ⊢;have y:=Hq h;have K:(Oct.Bj 0 4).size=4:=Oct.Bx 0 4 (by omega);have L:(p.extract 4 p.size).size=508:=by simp;omega
  have M:4≤p.size:=by omega
  clear h;go_enter Tryz.func122,Tryz.ntmps122
  go_upto_region 2 with(first|(go_at_call 170;(with_reducible refine(q.out _).mono ?_);rintro e a ⟨⟨A,c,rfl,o⟩,d⟩))
  have r:w.heap.size<a.heap.size:=by have:=d.size;simp at this;omega
  have i:=Bd d;have j:=Cm d;clear d;have t:=Hq (show O5 a.heap.size x A c (a.alloc (.cells #[x.lsn,x.kind,x.link,.slice A x.recs.length c] 147)) (a.alloc (.cells #[x.lsn,x.kind,x.link,.slice A x.recs.length c] 147)) by
   obtain⟨a0,u,a2,a3,-⟩:=Dw (heap_alloc_new a (.cells #[x.lsn,x.kind,x.link,.slice A x.recs.length c] 147));exact⟨a0,u,a2,a3,(o.below ((Below.refl _ _).alloc (Nat.le_refl _) _)).cells,by simp,Below.refl _ _⟩)
  go_cut [21] (fun s m=>s= .bool (!b)∧O5 a.heap.size x A c (a.alloc (.cells #[x.lsn,x.kind,x.link,.slice A x.recs.length c] 147)) m)
  case first=>
   go_region_held3 (fun m=>O5 a.heap.size x A c (a.alloc (.cells #[x.lsn,x.kind,x.link,.slice A x.recs.length c] 147)) m) (first|assumption|exact t.out.drew) (first|(go_at_call 125;refine(eQ x A c I.out _ _ _ (by assumption)).mono ?_;rintro e a ⟨rfl,k⟩)|(go_at_call 171;refine(lI _ _ (by omega) (by omega) _ _ _ _ _ _ (by assumption)).mono ?_;rintro e a ⟨rfl,k⟩))
   go_wp2_with fail;go_meet
   case rel=>exact⟨congrArg (fun z=>Value.bool (!z)) y.out,k⟩
  case rest=>
   obtain⟨rfl,k⟩:=hcut;have g:=Bd (k.2.2.2.2.2.2);obtain⟨c0,c1,c2,c3,f0,f1,f2,f3⟩:=Dw (Fk j g);have f:=andThen i g;obtain⟨O,P,Q,R,D,-,-⟩:=k;have N:a.heap.size≠w.heap.size:=by omega
   cases b
   ·go_wp2_with fail
    refine bodyPost_ret (v:=.tuple #[zeroV,false]) (by simp[results,Tryz.results122,go_sem,c0,c1,c2,c3]) rfl ?_;refine⟨rfl,?_⟩
    repeat (first|exact f|refine Below.setCell ?_ (by simp) _)
   ·go_wp2_with fail
    refine bodyPost_ret (v:=.tuple #[Gi x A c,true]) (by simp[results,Tryz.results122,go_sem,c0,c1,c2,c3]) rfl ?_;refine⟨⟨A,c,rfl,?_⟩,?_⟩
    ·refine Bi.mono (B:=w.heap.size+1) ?_ (by omega)
     repeat (first|exact(o.below g).mono (by simp)|refine Bi.set ?_ _ (by simp) _)
    ·repeat (first|exact f|refine Below.setCell ?_ (by simp) _)
def Q9 (r:Option Pg.Dg)(w:World)(e:Ending)(w':World):Prop:=
 (match r with
   |some x=>∃ A c,e= .returned (.tuple #[Gi x A c,true])∧Bi w.heap.size w' A c x.recs
   |none=>∃ (x:Pg.Dg) (A:Option Addr) (c:Nat),e= .returned (.tuple #[Gi x A c,false]))∧Bw w w'
theorem eR (p:ByteArray)(_hm:p.size≤140737488355328)(w:World):
 Cq 61 #[p] w (Q9 (Pg.right p.data.toList) w):=by
 by_cases a1:p.size=512
 ·have HL:=Hq (show p.data.toList.length=512 by have h9:p.data.toList.length=p.size:=(by simp);omega)
  obtain⟨a,m⟩:=ex (Oct.Bq p.data.toList 4 6);obtain⟨kind,h⟩:=ex (Oct.Bq p.data.toList 10 1);obtain⟨link,j⟩:=ex (Oct.Bq p.data.toList 12 3);obtain⟨n,hn⟩:=ex (Oct.Bq p.data.toList 15 2);have H:=Hq (fun W=>Kc p 4 6 (by omega) (by omega) (by omega) (by omega) (by omega) W);have I:=Hq (fun W=>Kc p 10 1 (by omega) (by omega) (by omega) (by omega) (by omega) W);have J:=Hq (fun W=>Kc p 12 3 (by omega) (by omega) (by omega) (by omega) (by omega) W);have K:=Hq (fun W=>Kc p 15 2 (by omega) (by omega) (by omega) (by omega) (by omega) W);have b1:n<65536:=by have:=Pg.Ud p.data.toList 15 2;omega
  rw[show((4:Int).toNat)=4 from rfl,show((6:Int).toNat)=6 from rfl,← m]at H;rw[show((10:Int).toNat)=10 from rfl,show((1:Int).toNat)=1 from rfl,← h]at I;rw[show((12:Int).toNat)=12 from rfl,show((3:Int).toNat)=3 from rfl,← j]at J;rw[show((15:Int).toNat)=15 from rfl,show((2:Int).toNat)=2 from rfl,← hn]at K;have af:=Hq m;have L:=Hq h;have ag:=Hq j;have M:=Hq hn;clear m h j hn
  by_cases d:4<kind∨123<n
  ·have E:=Hq (show Pg.right p.data.toList=none from Pg.Jd (by rw[Pg.rd,if_pos (by rw[← L.out,← M.out];exact .inr d)]))
   have N:4<kind∨(kind≤4∧512<19+4*(n:Int)):=(by omega);clear d;rcases N with y|⟨y,h2⟩
   all_goals
    go_enter Tryz.func61,Tryz.ntmps61
    go_wp2_with(first|(go_at_call 104;(with_reducible refine(H.out _).mono ?_);rintro e w1 ⟨rfl,rfl⟩)|(go_at_call 104;(with_reducible refine(I.out _).mono ?_);rintro e w2 ⟨rfl,rfl⟩)|(go_at_call 104;(with_reducible refine(J.out _).mono ?_);rintro e w3 ⟨rfl,rfl⟩)|(go_at_call 104;(with_reducible refine(K.out _).mono ?_);rintro e w4 ⟨rfl,rfl⟩))
    refine bodyPost_ret (v:=.tuple #[zeroV,false]) (by simp[results,Tryz.results61,go_sem]) rfl ?_;unfold Q9;rw[E.out];refine⟨⟨Pg.zero,none,0,rfl⟩,?_⟩
    repeat (first|exact Below.refl _ _|refine Below.setCell ?_ (by simp) _|refine Below.alloc ?_ (by simp) _)
  ·obtain⟨b5,ah⟩:kind≤4∧n≤123:=by omega
   have a6:=Hq (show Pg.rd p.data.toList=(Pg.Ei p.data.toList n).map fun rs=>⟨a,kind,link,rs⟩ by
    rw[Pg.rd,if_neg (by rw[← L.out,← M.out];have:=HL.out;omega),← af.out,← L.out,← ag.out,← M.out])
   clear d;have ai:19+4*(n:Int)≤512:=(by omega);go_enter Tryz.func61,Tryz.ntmps61
   go_upto_block 0 with(first|(go_at_call 104;(with_reducible refine(H.out _).mono ?_);rintro e w1 ⟨rfl,rfl⟩)|(go_at_call 104;(with_reducible refine(I.out _).mono ?_);rintro e w2 ⟨rfl,rfl⟩)|(go_at_call 104;(with_reducible refine(J.out _).mono ?_);rintro e w3 ⟨rfl,rfl⟩)|(go_at_call 104;(with_reducible refine(K.out _).mono ?_);rintro e w4 ⟨rfl,rfl⟩))
   have O:=heap_alloc_new (w.alloc (.cells #[(),(),(),'s'] 90)) (.cells #[a,kind,link,'s'] 90);have hZ:=(Below.heap_alloc (w.alloc (.cells #[(),(),(),'s'] 90)) (.cells #[a,kind,link,'s'] 90) w.heap.size (by simp)).trans (heap_alloc_new w _);rw[show(w.alloc (.cells #[(),(),(),'s'] 90)).heap.size=w.heap.size+1 by simp]at O;have r:Bw w ((w.alloc (.cells #[(),(),(),'s'] 90)).alloc (.cells #[a,kind,link,'s'] 90)):=((Below.refl _ _).alloc (Nat.le_refl _) _).alloc (by simp) _;generalize b6:w.heap.size+1=X at O ⊢;have HX:=Hq O;have HZ:=Hq hZ;have HW:=Hq r;clear O hZ r;go_wp2_with fail
   go_loopw [6] (fun i wr=>∃ (k:Nat) (rs:List ByteArray) (A:Option Addr) (c:Nat),k≤n∧i= .int .i64 k∧Pg.Ei p.data.toList k=some rs∧wr.heap[X]? =some (.cells #[a,kind,link,.slice A k c] 90 (0,0))∧wr.heap[w.heap.size]? =some (.cells #[(),(),(),'s'] 90 (0,0))∧wr.ownsRow (w.heap.size+2) 9 1 (.slice A k c) k (rs.map Value.string)∧Bw w wr∧w.heap.size+2≤wr.heap.size) (fun i _=>n-(intOf i).toNat)
   case atStart=>exact⟨0,[],none,0,Nat.zero_le _,rfl,rfl,HX.out,HZ.out,⟨rfl,.inl ⟨rfl,rfl⟩⟩,HW.out,by simp⟩
   case round=>
    obtain⟨k,rs,A,c,hk,rfl,P,O,hZ,F,r,b7⟩:=hrel;have a7:=Pg.Jb _ _ _ P;have Q:=Hq P;have R:=Hq O;have z:=Hq hZ;have HO:=Hq F;have S:=Hq r;have aj:=Hq a7;clear P O hZ F r a7
    by_cases b8:k<n
    ·obtain⟨at_,C⟩:=ex (Oct.Bq p.data.toList (19+4*k) 2)
     obtain⟨long,g⟩:=ex (Oct.Bq p.data.toList (21+4*k) 2);have b9:at_<65536:=by
      have y:=Oct.Hz ((p.data.toList.drop (19+4*k)).take 2);have h2:256^((p.data.toList.drop (19+4*k)).take 2).length≤256^2:=Nat.pow_le_pow_right (by omega) (by rw[List.length_take];omega);rw[C];unfold Oct.Bq;omega
     have ba:long<65536:=by
      have y:=Oct.Hz ((p.data.toList.drop (21+4*k)).take 2);have h2:256^((p.data.toList.drop (21+4*k)).take 2).length≤256^2:=Nat.pow_le_pow_right (by omega) (by rw[List.length_take];omega);rw[g];unfold Oct.Bq;omega
     have HA:=Hq (fun W=>Kc p (19+4*(k:Int)) 2 (by omega) (by omega) (by omega) (by omega) (by omega) W);have HB:=Hq (fun W=>Kc p (19+4*(k:Int)+2) 2 (by omega) (by omega) (by omega) (by omega) (by omega) W);rw[show(19+4*(k:Int)).toNat=19+4*k by omega,show((2:Int).toNat)=2 from rfl,← C]at HA;rw[show(19+4*(k:Int)+2).toNat=21+4*k by omega,show((2:Int).toNat)=2 from rfl,← g]at HB;have T:=Hq C;have U:=Hq g;clear C g
     by_cases d:400<long∨512<at_+long
     ·have HN:=Hq (show Pg.right p.data.toList=none from Pg.Jd (by
       have y:Pg.Ei p.data.toList (k+1)=none:=by
        simp only[Pg.Ei,Q.out];rw[if_pos (by rw[← T.out,← U.out];exact d)]
       have h2:=Pg.R7 _ y (n-(k+1));rw[show k+1+(n-(k+1))=n by omega]at h2;rw[a6.out,h2];rfl))
      have N:512<(at_:Int)+(long:Int)∨((at_:Int)+(long:Int)≤512∧400<long):=(by omega);clear d;rcases N with y|⟨y,h2⟩
      all_goals
       obtain⟨c0,c1,c2,c3,f0,f1,f2,f3⟩:=Dw z.out
       go_wp2_with(first|(go_at_call 104;(with_reducible refine(HA.out _).mono ?_);rintro e w5 ⟨rfl,rfl⟩)|(go_at_call 104;(with_reducible refine(HB.out _).mono ?_);rintro e wr ⟨rfl,rfl⟩))
       refine bodyPost_ret (v:=.tuple #[zeroV,false]) (by simp[results,Tryz.results61,go_sem,c0,c1,c2,c3]) rfl ?_;unfold Q9;rw[HN.out];refine⟨⟨Pg.zero,none,0,rfl⟩,?_⟩
       repeat (first|exact S.out|refine Below.setCell ?_ (by simp) _)
     ·obtain⟨bb,b2⟩:long≤400∧at_+long≤512:=by omega
      clear d
      go_upto_region 13 with(first|(go_at_call 104;(with_reducible refine(HA.out _).mono ?_);rintro e w5 ⟨rfl,rfl⟩)|(go_at_call 104;(with_reducible refine(HB.out _).mono ?_);rintro e wr ⟨rfl,rfl⟩))
      obtain⟨i0,ak,an,ao,aq⟩:=info_parts Mn;have D:=R.out;have ar:=z.out;have l:wr.ownsRow (w.heap.size+2) 9 1 (.slice A k c) k (rs.map Value.string):=HO.out;have au:Bw w wr:=S.out;obtain⟨x0,x1,x2,x3,g0,g1,g2,g3⟩:=Dw D;have bc:(0:Int)≤(at_:Int):=(by omega);have bd:(at_:Int)≤(at_:Int)+(long:Int):=(by omega);have bf:(at_:Int)+(long:Int)≤512:=(by omega);have av:IntKind.i64.wrap ((at_:Int)+(long:Int))=(at_:Int)+(long:Int):=IntWalk.i64_in _ (by omega);have bg:((at_:Int)+(long:Int)).toNat=at_+long:=(by omega);have bh:0≤(at_:Int)+(long:Int):=(by omega);have bj:at_≤at_+long:=(by omega);have bk:at_+long≤p.size:=(by omega);have HF:=Hq (show ∀ w7:World,((wr.alloc (.cells #[.string (p.extract at_ (at_+long))] 9)).drew).grownBy w7 (Value.slice A k c).ownBlock→∀ (b:Nat) (o:Obj),b<(w.heap.size+2)→wr.heap[b]? =some o→w7.heap[b]? =some o by
       intro w7 hg b o hb ho;rw[hg.block b (by simp;omega) (fun e9=>absurd (l.lt b e9.symm).1 (by omega))];exact(Below.heap_alloc wr _ b (by omega)).trans ho)
      obtain⟨-,-,-,z3,-⟩:=Dw ((Below.heap_alloc wr (.cells #[.string (p.extract at_ (at_+long))] 9) X (by omega)).trans D)
      go_region_law? (refine step_append_lies _ (by rfl) _ _ _ (by rfl) (w.heap.size+2) 9 i0 (.string ⟨#[]⟩) 1 16 aC ak an ao aq rfl (by omega) (.slice A k c) k (rs.map Value.string) (by rfl) (Nk l _) ⟨wr.heap.size,0,none⟩ 1 1 [.string (p.extract at_ (at_+long))] (by rfl) (by rfl) (World.news_of_block (cs:=#[.string (p.extract at_ (at_+long))]) (t:=9) (fr:=(0,0)) (heap_alloc_new wr _)) (by simp[Value.oneCell']) (by omega) (by simp[maxLen];omega) (by omega) (by simp;omega) (wr.heap.size+1) (by simp) ?_;intro gg cap w7 V f b3 b4;obtain⟨y0,y1,y2,y3,k0,k1,k2,k3⟩:=Dw (HF.out w7 f X _ (show X<w.heap.size+2 by omega) D))
      all_goals
       have aw:=HF.out w7 f X _ (show X<w.heap.size+2 by omega) D;have ax:=HF.out w7 f w.heap.size _ (by omega) ar;have ay:Bw w w7:=((au.alloc (by omega) _).drew).grown f (by simp;omega) (fun k9 e9=>by have:=(l.lt k9 e9).1;omega);have bl:wr.heap.size+1≤w7.heap.size:=(by have:=f.size;simp at this;omega);go_wp2_with fail;go_roundw
       case rel=>
        refine⟨k+1,rs++[p.extract at_ (at_+long)],some ⟨gg,0,none⟩,cap,by omega,by go_num,?_,?_,?_,?_,?_,?_⟩
        ·simp only[Pg.Ei,Q.out]
         rw[if_neg (by rw[← T.out,← U.out];omega),← T.out,← U.out];rw[extract_eq]
        ·have:=jJ 3 aw (.slice (some ⟨gg,0,none⟩) (k+1) cap)
         simpa using this
        ·rw[Below.heap_setCell _ _ _ _ (by simp;omega)];exact ax
        ·have:=Sd V ⟨X,3,none⟩ (.slice (some ⟨gg,0,none⟩) (k+1) cap) (show X<w.heap.size+2 by omega)
         simpa using this
        ·exact ay.setCell (by simp;omega) _
        ·simp;omega
       case measure=>simp[intOf];omega
    ·obtain rfl:k=n:=by omega
     have hlen:=aj.out;subst hlen;obtain⟨x0,x1,x2,x3,-⟩:=Dw R.out;obtain⟨c0,c1,c2,c3,f0,f1,f2,f3⟩:=Dw z.out;have az:X≠w.heap.size:=(by omega);have Y:=Hq (show Pg.rd p.data.toList=some ⟨a,kind,link,rs⟩ by rw[a6.out,Q.out];rfl);have HF:=Hq (Pg.Tj Y.out).1;have Z:=L4 HO.out rfl;have a8:=Hq (fun W hW=>Nj ⟨a,kind,link,rs⟩ A c HF.out.small (by have:=HF.out.Bb;omega) W hW)
     go_upto_region 15 with(first|(go_at_call 62;(with_reducible refine(a8.out _ Z.cells).mono ?_);rintro e w5 ⟨rfl,s⟩))
     obtain⟨x0,x1,x2,x3,-⟩:=Dw (Fk R.out s);obtain⟨c0,c1,c2,c3,f0,f1,f2,f3⟩:=Dw (Fk z.out s);have G:=andThen S.out s;have aa:=Z.below s;clear Z s;have ad:=Hq aa;have u:(⟨(Pg.Dh ⟨a,kind,link,rs⟩).toArray⟩:ByteArray).size=(Pg.Dh ⟨a,kind,link,rs⟩).length:=(by simp[ByteArray.size]);have x:(⟨(Pg.Dh ⟨a,kind,link,rs⟩).toArray⟩:ByteArray).data.toList=Pg.Dh ⟨a,kind,link,rs⟩:=rfl;generalize (⟨(Pg.Dh ⟨a,kind,link,rs⟩).toArray⟩:ByteArray)=q at u x ⊢;rcases Pg.eN ⟨a,kind,link,rs⟩with h0|⟨h0,y⟩
     ·have b0:q.size=0:=by rw[u,h0];rfl
      have E:=Hq (show Pg.right p.data.toList=none by
       rw[Pg.Ue Y.out,if_neg];rw[decide_eq_true_iff,h0];intro h9;have:=congrArg List.length h9;rw[List.length_append,Oct.A0]at this
       simp at this
       omega)
      clear u x h0
      go_region
      all_goals
       go_wp2_with fail;refine bodyPost_ret (v:=.tuple #[Gi ⟨a,kind,link,rs⟩ A c,false]) (by simp[results,Tryz.results61,go_sem,c0,c1,c2,c3]) rfl ?_;unfold Q9;rw[E.out];refine⟨⟨⟨a,kind,link,rs⟩,A,c,rfl⟩,?_⟩
       repeat (first|exact G|refine Below.drew ?_|refine Below.setCell ?_ (by simp) _)
     ·have b0:q.size=512:=by rw[u,h0]
      have ae:((q.extract 4 512).toList==(p.extract 4 512).toList)=decide (Pg.Dh ⟨a,kind,link,rs⟩=Oct.Bp 0 4++p.data.toList.drop 4):=by
       rw[ByteArray.toList_eq,ByteArray.toList_eq,show 512=4+508 from rfl,extract_eq,extract_eq];have e1:(q.data.toList.drop 4).take 508=q.data.toList.drop 4:=List.take_of_length_le (by rw[x,List.length_drop,h0];omega);have e2:(p.data.toList.drop 4).take 508=p.data.toList.drop 4:=List.take_of_length_le (by rw[List.length_drop,HL.out];omega);rw[e1,e2,x,Bool.beq_eq_decide_eq];exact decide_eq_decide.2 (y _).symm
      have E:=Hq (Pg.Ue Y.out);generalize decide (Pg.Dh ⟨a,kind,link,rs⟩=Oct.Bp 0 4++p.data.toList.drop 4)=b at E ae;have bm:4≤q.size:=(by omega);have av:4≤p.size:=(by omega);clear u x h0 y
      go_region
      all_goals
       go_wp2_with fail;refine bodyPost_ret (v:=.tuple #[Gi ⟨a,kind,link,rs⟩ A c,b]) (by simp[results,Tryz.results61,go_sem,c0,c1,c2,c3]) rfl ?_;unfold Q9;rw[E.out];refine⟨?_,?_⟩
       ·cases b
        ·exact⟨⟨a,kind,link,rs⟩,A,c,rfl⟩
        ·refine⟨A,c,rfl,?_⟩
         refine Bi.mono (B:=w.heap.size+2) ?_ (by omega)
         repeat (first|exact ad.out|exact ad.out.below (Below.refl _ _).drew|refine Bi.set ?_ _ (by simp) _)
       repeat (first|exact G|refine Below.drew ?_|refine Below.setCell ?_ (by simp) _)
 ·have az:((p.size:Int)==512)=false:=by simp;omega
  have E:=Hq (show Pg.right p.data.toList=none from Pg.Jd (by
   rw[Pg.rd,if_pos (.inl (by have h9:p.data.toList.length=p.size:=(by simp);omega))]))
  clear a1;go_enter Tryz.func61,Tryz.ntmps61;go_wp2_with fail;refine bodyPost_ret (v:=.tuple #[zeroV,false]) (by simp[results,Tryz.results61,go_sem]) rfl ?_;unfold Q9;rw[E.out];exact⟨⟨Pg.zero,none,0,rfl⟩,(Below.refl _ _).alloc (Nat.le_refl _) _⟩
abbrev Bo (p:ByteArray):Bool:=(Pg.right p.data.toList).isSome
abbrev Ac (p:ByteArray):Pg.Dg:=Pg.Ls p.data.toList
theorem Ey (p:ByteArray)(b:p.size≤140737488355328)(w:World):
 Cq 122 #[p] w fun e w'=>∃ A c,e= .returned (.tuple #[Gi (Ac p) A c,.bool (Bo p)])∧Bi w.heap.size w' A c (Ac p).recs∧Bw w w':=by
 refine(qB p b w).mono ?_;rintro e w' ⟨h,a⟩;unfold Ac Bo Pg.Ls
 revert h
 cases Pg.right p.data.toList with
 |none=>rintro rfl;exact⟨none,0,rfl,fun d=>by simp[Pg.zero]at d,a⟩
 |some x=>rintro⟨A,c,rfl,h⟩;exact⟨A,c,rfl,h,a⟩
theorem N9 (p:ByteArray)(f:p.size≤140737488355328)(w:World):
 Cr 118 #[p] w (.bool (Bo p)):=by
 have d:=Hq (fun W=>Ey p f W);generalize Bo p=b at d ⊢;generalize Ac p=x at d;go_enter Tryz.func118,Tryz.ntmps118
 go_wp2_with(go_at_call 122;refine(d.out _).mono ?_;rintro e h ⟨A,c,rfl,g,a⟩)
 go_ret;exact⟨rfl,by repeat (first|exact a|refine Below.alloc ?_ (by first|exact a.size|simp) _|refine Below.setCell ?_ (by first|exact a.size|simp) _)⟩
theorem Yi (p:ByteArray)(f:p.size≤140737488355328)(w:World):
 Cr 68 #[p] w (.int .i64 ((Ac p).lsn:Nat)):=by
 have d:=Hq (fun W=>Ey p f W);generalize Bo p=b at d;generalize Ac p=x at d ⊢;go_enter Tryz.func68,Tryz.ntmps68
 go_wp2_with(go_at_call 122;refine(d.out _).mono ?_;rintro e h ⟨A,c,rfl,g,a⟩)
 go_ret;exact⟨rfl,by repeat (first|exact a|refine Below.alloc ?_ (by first|exact a.size|simp) _|refine Below.setCell ?_ (by first|exact a.size|simp) _)⟩
theorem qC (p:ByteArray)(f:p.size≤140737488355328)(w:World):
 Cr 211 #[p] w (.int .i64 ((Ac p).link:Nat)):=by
 have d:=Hq (fun W=>Ey p f W);generalize Bo p=b at d;generalize Ac p=x at d ⊢;go_enter Tryz.func211,Tryz.ntmps211
 go_wp2_with(go_at_call 122;refine(d.out _).mono ?_;rintro e h ⟨A,c,rfl,g,a⟩)
 go_ret;exact⟨rfl,by repeat (first|exact a|refine Below.alloc ?_ (by first|exact a.size|simp) _|refine Below.setCell ?_ (by first|exact a.size|simp) _)⟩
theorem Em (p:ByteArray)(b:p.size≤140737488355328)(w:World):
 Cq 61 #[p] w fun e w'=>∃ x A c,e= .returned (.tuple #[Gi x A c,.bool (Bo p)])∧(Bo p=true→x=Ac p∧Bi w.heap.size w' A c (Ac p).recs)∧Bw w w':=by
 refine(eR p b w).mono ?_;rintro e w' ⟨h,a⟩;unfold Ac Bo Pg.Ls
 revert h
 cases Pg.right p.data.toList with
 |none=>rintro⟨x,A,c,rfl⟩;exact⟨x,A,c,rfl,(fun h=>by cases h),a⟩
 |some x=>rintro⟨A,c,rfl,h⟩;exact⟨x,A,c,rfl,fun _=>⟨rfl,h⟩,a⟩
theorem Yj {p:ByteArray}(h:Bo p=false):Ac p=Pg.zero:=by
 unfold Bo at h;unfold Ac Pg.Ls
 revert h
 cases Pg.right p.data.toList with
 |none=>intro _;rfl
 |some x=>intro h;cases h
theorem aQ (p:ByteArray)(f:p.size≤140737488355328)(w:World):
 Cr 40 #[p] w (.bool (Bo p)):=by
 have d:=Hq (fun W=>Em p f W);generalize Bo p=b at d ⊢;generalize Ac p=y at d;go_enter Tryz.func40,Tryz.ntmps40
 go_wp2_with(go_at_call 61;refine(d.out _).mono ?_;rintro e h ⟨x,A,c,rfl,g,a⟩)
 go_ret;exact⟨rfl,by repeat (first|exact a|refine Below.alloc ?_ (by first|exact a.size|simp) _|refine Below.setCell ?_ (by first|exact a.size|simp) _)⟩
theorem Ra (p:ByteArray)(j:p.size≤140737488355328)(w:World):
 Cq 42 #[p] w fun e w'=>∃ A c,e= .returned (Gi (Ac p) A c)∧Bi w.heap.size w' A c (Ac p).recs∧Bw w w':=by
 have g:=Hq (fun W=>Em p j W)
 cases i:Bo p with
 |false=>
  rw[Yj i];rw[i]at g;generalize Ac p=y at g;go_enter Tryz.func42,Tryz.ntmps42
  go_wp2_with(go_at_call 61;refine(g.out _).mono ?_;rintro e h ⟨x,A,c,rfl,-,a⟩;have b:w.heap.size<h.heap.size:=(by have:=a.size;simp at this;omega);obtain⟨c0,c1,c2,c3,f0,f1,f2,f3⟩:=Dw (Cm a))
  have d:=Bd a;refine bodyPost_ret (v:=zeroV) (by simp[results,Tryz.results42,go_sem,c0,c1,c2,c3,b]) rfl ?_;refine⟨none,0,rfl,fun k=>by simp[Pg.zero]at k,?_⟩
  repeat (first|exact d|refine Below.alloc ?_ (by simp;exact Nat.le_of_lt b) _|refine Below.setCell ?_ (by simp) _)
 |true=>
  rw[i]at g;generalize Ac p=y at g ⊢;go_enter Tryz.func42,Tryz.ntmps42
  go_wp2_with(go_at_call 61;refine(g.out _).mono ?_;rintro e h ⟨x,A,c,rfl,f,a⟩;obtain⟨rfl,f⟩:=f rfl;have l:h.heap.size≠w.heap.size:=(by have:=a.size;simp at this;omega);have b:w.heap.size<h.heap.size:=(by have:=a.size;simp at this;omega);obtain⟨c0,c1,c2,c3,f0,f1,f2,f3⟩:=Dw (Cm a))
  have d:=Bd a;refine bodyPost_ret (v:=Gi x A c) (by simp[results,Tryz.results42,go_sem,c0,c1,c2,c3,b]) rfl ?_;refine⟨A,c,rfl,?_,?_⟩
  ·refine Bi.mono (B:=w.heap.size+1) ?_ (by omega)
   refine Bi.below ?_ ((Below.refl _ _).alloc (Nat.le_refl _) _)
   repeat (first|exact(show Bi (w.heap.size+1) h A c x.recs by simpa using f)|refine Bi.set ?_ _ (by simp) _)
  ·repeat (first|exact d|refine Below.alloc ?_ (by simp;exact Nat.le_of_lt b) _|refine Below.setCell ?_ (by simp) _)
theorem eS (a b l v:Value)(W:World):(Instr.field 90 (.agg #[a,b,l,v]) 0).run Tryz.prog W= .ok a W:=by kernel_rfl
theorem eT (a b l v:Value)(W:World):(Instr.field 90 (.agg #[a,b,l,v]) 2).run Tryz.prog W= .ok l W:=by kernel_rfl
theorem aR (p:ByteArray)(f:p.size≤140737488355328)(w:World):
 Cr 14 #[p] w (.int .i64 ((Ac p).lsn:Nat)):=by
 have b:∀ (A:Option Addr) (c:Nat) (W:World),(Instr.field 90 (Gi (Ac p) A c) 0).run Tryz.prog W= .ok _ W:=fun _ _ W=>eS _ _ _ _ W;have d:=Hq (fun W=>Ra p f W);generalize Ac p=x at d b ⊢;go_enter Tryz.func14,Tryz.ntmps14
 go_wp2_with(go_at_call 42;refine(d.out _).mono ?_;rintro e h ⟨A,c,rfl,g,a⟩)
 go_ret;exact⟨rfl,by repeat (first|exact a|refine Below.alloc ?_ (by first|exact a.size|simp) _|refine Below.setCell ?_ (by first|exact a.size|simp) _)⟩
theorem lJ (p:ByteArray)(f:p.size≤140737488355328)(w:World):
 Cr 116 #[p] w (.int .i64 ((Ac p).link:Nat)):=by
 have b:∀ (A:Option Addr) (c:Nat) (W:World),(Instr.field 90 (Gi (Ac p) A c) 2).run Tryz.prog W= .ok _ W:=fun _ _ W=>eT _ _ _ _ W;have d:=Hq (fun W=>Ra p f W);generalize Ac p=x at d b ⊢;go_enter Tryz.func116,Tryz.ntmps116
 go_wp2_with(go_at_call 42;refine(d.out _).mono ?_;rintro e h ⟨A,c,rfl,g,a⟩)
 go_ret;exact⟨rfl,by repeat (first|exact a|refine Below.alloc ?_ (by first|exact a.size|simp) _|refine Below.setCell ?_ (by first|exact a.size|simp) _)⟩
theorem An {w w':World}{o:Obj}(a:Bw w w'):Bw w (w'.alloc o):=a.alloc a.size o
theorem Rb (x:Pg.Dg)(A:Option Addr)(c:Nat)(i:Int)(w:World)(h:Cells w A c x.recs):
 Cr 205 #[Gi x A c,i] w (.string (Pg.Ay x.recs i)):=by
 have g:=Hq (h.below ((Below.refl w.heap.size w).alloc (Nat.le_refl _) (.cells #[x.lsn,x.kind,x.link,.slice A x.recs.length c] 147 (0,0))));clear h
 by_cases d:i<0
 ·rw[Pg.O4 d]
  go_enter Tryz.func205,Tryz.ntmps205;go_wp2_with fail;go_ret;exact⟨rfl,(Below.refl _ _).alloc (Nat.le_refl _) _⟩
 ·by_cases e:(x.recs.length:Int)≤i
  ·rw[Pg.Li e]
   go_enter Tryz.func205,Tryz.ntmps205;go_wp2_with fail;go_ret;exact⟨rfl,(Below.refl _ _).alloc (Nat.le_refl _) _⟩
  ·obtain⟨k,rfl⟩:=Int.eq_ofNat_of_zero_le (show 0≤i by omega)
   have f:k<x.recs.length:=(by omega);rw[Pg.Wk f];obtain⟨b,off,rfl,l,j,a⟩:=g.out.at_ f;have m:(k:Int)<(x.recs.length:Int):=(by omega);have n:(0:Int)≤(k:Int):=(by omega);clear d e;generalize x.recs[k]=r at a ⊢;go_enter Tryz.func205,Tryz.ntmps205;go_wp2_with fail;go_ret;exact⟨rfl,(Below.refl _ _).alloc (Nat.le_refl _) _⟩
theorem Fw (p:ByteArray)(i:Int)(j:p.size≤140737488355328)(w:World):
 Cr 172 #[p,i] w (.tuple #[.string (Pg.Ay (Ac p).recs i),.bool (!decide ((Pg.Ay (Ac p).recs i).size=0))]):=by
 have a:=Hq (fun W=>Ey p j W);generalize Bo p=b at a;generalize Ac p=x at a ⊢;have h:=Hq (fun A c W k=>Rb x A c i W k);generalize Pg.Ay x.recs i=r at h ⊢;rw[← Hk];go_enter Tryz.func172,Tryz.ntmps172
 go_wp2_with(first|(go_at_call 122;refine(a.out _).mono ?_;rintro e l ⟨A,c,rfl,d,f⟩)|(go_at_call 205;refine(h.out _ _ _ (d.cells.below ((Below.refl _ _).alloc (Nat.le_refl _) _))).mono ?_;rintro e m ⟨rfl,g⟩))
 refine bodyPost_ret (v:=.tuple #[r,.bool (!r.toList.isEmpty)]) (by simp[results,Tryz.results172,go_sem]) rfl ?_;exact⟨rfl,andThen (An f) g⟩
theorem Kd {r:ByteArray}(h:r.size=0):r=⟨#[]⟩:=by
 apply ByteArray.ext
 exact Array.eq_empty_of_size_eq_zero h
theorem Ds (p:ByteArray)(i:Int)(u:p.size≤140737488355328)(w:World):
 Cr 107 #[p,i] w (.tuple #[.string (Pg.Ay (Ac p).recs i),.bool (!decide ((Pg.Ay (Ac p).recs i).size=0))]):=by
 have h:=Hq (fun W=>Ra p u W);generalize Ac p=x at h ⊢
 by_cases s:i<0
 ·rw[Pg.O4 s]
  go_enter Tryz.func107,Tryz.ntmps107
  go_wp2_with(go_at_call 42;refine(h.out _).mono ?_;rintro e l ⟨A,c,rfl,f,a⟩)
  refine bodyPost_ret (v:=.tuple #["",false]) (by simp[results,Tryz.results107,go_sem]) rfl ?_;exact⟨rfl,An a⟩
 ·by_cases t:(x.recs.length:Int)≤i
  ·rw[Pg.Li t]
   go_enter Tryz.func107,Tryz.ntmps107
   go_wp2_with(go_at_call 42;refine(h.out _).mono ?_;rintro e l ⟨A,c,rfl,f,a⟩)
   refine bodyPost_ret (v:=.tuple #["",false]) (by simp[results,Tryz.results107,go_sem]) rfl ?_;exact⟨rfl,An a⟩
  ·obtain⟨k,rfl⟩:=Int.eq_ofNat_of_zero_le (show 0≤i by omega)
   have m:k<x.recs.length:=(by omega);rw[Pg.Wk m];have z:(k:Int)<(x.recs.length:Int):=(by omega);have B:(0:Int)≤(k:Int):=(by omega);clear s t;obtain⟨r,n⟩:=ex (x.recs[k]);rw[← n];have o:=Hq n;clear n;have g:r.toList.isEmpty=decide (r.size=0):=Hk r
   by_cases j:r.size=0
   ·rw[decide_eq_true j]at g ⊢
    rw[Kd j]at g o ⊢;clear j;go_enter Tryz.func107,Tryz.ntmps107
    go_wp2_with(go_at_call 42;refine(h.out _).mono ?_;rintro e l ⟨A,c,rfl,f,a⟩;obtain⟨b,off,rfl,y,q,d⟩:=f.cells.at_ m;rw[← o.out]at d)
    refine bodyPost_ret (v:=.tuple #["",false]) (by simp[results,Tryz.results107,go_sem]) rfl ?_;exact⟨rfl,An a⟩
   ·rw[decide_eq_false j]at g ⊢
    clear j;go_enter Tryz.func107,Tryz.ntmps107
    go_wp2_with(go_at_call 42;refine(h.out _).mono ?_;rintro e l ⟨A,c,rfl,f,a⟩;obtain⟨b,off,rfl,y,q,d⟩:=f.cells.at_ m;rw[← o.out]at d)
    refine bodyPost_ret (v:=.tuple #[r,true]) (by simp[results,Tryz.results107,go_sem]) rfl ?_;exact⟨rfl,An a⟩
theorem Tl (r:ByteArray)(w:World):
 Cq 206 #[r] w fun e w'=>e= .returned (.bool (decide (1≤r.size∧r.size≤400)))∧w=w':=by
 by_cases a:1≤r.size
 ·by_cases b:r.size≤400
  ·rw[decide_eq_true ⟨a,b⟩]
   have c:(1:Int)≤(r.size:Int):=(by omega);have d:(r.size:Int)≤400:=(by omega);go_enter Tryz.func206,Tryz.ntmps206;go_wp2_with fail;go_ret;exact⟨by simp,rfl⟩
  ·rw[decide_eq_false (fun h=>b h.2)]
   have c:(1:Int)≤(r.size:Int):=(by omega);have d:(400:Int)<(r.size:Int):=(by omega);go_enter Tryz.func206,Tryz.ntmps206;go_wp2_with fail;go_ret;exact⟨by simp[Int.not_le.2 d],rfl⟩
 ·rw[decide_eq_false (fun h=>a h.1)]
  have c:(r.size:Int)<1:=by omega
  go_enter Tryz.func206,Tryz.ntmps206;go_wp2_with fail;go_ret;exact⟨by simp,rfl⟩
theorem P1 (r:ByteArray)(w:World):
 Cq 162 #[r] w fun e w'=>e= .returned (.bool (decide (1≤r.size∧r.size≤400)))∧w=w':=by
 by_cases a:1≤r.size
 ·by_cases b:r.size≤400
  ·rw[decide_eq_true ⟨a,b⟩]
   have c:(1:Int)≤(r.size:Int):=(by omega);have d:(r.size:Int)≤400:=(by omega);go_enter Tryz.func162,Tryz.ntmps162;go_wp2_with fail;go_ret;exact⟨by simp,rfl⟩
  ·rw[decide_eq_false (fun h=>b h.2)]
   have c:(1:Int)≤(r.size:Int):=(by omega);have d:(400:Int)<(r.size:Int):=(by omega);go_enter Tryz.func162,Tryz.ntmps162;go_wp2_with fail;go_ret;exact⟨by simp[Int.not_le.2 d],rfl⟩
 ·rw[decide_eq_false (fun h=>a h.1)]
  have c:(r.size:Int)<1:=by omega
  go_enter Tryz.func162,Tryz.ntmps162;go_wp2_with fail;go_ret;exact⟨by simp,rfl⟩
def Gj (n:Int):ByteArray:=if n<0∨4<n then⟨#[]⟩else⟨(Pg.Dh ⟨0,n.toNat,0,[]⟩).toArray⟩
theorem uM (n:Int)(w:World):
 Cr 168 #[n] w (.string (Gj n)):=by
 by_cases b:n<0
 ·rw[show Gj n=⟨#[]⟩from if_pos (.inl b)]
  go_enter Tryz.func168,Tryz.ntmps168;go_wp2_with fail;go_ret;exact⟨rfl,Below.refl _ _⟩
 ·by_cases c:4<n
  ·rw[show Gj n=⟨#[]⟩from if_pos (.inr c)]
   go_enter Tryz.func168,Tryz.ntmps168;go_wp2_with fail;go_ret;exact⟨rfl,Below.refl _ _⟩
  ·obtain⟨k,rfl⟩:=Int.eq_ofNat_of_zero_le (show 0≤n by omega)
   have d:=Hq (fun W=>Ni ⟨0,k,0,[]⟩ none 0 ⟨(by show 0<281474976710656;omega),(by show k≤4;omega),(by show 0<16777216;omega)⟩ (by show 19≤1099511627776;omega) W (fun f=>by simp at f));rw[show Gj (k:Int)=⟨(Pg.Dh ⟨0,k,0,[]⟩).toArray⟩ by unfold Gj;rw[if_neg (by omega)];rfl];generalize (⟨(Pg.Dh ⟨0,k,0,[]⟩).toArray⟩:ByteArray)=q at d ⊢;have g:(0:Int)≤(k:Int):=(by omega);have h:(k:Int)≤4:=(by omega);clear b c;go_enter Tryz.func168,Tryz.ntmps168
   go_wp2_with(go_at_call 125;refine(d.out _).mono ?_;rintro e i ⟨rfl,a⟩)
   go_ret;exact⟨rfl,a⟩
theorem qD (n:Int)(w:World):
 Cr 28 #[n] w (.string (Gj n)):=by
 by_cases b:n<0
 ·rw[show Gj n=⟨#[]⟩from if_pos (.inl b)]
  go_enter Tryz.func28,Tryz.ntmps28;go_wp2_with fail;go_ret;exact⟨rfl,Below.refl _ _⟩
 ·by_cases c:4<n
  ·rw[show Gj n=⟨#[]⟩from if_pos (.inr c)]
   go_enter Tryz.func28,Tryz.ntmps28;go_wp2_with fail;go_ret;exact⟨rfl,Below.refl _ _⟩
  ·obtain⟨k,rfl⟩:=Int.eq_ofNat_of_zero_le (show 0≤n by omega)
   have d:=Hq (fun W=>Nj ⟨0,k,0,[]⟩ none 0 ⟨(by show 0<281474976710656;omega),(by show k≤4;omega),(by show 0<16777216;omega)⟩ (by show 19≤1099511627776;omega) W (fun f=>by simp at f));rw[show Gj (k:Int)=⟨(Pg.Dh ⟨0,k,0,[]⟩).toArray⟩ by unfold Gj;rw[if_neg (by omega)];rfl];generalize (⟨(Pg.Dh ⟨0,k,0,[]⟩).toArray⟩:ByteArray)=q at d ⊢;have g:(0:Int)≤(k:Int):=(by omega);have h:(k:Int)≤4:=(by omega);clear b c;go_enter Tryz.func28,Tryz.ntmps28
   go_wp2_with(go_at_call 62;refine(d.out _).mono ?_;rintro e i ⟨rfl,a⟩)
   go_ret;exact⟨rfl,a⟩
def Cj (p:ByteArray)(n:Int):ByteArray:=if Bo p=false∨n<0∨281474976710656≤n then⟨#[]⟩else⟨(Pg.Dh ⟨n.toNat,(Ac p).kind,(Ac p).link,(Ac p).recs⟩).toArray⟩
def D9 (p:ByteArray)(n:Int):ByteArray:=if Bo p=false∨n<0∨16777216≤n then⟨#[]⟩else⟨(Pg.Dh ⟨(Ac p).lsn,(Ac p).kind,n.toNat,(Ac p).recs⟩).toArray⟩
theorem Kj (p:ByteArray)(n:Int)(r:p.size≤140737488355328)(w:World):
 Cr 71 #[p,n] w (.string (Cj p n)):=by
 have d:=Hq (fun W=>Ey p r W);have a:=Pg.Lh p.data.toList
 cases g:Bo p with
 |false=>
  rw[show Cj p n=⟨#[]⟩from if_pos (.inl g)];rw[g]at d;generalize Ac p=x at d;clear a;go_enter Tryz.func71,Tryz.ntmps71
  go_wp2_with(go_at_call 122;refine(d.out _).mono ?_;rintro e i ⟨A,c,rfl,f,b⟩)
  go_ret;exact⟨rfl,An b⟩
 |true=>
  rw[g]at d
  by_cases l:n<0
  ·rw[show Cj p n=⟨#[]⟩from if_pos (.inr (.inl l))]
   generalize Ac p=x at d;clear a;go_enter Tryz.func71,Tryz.ntmps71
   go_wp2_with(go_at_call 122;refine(d.out _).mono ?_;rintro e i ⟨A,c,rfl,f,b⟩)
   go_ret;exact⟨rfl,An b⟩
  ·by_cases m:281474976710656≤n
   ·rw[show Cj p n=⟨#[]⟩from if_pos (.inr (.inr m))]
    generalize Ac p=x at d;clear a;go_enter Tryz.func71,Tryz.ntmps71
    go_wp2_with(go_at_call 122;refine(d.out _).mono ?_;rintro e i ⟨A,c,rfl,f,b⟩)
    go_ret;exact⟨rfl,An b⟩
   ·have h:((n.toNat:Nat):Int)=n:=by omega
    have o:n.toNat<281474976710656:=(by omega);rw[show Cj p n=⟨(Pg.Dh ⟨n.toNat,(Ac p).kind,(Ac p).link,(Ac p).recs⟩).toArray⟩ by unfold Cj;rw[if_neg (by rw[g];simp;omega)]];have t:(0:Int)≤n:=(by omega);have u:n<281474976710656:=(by omega);clear l m;change Pg.Pz (Ac p)at a;generalize Ac p=x at d a ⊢;have j:=Hq (fun A c W s=>Ni ⟨n.toNat,x.kind,x.link,x.recs⟩ A c ⟨o,a.small.2.1,a.small.2.2⟩ (by have:=a.Bb;show Pg.Bb x.recs≤_;omega) W s);clear a o g;generalize (⟨(Pg.Dh ⟨n.toNat,x.kind,x.link,x.recs⟩).toArray⟩:ByteArray)=q at j ⊢;simp only[h]at j;clear h;go_enter Tryz.func71,Tryz.ntmps71
    go_wp2_with(first|(go_at_call 122;refine(d.out _).mono ?_;rintro e i ⟨A,c,rfl,f,b⟩)|(go_at_call 125;refine(j.out A c _ (f.cells.below ((Below.refl _ _).alloc (Nat.le_refl _) _))).mono ?_;rintro e v ⟨rfl,k⟩))
    go_ret;exact⟨rfl,andThen (An b) k⟩
theorem aS (p:ByteArray)(n:Int)(r:p.size≤140737488355328)(w:World):
 Cr 212 #[p,n] w (.string (D9 p n)):=by
 have d:=Hq (fun W=>Ey p r W);have a:=Pg.Lh p.data.toList
 cases g:Bo p with
 |false=>
  rw[show D9 p n=⟨#[]⟩from if_pos (.inl g)];rw[g]at d;generalize Ac p=x at d;clear a;go_enter Tryz.func212,Tryz.ntmps212
  go_wp2_with(go_at_call 122;refine(d.out _).mono ?_;rintro e i ⟨A,c,rfl,f,b⟩)
  go_ret;exact⟨rfl,An b⟩
 |true=>
  rw[g]at d
  by_cases l:n<0
  ·rw[show D9 p n=⟨#[]⟩from if_pos (.inr (.inl l))]
   generalize Ac p=x at d;clear a;go_enter Tryz.func212,Tryz.ntmps212
   go_wp2_with(go_at_call 122;refine(d.out _).mono ?_;rintro e i ⟨A,c,rfl,f,b⟩)
   go_ret;exact⟨rfl,An b⟩
  ·by_cases m:16777216≤n
   ·rw[show D9 p n=⟨#[]⟩from if_pos (.inr (.inr m))]
    generalize Ac p=x at d;clear a;go_enter Tryz.func212,Tryz.ntmps212
    go_wp2_with(go_at_call 122;refine(d.out _).mono ?_;rintro e i ⟨A,c,rfl,f,b⟩)
    go_ret;exact⟨rfl,An b⟩
   ·have h:((n.toNat:Nat):Int)=n:=by omega
    have o:n.toNat<16777216:=(by omega);rw[show D9 p n=⟨(Pg.Dh ⟨(Ac p).lsn,(Ac p).kind,n.toNat,(Ac p).recs⟩).toArray⟩ by unfold D9;rw[if_neg (by rw[g];simp;omega)]];have t:(0:Int)≤n:=(by omega);have u:n<16777216:=(by omega);clear l m;change Pg.Pz (Ac p)at a;generalize Ac p=x at d a ⊢;have j:=Hq (fun A c W s=>Ni ⟨x.lsn,x.kind,n.toNat,x.recs⟩ A c ⟨a.small.1,a.small.2.1,o⟩ (by have:=a.Bb;show Pg.Bb x.recs≤_;omega) W s);clear a o g;generalize (⟨(Pg.Dh ⟨x.lsn,x.kind,n.toNat,x.recs⟩).toArray⟩:ByteArray)=q at j ⊢;simp only[h]at j;clear h;go_enter Tryz.func212,Tryz.ntmps212
    go_wp2_with(first|(go_at_call 122;refine(d.out _).mono ?_;rintro e i ⟨A,c,rfl,f,b⟩)|(go_at_call 125;refine(j.out A c _ (f.cells.below ((Below.refl _ _).alloc (Nat.le_refl _) _))).mono ?_;rintro e v ⟨rfl,k⟩))
    go_ret;exact⟨rfl,andThen (An b) k⟩
theorem Ll (p:ByteArray)(n:Int)(s:p.size≤140737488355328)(w:World):
 Cr 24 #[p,n] w (.string (Cj p n)):=by
 have f:=Hq (fun W=>Em p s W);have a:=Pg.Lh p.data.toList
 cases g:Bo p with
 |false=>
  rw[show Cj p n=⟨#[]⟩from if_pos (.inl g)];rw[g]at f;generalize Ac p=x at f;clear a;go_enter Tryz.func24,Tryz.ntmps24
  go_wp2_with(go_at_call 61;refine(f.out _).mono ?_;rintro e i ⟨y,A,c,rfl,d,b⟩)
  go_ret;exact⟨rfl,An b⟩
 |true=>
  rw[g]at f
  by_cases m:n<0
  ·rw[show Cj p n=⟨#[]⟩from if_pos (.inr (.inl m))]
   generalize Ac p=x at f;clear a;go_enter Tryz.func24,Tryz.ntmps24
   go_wp2_with(go_at_call 61;refine(f.out _).mono ?_;rintro e i ⟨y,A,c,rfl,d,b⟩)
   go_ret;exact⟨rfl,An b⟩
  ·by_cases o:281474976710656≤n
   ·rw[show Cj p n=⟨#[]⟩from if_pos (.inr (.inr o))]
    generalize Ac p=x at f;clear a;go_enter Tryz.func24,Tryz.ntmps24
    go_wp2_with(go_at_call 61;refine(f.out _).mono ?_;rintro e i ⟨y,A,c,rfl,d,b⟩)
    go_ret;exact⟨rfl,An b⟩
   ·have h:((n.toNat:Nat):Int)=n:=by omega
    have r:n.toNat<281474976710656:=(by omega);rw[show Cj p n=⟨(Pg.Dh ⟨n.toNat,(Ac p).kind,(Ac p).link,(Ac p).recs⟩).toArray⟩ by unfold Cj;rw[if_neg (by rw[g];simp;omega)]];have v:(0:Int)≤n:=(by omega);have z:n<281474976710656:=(by omega);clear m o;change Pg.Pz (Ac p)at a;generalize Ac p=x at f a ⊢;have j:=Hq (fun A c W t=>Nj ⟨n.toNat,x.kind,x.link,x.recs⟩ A c ⟨r,a.small.2.1,a.small.2.2⟩ (by have:=a.Bb;show Pg.Bb x.recs≤_;omega) W t);clear a r g;generalize (⟨(Pg.Dh ⟨n.toNat,x.kind,x.link,x.recs⟩).toArray⟩:ByteArray)=q at j ⊢;simp only[h]at j;clear h;go_enter Tryz.func24,Tryz.ntmps24
    go_wp2_with(first|(go_at_call 61;refine(f.out _).mono ?_;rintro e i ⟨y,A,c,rfl,d,b⟩;obtain⟨u,k⟩:=d rfl;clear d;subst u)|(go_at_call 62;refine(j.out _ _ _ ((k.cells).below ((Below.refl _ _).alloc (Nat.le_refl _) _))).mono ?_;rintro e B ⟨rfl,l⟩))
    go_ret;exact⟨rfl,andThen (An b) l⟩
theorem Yk (p:ByteArray)(n:Int)(s:p.size≤140737488355328)(w:World):
 Cr 114 #[p,n] w (.string (D9 p n)):=by
 have f:=Hq (fun W=>Em p s W);have a:=Pg.Lh p.data.toList
 cases g:Bo p with
 |false=>
  rw[show D9 p n=⟨#[]⟩from if_pos (.inl g)];rw[g]at f;generalize Ac p=x at f;clear a;go_enter Tryz.func114,Tryz.ntmps114
  go_wp2_with(go_at_call 61;refine(f.out _).mono ?_;rintro e i ⟨y,A,c,rfl,d,b⟩)
  go_ret;exact⟨rfl,An b⟩
 |true=>
  rw[g]at f
  by_cases m:n<0
  ·rw[show D9 p n=⟨#[]⟩from if_pos (.inr (.inl m))]
   generalize Ac p=x at f;clear a;go_enter Tryz.func114,Tryz.ntmps114
   go_wp2_with(go_at_call 61;refine(f.out _).mono ?_;rintro e i ⟨y,A,c,rfl,d,b⟩)
   go_ret;exact⟨rfl,An b⟩
  ·by_cases o:16777216≤n
   ·rw[show D9 p n=⟨#[]⟩from if_pos (.inr (.inr o))]
    generalize Ac p=x at f;clear a;go_enter Tryz.func114,Tryz.ntmps114
    go_wp2_with(go_at_call 61;refine(f.out _).mono ?_;rintro e i ⟨y,A,c,rfl,d,b⟩)
    go_ret;exact⟨rfl,An b⟩
   ·have h:((n.toNat:Nat):Int)=n:=by omega
    have r:n.toNat<16777216:=(by omega);rw[show D9 p n=⟨(Pg.Dh ⟨(Ac p).lsn,(Ac p).kind,n.toNat,(Ac p).recs⟩).toArray⟩ by unfold D9;rw[if_neg (by rw[g];simp;omega)]];have v:(0:Int)≤n:=(by omega);have z:n<16777216:=(by omega);clear m o;change Pg.Pz (Ac p)at a;generalize Ac p=x at f a ⊢;have j:=Hq (fun A c W t=>Nj ⟨x.lsn,x.kind,n.toNat,x.recs⟩ A c ⟨a.small.1,a.small.2.1,r⟩ (by have:=a.Bb;show Pg.Bb x.recs≤_;omega) W t);clear a r g;generalize (⟨(Pg.Dh ⟨x.lsn,x.kind,n.toNat,x.recs⟩).toArray⟩:ByteArray)=q at j ⊢;simp only[h]at j;clear h;go_enter Tryz.func114,Tryz.ntmps114
    go_wp2_with(first|(go_at_call 61;refine(f.out _).mono ?_;rintro e i ⟨y,A,c,rfl,d,b⟩;obtain⟨u,k⟩:=d rfl;clear d;subst u)|(go_at_call 62;refine(j.out _ _ _ ((k.cells).below ((Below.refl _ _).alloc (Nat.le_refl _) _))).mono ?_;rintro e B ⟨rfl,l⟩))
    go_ret;exact⟨rfl,andThen (An b) l⟩
def Se (t:ByteArray):ByteArray:=Oct.Bj (Oct.Fg t.data.toList:Nat) 4++t
def E5 (p:ByteArray):ByteArray:=if Bo p then Se (p.extract 4 512)else⟨#[]⟩
theorem Hl {p:ByteArray}(h:Bo p=true):p.size=512:=by
 unfold Bo at h
 cases a:Pg.right p.data.toList with
 |none=>rw[a]at h;cases h
 |some x=>
  have:=(Pg.It a).2;have b:p.data.toList.length=p.size:=(by simp);omega
theorem Wm (t:ByteArray)(g:t.size≤1048576)(w:World):
 Cr 188 #[t] w (.string (Se t)):=by
 have a:=Hq (fun W=>jD t (by omega) W);unfold Se;generalize Oct.Fg t.data.toList=n at a ⊢;have d:(Oct.Bj (n:Int) 4).size=4:=Oct.Bx _ 4 (by omega);have b:=Hq (fun W=>I9 (n:Int) 4 (by omega) (by omega) W);generalize Oct.Bj (n:Int) 4=q at b d ⊢;have c:∀ W:World,(Op.stringOp .add q t).run Tryz.prog W= .ok (.string (q++t)) W:=fun W=>run_string_add_sum W _ _ (by omega);go_enter Tryz.func188,Tryz.ntmps188
 go_wp2_with(first|(go_at_call 223;refine(a.out _).mono ?_;rintro e h ⟨rfl,rfl⟩)|(go_at_call 171;refine(b.out _).mono ?_;rintro e i ⟨rfl,f⟩))
 go_ret;exact⟨rfl,f⟩
theorem lK (p:ByteArray)(g:p.size≤140737488355328)(w:World):
 Cr 131 #[p] w (.string (E5 p)):=by
 have c:=Hq (fun W=>N9 p g W);unfold E5
 cases b:Bo p with
 |false=>
  rw[b]at c;clear b;go_enter Tryz.func131,Tryz.ntmps131
  go_wp2_with(go_at_call 118;refine(c.out _).mono ?_;rintro e h ⟨rfl,a⟩)
  go_ret;exact⟨rfl,a⟩
 |true=>
  have f:=Hl b;have i:=Hq (fun W=>Wm (p.extract 4 512) (by simp;omega) W);rw[b]at c;clear b;go_enter Tryz.func131,Tryz.ntmps131
  go_wp2_with(first|(go_at_call 118;refine(c.out _).mono ?_;rintro e h ⟨rfl,a⟩)|(go_at_call 188;refine(i.out _).mono ?_;rintro e j ⟨rfl,d⟩))
  go_ret;exact⟨rfl,andThen a d⟩
def Jx (p:ByteArray):Bool:=Bo p&&decide (Se (p.extract 4 512)=p)
theorem yO (a b:ByteArray):(a.toList==b.toList)=decide (a=b):=by
 rw[ByteArray.toList_eq,ByteArray.toList_eq,Bool.beq_eq_decide_eq]
 by_cases h:a=b
 ·simp[h]
 ·have c:a.data.toList≠b.data.toList:=fun e=>h (ByteArray.ext (Array.toList_inj.1 e))
  simp[h,c]
theorem eU (p:ByteArray)(j:p.size≤140737488355328)(w:World):
 Cr 169 #[p] w (.bool (Jx p)):=by
 have d:=Hq (fun W=>N9 p j W);unfold Jx
 cases c:Bo p with
 |false=>
  rw[c]at d;clear c;go_enter Tryz.func169,Tryz.ntmps169
  go_wp2_with(go_at_call 118;refine(d.out _).mono ?_;rintro e k ⟨rfl,a⟩)
  go_ret;exact⟨rfl,a⟩
 |true=>
  have g:=Hl c;have h:=Hq (fun W=>Wm (p.extract 4 512) (by simp;omega) W);have i:=yO (Se (p.extract 4 512)) p;generalize Se (p.extract 4 512)=q at h i ⊢;generalize decide (q=p)=b at i ⊢;rw[c]at d;clear c;go_enter Tryz.func169,Tryz.ntmps169
  go_wp2_with(first|(go_at_call 118;refine(d.out _).mono ?_;rintro e k ⟨rfl,a⟩)|(go_at_call 188;refine(h.out _).mono ?_;rintro e l ⟨rfl,f⟩))
  go_ret;exact⟨by simp,andThen a f⟩
abbrev G6 (B:Nat)(w:World)(v:Value)(rs:List ByteArray):Prop:=w.ownsRow B 9 1 v rs.length (rs.map Value.string)
theorem G6.nil (B:Nat)(w:World):G6 B w (.slice none 0 0) []:=⟨rfl,.inl ⟨rfl,rfl⟩⟩
theorem G6.below {B:Nat}{w w':World}{v:Value}{rs:List ByteArray}(h:G6 B w v rs)(a:Bw w w'):G6 B w' v rs:=Lt h a
theorem G6.form {B:Nat}{w:World}{v:Value}{rs:List ByteArray}(h:G6 B w v rs):∃ A c,v= .slice A rs.length c∧Bi B w A c rs∧Cells w A c rs:=by
 obtain⟨A,c,rfl⟩:∃ A c,v= .slice A rs.length c:=by
  rcases h.2 with⟨a,d⟩|⟨g,cap,cur,a,_⟩
  ·exact⟨none,0,by rw[a,d]⟩
  ·exact⟨_,_,a⟩
 have b:=L4 h rfl;exact⟨A,c,rfl,b,b.cells⟩
theorem G6.block {B:Nat}{w:World}{v:Value}{rs:List ByteArray}(h:G6 B w v rs):∀ k,v.ownBlock=some k→B≤k:=fun k a=>(h.lt k a).1
theorem Kk {ops:Array Oper}{rest:List Oper}{o:Oper}{a:Act}{Q:Exit→Act→World→Prop}(w:World)(l:o.guard=none)(s x:Operand)
 (E:o.op= .call {callee:=.builtin .append,args:=#[s,x],argTypes:=#[26,26]})
 (B:Nat) (v:Value) (xs:List ByteArray) (F:a.eval s=v) (d:G6 B w v xs) (A:Option Addr) (c:Nat) (i:List ByteArray) (G:a.eval x= .slice A i.length c) (hy:Cells w A c i)
 (hlen:xs.length+i.length≤1048576) (f:B≤w.heap.size)
 (h:∀ v' w',G6 B w' v' (xs++i)→w.grownBy w' v.ownBlock→Below B w w'→wpList Tryz.prog ops Q rest (a.put o.dst v') w'):wpList Tryz.prog ops Q (o::rest) a w:=by
 obtain⟨i0,p,q,t,y⟩:=info_parts Mn;have I:∀ w':World,w.grownBy w' v.ownBlock→Below B w w':=fun w' J=>(Below.refl _ _).grown J f d.block;rcases A with _|L
 ·have M:i=[]:=by
   rcases Nat.eq_zero_or_pos i.length with z|z
   ·exact List.eq_nil_of_length_eq_zero z
   ·obtain⟨b,off,e,_⟩:=hy z
    cases e
  subst M;refine wpList_plain l fun K N=>?_;have m:(Builtin.append_ #[26,26] o.type #[v,.slice none 0 c]).run Tryz.prog w= .ok v w:=by
   rcases d.2 with⟨rfl,S⟩|⟨g,cap,cur,rfl,_,_,C,_⟩
   ·simp[Builtin.append_,run_underlying aC,sizeOf,typeInfo,p,Builtin.lenOf,Builtin.firstCells]
   ·simp[Builtin.append_,run_underlying aC,sizeOf,typeInfo,p,Builtin.lenOf,Builtin.firstCells,C,storeCells]
  unfold Oper.wp execOp;have D:a.eval x= .slice none 0 c:=G;simp only[E,resolve,invoke,builtin,Sem.run_bind,Sem.run_pure,Result.andThen_ok,List.map_toArray,List.map_cons,List.map_nil,F,D,m];exact N _ _ (h v w (by simpa using d) (World.grownBy.refl w _) (Below.refl _ _))
 ·refine wpList_append_own w l s x _ E B 9 i0 (.string ⟨#[]⟩) 1 16 aC p q t y rfl (by omega) v xs.length (xs.map Value.string) F d L i.length c (i.map Value.string) G (by simp) ?_ ?_ (by simp only[maxLen];omega) (by omega) f ?_
  ·intro j u n
   rw[List.getElem?_map]at n;obtain⟨r,O,rfl⟩:=Option.map_eq_some_iff.1 n;obtain⟨P,rfl⟩:=List.getElem?_eq_some_iff.1 O;obtain⟨b,off,e,_,_,k⟩:=hy (by omega)
   injection e with e
   subst e;rw[show(⟨b,off,none⟩:Addr).add j=⟨b,off+j,none⟩from Addr.add_mid b off j];exact k j P
  ·intro u n
   obtain⟨r,_,rfl⟩:=List.mem_map.1 n
   rfl
  ·intro v' w' R H _
   exact h v' w' (by unfold G6;rw[List.length_append,List.map_append];exact R) H (I w' H)
theorem Du {ops:Array Oper}{rest:List Oper}{o:Oper}{a:Act}{Q:Exit→Act→World→Prop}(w:World)(f:o.guard=none)(s x:Operand)
 (g:o.op= .call {callee:=.builtin .append,args:=#[s,x],argTypes:=#[26,26]})
 (B:Nat) (v:Value) (xs:List ByteArray) (i:a.eval s=v) (d:G6 B w v xs) (A:Option Addr) (m c:Nat) (e:List ByteArray) (j:e.length=m) (k:a.eval x= .slice A m c) (hy:Cells w A c e)
 (hlen:xs.length+m≤1048576) (b:B≤w.heap.size)
 (h:∀ v' w',G6 B w' v' (xs++e)→w.grownBy w' v.ownBlock→Below B w w'→wpList Tryz.prog ops Q rest (a.put o.dst v') w'):wpList Tryz.prog ops Q (o::rest) a w:=by
 subst j;exact Kk w f s x g B v xs i d A c e k hy hlen b h
theorem Cells.Wn {w:World}{A:Option Addr}{c:Nat}{rs:List ByteArray}(h:Cells w A c rs)(m:Nat):Cells w A c (rs.take m):=fun e=>by
 rw[List.length_take]at e;obtain⟨b,off,f,i,d,a⟩:=h (by omega);refine⟨b,off,f,by rw[List.length_take];omega,d,fun j g=>?_⟩;rw[List.length_take]at g;rw[List.getElem_take];exact a j (by omega)
theorem Cells.jK {w:World}{b off c:Nat}{rs:List ByteArray}(h:Cells w (some ⟨b,off,none⟩) c rs)(m:Nat):Cells w (some ⟨b,off+m,none⟩) (c-m) (rs.drop m):=fun k=>by
 rw[List.length_drop]at k;obtain⟨n,i,d,o,e,a⟩:=h (by omega)
 injection d with d
 injection d with f g
 subst f;subst g;refine⟨b,off+m,rfl,by rw[List.length_drop];omega,e,fun j l=>?_⟩;rw[List.length_drop]at l;rw[List.getElem_drop,Nat.add_assoc];exact a (m+j) (by omega)
theorem Cells.Aak (w:World)(A:Option Addr)(c:Nat){rs:List ByteArray}(h:rs.length=0):Cells w A c rs:=fun a=>by omega
end Go.Proofs.YtdfkambdagoojaaGreatDoor
namespace Pg
def putAt (rs:List ByteArray)(k:Nat)(r:ByteArray):List ByteArray:=(rs++List.replicate (k+1-rs.length) (⟨#[]⟩:ByteArray)).set k r
def Ug (rs:List ByteArray)(k:Nat):List ByteArray:=rs++List.replicate k (⟨#[]⟩:ByteArray)
theorem Sf (rs:List ByteArray)(k:Nat):(Ug rs k).length=rs.length+k:=by simp[Ug]
theorem Wo (rs:List ByteArray)(k:Nat):Ug rs (k+1)=Ug rs k++[⟨#[]⟩]:=by
 unfold Ug;rw[List.replicate_succ',List.append_assoc]
end Pg
namespace Go.Proofs.YtdfkambdagoojaaGreatDoor
open Go.RowKit
theorem cells_one (w:World)(r:ByteArray):Cells (w.alloc (.cells #[r] 9)) (some ⟨w.heap.size,0,none⟩) 1 [r]:=fun _=>by
 refine⟨w.heap.size,0,rfl,Nat.le_refl _,by simp,fun j a=>?_⟩;obtain rfl:j=0:=by simpa using a
 rw[cell_of_row _ _ _ _ _ _ (heap_alloc_new w (.cells #[r] 9))];rfl
theorem aT {B:Nat}{w:World}{v:Value}{rs:List ByteArray}(h:G6 B w v rs)(a:0<rs.length):∃ g c,v= .slice (some ⟨g,0,none⟩) rs.length c∧B≤g∧rs.length≤c∧g<w.heap.size∧(∀ j (hj:j<rs.length),w.cell? ⟨g,j,none⟩=some (.string rs[j]))∧(∀ j,w.frozen? ⟨g,j,none⟩=false):=by
 obtain⟨A,c,rfl,b,-⟩:=h.form;obtain⟨g,rfl,d,e,f,i⟩:=b a;exact⟨g,c,rfl,d,e,f,i,fun j=>h.frozenAt j⟩
theorem Uh {B:Nat}{w:World}{g c:Nat}{rs:List ByteArray}(h:G6 B w (.slice (some ⟨g,0,none⟩) rs.length c) rs)(k:Nat)(r:ByteArray):G6 B (w.setCell ⟨g,k,none⟩ (.string r)) (.slice (some ⟨g,0,none⟩) (rs.set k r).length c) (rs.set k r):=by
 have a:=(h.stored k (.string r)).1;unfold G6;rw[List.length_set,List.map_set];exact a
def uN (v:Value):Nat:=match v with| .slice _ n _=>n|_=>0
theorem P2 (x:Pg.Dg)(A:Option Addr)(c k:Nat)(r:ByteArray)(hl:x.recs.length≤4096)(hk:k≤4096)(w:World)(h:Cells w A c x.recs):
 Cq 208 #[Gi x A c,.int .i64 (k:Int),r] w fun e w'=>∃ A' c',e= .returned (Gi {x with recs:=Pg.putAt x.recs k r} A' c')∧Bi w.heap.size w' A' c' (Pg.putAt x.recs k r)∧Bw w w':=by
 go_enter Tryz.func208,Tryz.ntmps208
 go_wp2_with(at_builtin;refine Kk _ rfl _ _ rfl (w.heap.size+2) (.slice none 0 0) [] rfl (G6.nil _ _) A c x.recs rfl ((h.below ((Below.refl _ _).alloc (Nat.le_refl _) _)).below ((Below.refl _ _).alloc (Nat.le_refl _) _)) (by simp;omega) (by simp) ?_;intro v1 w1 d C f)
 rw[List.nil_append]at d;have Q:w.heap.size+2≤w1.heap.size:=by have:=f.size;simp at this;omega
 have o:w1.heap[w.heap.size]? =some (.cells #[x.lsn,x.kind,x.link,.slice A x.recs.length c] 147 (0,0)):=by
  rw[f.block _ (by omega),Below.heap_alloc _ _ _ (by simp)];exact heap_alloc_new w _
 have p:w1.heap[w.heap.size+1]? =some (.cells #[(),(),(),'s'] 147 (0,0)):=by
  rw[f.block _ (by omega)];have:=heap_alloc_new (w.alloc (.cells #[x.lsn,x.kind,x.link,.slice A x.recs.length c] 147)) (.cells #[(),(),(),'s'] 147)
  simpa using this
 have q:Bw w w1:=(((Below.refl _ _).alloc (Nat.le_refl _) _).alloc (by simp) _).trans (f.mono (by omega));have U:=Hq o;have V:=Hq p;have D:=Hq q;have HC:=Hq h;clear o p q f C h
 go_loopw [7] (fun v wr=>∃ j,j≤k+1-x.recs.length∧G6 (w.heap.size+2) wr v (Pg.Ug x.recs j)∧Below (w.heap.size+2) w1 wr) (fun v _=>8193-uN v)
 case atStart=>exact⟨0,Nat.zero_le _,by simpa[Pg.Ug]using d,Below.refl _ _⟩
 case round=>
  obtain⟨j,hj,a,s⟩:=hrel;have W:=s.size;have m:=Pg.Sf x.recs j;have E:=Hq (Pg.Wo x.recs j);obtain⟨L,F⟩:=ex (Pg.Ug x.recs j);rw[← F]at a m E;have X:=Hq F;have Y:=Hq m;clear F;obtain⟨Av,R,rfl,t,-⟩:=a.form
  by_cases Z:L.length≤k
  ·have G:j+1≤k+1-x.recs.length:=by omega
   clear m t
   go_wp2_with(at_builtin;refine Kk _ rfl _ _ rfl (w.heap.size+2) _ L rfl (a.below ((Below.refl _ _).alloc (Nat.le_refl _) _)) _ 1 [⟨#[]⟩] rfl (cells_one wr _) (by simp;omega) (by simp;omega) ?_;intro v2 w2 b H I)
   have J:Below (w.heap.size+2) w1 w2:=s.trans (((Below.refl _ _).alloc (by omega) _).trans I);rw[← E.out]at b;have hf:∃ A' c',v2= .slice A' (L.length+1) c':=by
    obtain⟨A',c',rfl,-⟩:=b.form;exact⟨A',c',by rw[E.out,List.length_append];rfl⟩
   obtain⟨A',c',rfl⟩:=hf;clear H;go_roundw
   case rel=>exact⟨j+1,G,b,J⟩
   case measure=>simp[uN];omega
  ·have u:j=k+1-x.recs.length:=by omega
   have K:k<L.length:=(by omega);obtain⟨g,a1,hv,hg,a6,a7,i,y⟩:=aT a (by omega)
   injection hv with hA hn M
   subst hA;subst M;have a8:=i k K;have aa:=y k;have n:=Uh a k r;have l:L.set k r=Pg.putAt x.recs k r:=(by rw[X.out,u];rfl);rw[l]at n;have N:=Hq n;have z:(Pg.putAt x.recs k r).length=L.length:=(by rw[← l,List.length_set]);have O:=Hq z;obtain⟨x0,x1,x2,x3,f0,f1,f2,f3⟩:=Dw ((s.block _ (by omega)).trans U.out);obtain⟨y0,y1,y2,y3,k0,k1,k2,k3⟩:=Dw ((s.block _ (by omega)).trans V.out);have P:Bw w wr:=D.out.trans (s.mono (by omega));have ad:(0:Int)≤(k:Int):=(by omega);have ae:(k:Int)<(L.length:Int):=(by omega);clear i y n l z u m t;go_wp2_with fail;have S:g≠w.heap.size+1:=(by omega);have T:g≠w.heap.size:=(by omega);refine bodyPost_ret (v:=.agg #[x.lsn,x.kind,x.link,.slice (some ⟨g,0,none⟩) L.length R]) (by simp[results,Tryz.results208,go_sem,y0,y1,y2,y3]) rfl ?_;refine⟨some ⟨g,0,none⟩,R,by rw[← O.out],?_,?_⟩
   ·have ho:=L4 N.out rfl
    refine Bi.mono (B:=w.heap.size+2) ?_ (by omega)
    repeat (first|(with_reducible exact ho)|(with_reducible refine Bi.set ?_ _ (by simp;done) _))
   ·repeat (first|(with_reducible exact P)|(with_reducible refine Below.setCell ?_ (by first|(simp;done)|(show w.heap.size≤g;omega)) _))
theorem lM (A:Option Addr)(c n:Nat)(i:Int)(r:ByteArray)(h:512<i)(w:World):
 Cq 163 #[.slice A n c,i,r] w fun e w'=>e= .returned (.tuple #['s',false])∧w=w':=by
 go_enter Tryz.func163,Tryz.ntmps163;go_wp2_with fail;go_ret2;exact⟨rfl,rfl⟩
theorem O6 (rs:List ByteArray)(A:Option Addr)(c k:Nat)(r:ByteArray)(hl:rs.length≤4096)(hk:k≤512)(w:World)(h:Cells w A c rs):
 Cq 163 #[.slice A rs.length c,.int .i64 (k:Int),r] w fun e w'=>∃ A' c',e= .returned (.tuple #[.slice A' (Pg.putAt rs k r).length c',true])∧Bi w.heap.size w' A' c' (Pg.putAt rs k r)∧Bw w w':=by
 have t:(k:Int)≤512:=by omega
 go_enter Tryz.func163,Tryz.ntmps163
 go_wp2_with(at_builtin;refine Kk _ rfl _ _ rfl w.heap.size (.slice none 0 0) [] rfl (G6.nil _ _) A c rs rfl h (by simp;omega) (Nat.le_refl _) ?_;intro v1 w1 d u n)
 rw[List.nil_append]at d;have HC:=Hq h;have J:=Hq n;clear u h t n
 go_loopw [8] (fun v wr=>∃ j,j≤k+1-rs.length∧G6 w.heap.size wr v (Pg.Ug rs j)∧Bw w wr) (fun v _=>8193-uN v)
 case atStart=>exact⟨0,Nat.zero_le _,by simpa[Pg.Ug]using d,J.out⟩
 case round=>
  obtain⟨j,hj,a,x⟩:=hrel;have K:=x.size;have l:=Pg.Sf rs j;have y:=Hq (Pg.Wo rs j);obtain⟨L,z⟩:=ex (Pg.Ug rs j);rw[← z]at a l y;have M:=Hq z;have N:=Hq l;clear z;obtain⟨Av,O,rfl,o,-⟩:=a.form
  by_cases P:L.length≤k
  ·have B:j+1≤k+1-rs.length:=by omega
   clear l o
   go_wp2_with(at_builtin;refine Kk _ rfl _ _ rfl w.heap.size _ L rfl (a.below ((Below.refl _ _).alloc (Nat.le_refl _) _)) _ 1 [⟨#[]⟩] rfl (cells_one wr _) (by simp;omega) (by simp;omega) ?_;intro v2 w2 b C D)
   have E:Bw w w2:=x.trans (((Below.refl _ _).alloc (by omega) _).trans D);rw[← y.out]at b;have Q:∃ A' c',v2= .slice A' (L.length+1) c':=by
    obtain⟨A',c',rfl,-⟩:=b.form;exact⟨A',c',by rw[y.out,List.length_append];rfl⟩
   obtain⟨A',c',rfl⟩:=Q;clear C;go_roundw
   case rel=>exact⟨j+1,B,b,E⟩
   case measure=>simp[uN];omega
  ·have p:j=k+1-rs.length:=by omega
   have F:k<L.length:=(by omega);obtain⟨g,R,S,T,U,V,f,q⟩:=aT a (by omega)
   injection S with W hn G
   subst W;subst G;have X:=f k F;have Y:=q k;have m:=Uh a k r;have i:L.set k r=Pg.putAt rs k r:=(by rw[M.out,p];rfl);rw[i]at m;have H:=Hq m;have s:(Pg.putAt rs k r).length=L.length:=(by rw[← i,List.length_set]);have I:=Hq s;have Z:(0:Int)≤(k:Int):=(by omega);have a1:(k:Int)<(L.length:Int):=(by omega);clear f q m i s p l o;go_wp2_with fail;go_ret2;exact⟨some ⟨g,0,none⟩,O,(by rw[I.out];rfl),L4 H.out rfl,x.setCell T _⟩
end Go.Proofs.YtdfkambdagoojaaGreatDoor
namespace Pg
theorem eV (rs:List ByteArray):Bb (trim rs)≤Bb rs:=by
 unfold Bb trim;have:=Cs rs (Ev rs rs.length);have:=List.length_take_le (Ev rs rs.length) rs;have:(rs.take (Ev rs rs.length)).length≤rs.length:=by rw[List.length_take];omega
 omega
theorem aU {x:Dg}(h:512<Bb (trim x.recs)):Dh x=[]:=by unfold Dh Nh;rw[if_pos h]
theorem Nl {x:Dg}(h:Bb (trim x.recs)≤512):(Dh x).length=512:=R6 x _ (by omega)
theorem P3 (x:Dg):Dh x=[]↔512<Bb (trim x.recs):=by
 constructor
 ·intro h
  rcases Nat.lt_or_ge 512 (Bb (trim x.recs))with a|a
  ·exact a
  ·have:=Nl a;rw[h]at this;cases this
 ·exact aU
def Ea (x:Dg):ByteArray×Int:=if Dh x=[]then(⟨#[]⟩,18)else(⟨(Dh x).toArray⟩,0)
theorem Re {x:Dg}(h:Bb (trim x.recs)≤512):Ea x=(⟨(Dh x).toArray⟩,0):=by
 unfold Ea;rw[if_neg];rw[P3];omega
theorem aV {x:Dg}(h:512<Bb (trim x.recs)):Ea x=(⟨#[]⟩,18):=by
 unfold Ea;rw[if_pos ((P3 x).2 h)]
end Pg
namespace Go.Proofs.YtdfkambdagoojaaGreatDoor
open Go.RowKit
abbrev G7 (o:ByteArray×Int):Value:=.tuple #[o.1,o.2]
theorem L5 (x:Pg.Dg)(A:Option Addr)(c:Nat)(i:Pg.Small x)(j:Pg.Bb x.recs≤1099511627776)(w:World)(h:Cells w A c x.recs):
 Cr 207 #[Gi x A c] w (G7 (Pg.Ea x)):=by
 have d:=Hq (Ni x A c i j _ (h.below ((Below.refl w.heap.size w).alloc (Nat.le_refl _) (.cells #[x.lsn,x.kind,x.link,.slice A x.recs.length c] 147 (0,0)))));clear h;unfold Pg.Ea
 by_cases a:Pg.Dh x=[]
 ·rw[if_pos a]
  rw[a]at d;clear a;go_enter Tryz.func207,Tryz.ntmps207
  go_wp2_with(go_at_call 125;refine(d.out).mono ?_;rintro e k ⟨rfl,b⟩)
  go_ret2;exact⟨rfl,Bd b⟩
 ·rw[if_neg a]
  obtain⟨q,f⟩:=ex (⟨(Pg.Dh x).toArray⟩:ByteArray);rw[← f]at d ⊢;have l:q.toList.isEmpty=false:=by
   rw[Hk,f];refine decide_eq_false fun m=>a ?_;have n:(Pg.Dh x).toArray.size=0:=m
   simpa using n
  have g:q.toList=Pg.Dh x:=by rw[ByteArray.toList_eq,f]
  have o:¬ q.toList=[]:=by rw[g];exact a
  clear a f g;go_enter Tryz.func207,Tryz.ntmps207
  go_wp2_with(go_at_call 125;refine(d.out).mono ?_;rintro e k ⟨rfl,b⟩)
  go_ret2;exact⟨rfl,Bd b⟩
theorem Nn (x:Pg.Dg)(A:Option Addr)(c:Nat)(n:Pg.Small x)(d:Pg.Bb x.recs≤1099511627776)(i:Pg.Bb x.recs≤512∨Pg.trim x.recs=x.recs)(w:World)(h:Cells w A c x.recs):
 Cr 164 #[Gi x A c] w (G7 (Pg.Ea x)):=by
 have m:=Hq (fun W f=>Nj x A c n d W f);have j:=Hq (h.below ((Below.refl w.heap.size w).alloc (Nat.le_refl _) (.cells #[x.lsn,x.kind,x.link,.slice A x.recs.length c] 90 (0,0))));clear h
 by_cases b:Pg.Bb x.recs≤512
 ·rw[Pg.Re (Nat.le_trans (Pg.eV _) b)]
  have k:=Hq (fun W f=>P0 x A c x.recs d true (decide_eq_true b) W f);clear b d i;generalize (⟨(Pg.Dh x).toArray⟩:ByteArray)=q at m ⊢;go_enter Tryz.func164,Tryz.ntmps164
  go_wp2_with(first|(go_at_call 106;refine(k.out _ j.out).mono ?_;rintro e o ⟨rfl,a⟩;obtain⟨c0,c1,c2,c3,f0,f1,f2,f3⟩:=Dw (Cm a))|(go_at_call 62;refine(m.out _ (j.out.below a)).mono ?_;rintro e p ⟨rfl,l⟩))
  go_ret2;exact⟨rfl,andThen (Bd a) l⟩
 ·have g:Pg.trim x.recs=x.recs:=by rcases i with h|h;exact absurd h b;exact h
  rw[Pg.aV (by rw[g];omega)];have k:=Hq (fun W f=>P0 x A c x.recs d false (decide_eq_false b) W f);clear b d i g;go_enter Tryz.func164,Tryz.ntmps164
  go_wp2_with(first|(go_at_call 106;refine(k.out _ j.out).mono ?_;rintro e o ⟨rfl,a⟩))
  go_ret2;exact⟨rfl,Bd a⟩
end Go.Proofs.YtdfkambdagoojaaGreatDoor
namespace Pg
theorem O7 (n:Nat):Aq (List.replicate n (⟨#[]⟩:ByteArray))=0:=by
 induction n with
 |zero=>rfl
 |succ n ih=>rw[List.replicate_succ,Aq,ih];rfl
theorem Yl (rs:List ByteArray)(k:Nat)(r:ByteArray)(h:k<rs.length):Aq (rs.set k r)+rs[k].size=Aq rs+r.size:=by
 have a:=Ki rs k h;rw[List.set_eq_take_append_cons_drop,if_pos h,Dn,Aq];omega
theorem Mo (rs:List ByteArray)(k:Nat)(r:ByteArray):(putAt rs k r).length=max rs.length (k+1):=by
 unfold putAt
 simp
 omega
theorem Wp (rs:List ByteArray)(k:Nat)(r:ByteArray):Aq (putAt rs k r)≤Aq rs+r.size:=by
 unfold putAt;have h:k<(rs++List.replicate (k+1-rs.length) (⟨#[]⟩:ByteArray)).length:=by simp;omega
 have a:=Yl _ k r h;rw[Dn,O7]at a;omega
theorem Iu {rs:List ByteArray}{k:Nat}{r:ByteArray}{m:Nat}(b:∀ r∈rs,r.size≤m)(c:r.size≤m):∀ q∈putAt rs k r,q.size≤m:=by
 intro q a;unfold putAt at a;rcases List.mem_or_eq_of_mem_set a with h|h
 ·rw[List.mem_append]at h
  rcases h with h|h
  ·exact b q h
  ·rw[(List.mem_replicate.1 h).2];exact Nat.zero_le _
 ·rw[h];exact c
theorem Wq (rs:List ByteArray)(k:Nat)(r:ByteArray)(j:Nat):((putAt rs k r)[j]?).getD ⟨#[]⟩=if j=k then r else(rs[j]?).getD ⟨#[]⟩:=by
 unfold putAt;rw[List.getElem?_set]
 by_cases h:k=j
 ·subst h
  rw[if_pos rfl,if_pos (by simp;omega),if_pos rfl];rfl
 ·rw[if_neg h,if_neg (fun e=>h e.symm),List.getElem?_append]
  split
  ·rfl
  ·rename_i a
   rw[List.getElem?_replicate,List.getElem?_eq_none (by omega)]
   split<;>rfl
theorem V3 {rs:List ByteArray}(h:rs.length=0∨((rs[rs.length-1]?).getD ⟨#[]⟩).size≠0):Jg rs:=by
 intro r a;rw[List.getLast?_eq_getElem?]at a;rcases h with h|h
 ·rw[List.eq_nil_of_length_eq_zero h]at a;simp at a
 ·rw[a]at h;exact h
theorem Ui {rs:List ByteArray}(h:Jg rs):rs.length=0∨((rs[rs.length-1]?).getD ⟨#[]⟩).size≠0:=by
 rcases Nat.eq_zero_or_pos rs.length with a|a
 ·exact .inl a
 ·right
  have b:rs[rs.length-1]? =some rs[rs.length-1]:=List.getElem?_eq_getElem (by omega);rw[b];exact h _ (by rw[List.getLast?_eq_getElem?,b];rfl)
theorem No {rs:List ByteArray}(h:Jg rs)(k:Nat){r:ByteArray}(b:r.size≠0):Jg (putAt rs k r):=by
 refine V3 (.inr ?_);rw[Wq,Mo]
 split
 ·exact b
 ·rcases Ui h with a|a
  ·omega
  ·rw[show max rs.length (k+1)-1=rs.length-1 by omega];exact a
theorem Gk (rs:List ByteArray)(k:Nat)(r:ByteArray):Bb (putAt rs k r)≤19+4*max rs.length (k+1)+(Aq rs+r.size):=by
 have:=Wp rs k r;unfold Bb;rw[Mo];omega
theorem eW {rs:List ByteArray}{k:Nat}(h:k<rs.length):Bb (putAt rs k ⟨#[]⟩)≤Bb rs:=by
 have a:=Gk rs k ⟨#[]⟩;have b:(⟨#[]⟩:ByteArray).size=0:=rfl;unfold Bb at a ⊢;omega
def G8 (rs:List ByteArray)(k:Nat)(r:ByteArray):List ByteArray:=if rs.length≤k then putAt rs k r else rs.take k++[r]++rs.drop k
def Fx (rs:List ByteArray)(k:Nat):List ByteArray:=rs.take k++rs.drop (k+1)
theorem Ws (rs:List ByteArray)(k:Nat)(r:ByteArray):Aq (G8 rs k r)≤Aq rs+r.size:=by
 unfold G8
 split
 ·exact Wp rs k r
 ·have h:=Dn (rs.take k) (rs.drop k)
  rw[List.take_append_drop]at h;rw[Dn,Dn,Aq,Aq];omega
theorem P4 (rs:List ByteArray)(k:Nat)(r:ByteArray):(G8 rs k r).length=max (rs.length+1) (k+1):=by
 unfold G8
 split
 ·rw[Mo];omega
 ·simp;omega
theorem lN {rs:List ByteArray}{k:Nat}(h:k<rs.length):Aq (Fx rs k)+rs[k].size=Aq rs:=by
 have a:=Ki rs k h;unfold Fx;rw[Dn];omega
theorem Ym {rs:List ByteArray}{k:Nat}(h:k<rs.length):(Fx rs k).length+1=rs.length:=by
 unfold Fx;simp;omega
theorem O9 {rs:List ByteArray}{k:Nat}(h:k<rs.length):Bb (Fx rs k)≤Bb rs:=by
 have a:=lN h;have b:=Ym h;unfold Bb;omega
theorem aW {rs:List ByteArray}(h:Jg rs)(k:Nat){r:ByteArray}(c:r.size≠0):Jg (G8 rs k r):=by
 unfold G8
 split
 ·exact No h k c
 ·rename_i b
  intro q a;rw[List.getLast?_append]at a;refine h q ?_;rw[List.getLast?_drop,if_neg b]at a;have d:rs.getLast? =some (rs.getLast (by intro e;rw[e]at b;simp at b)):=List.getLast?_eq_some_getLast _;rw[d]at a ⊢;exact a
theorem Wt {rs:List ByteArray}{k:Nat}{r:ByteArray}{m:Nat}(a:∀ r∈rs,r.size≤m)(b:r.size≤m):∀ q∈G8 rs k r,q.size≤m:=by
 unfold G8
 split
 ·exact Iu a b
 ·intro q c
  simp only[List.mem_append,List.mem_singleton]at c;rcases c with(h|h)|h
  ·exact a q (List.mem_of_mem_take h)
  ·rw[h];exact b
  ·exact a q (List.mem_of_mem_drop h)
theorem Wu {rs:List ByteArray}{k:Nat}{m:Nat}(b:∀ r∈rs,r.size≤m):∀ q∈Fx rs k,q.size≤m:=by
 intro q a;unfold Fx at a;rw[List.mem_append]at a;rcases a with h|h
 ·exact b q (List.mem_of_mem_take h)
 ·exact b q (List.mem_of_mem_drop h)
theorem Gs {rs:List ByteArray}{i:Int}(h:(Ay rs i).size≠0):0≤i∧i<rs.length:=by
 constructor
 ·rcases Int.lt_or_le i 0 with a|a
  ·rw[O4 a]at h;exact absurd rfl h
  ·exact a
 ·rcases Int.lt_or_le i rs.length with a|a
  ·exact a
  ·rw[Li a]at h;exact absurd rfl h
structure Good (x:Dg):Prop where
 fine:Pz x
 tight:Jg x.recs
 fits:Bb x.recs≤512
theorem eX {p:List UInt8}{x:Dg}(h:right p=some x):Good x:=
 ⟨(It h).1,(Lk h).1,(Lk h).2⟩
theorem aX (p:List UInt8):Good (Ls p):=by
 unfold Ls
 cases h:right p with
 |none=>exact⟨Wj,(by intro r a;cases a),by decide⟩
 |some x=>exact eX h
end Pg
