import Derived.Test.YtmldoihahndcgaaGreatDoorHs00
import Derived.Test.YtmldoihahndcgaaGreatDoorHs01
import Derived.Deep.QuietTactic
import Derived.BigQuiet
import Derived.Deep.DeepCutAuto
import Derived.Deep.LoopGhost
import Derived.Deep.RegionHeld3
import Derived.Deep.AppendLies
import Derived.Laws.ResultCell
import Derived.Laws.Tables
import Derived.BigRegion
import Derived.IntWalk
import Derived.Maps.AppendAt
import Derived.OwnWalk
import Derived.Deep.MidRow
set_option maxRecDepth 100000
set_option maxHeartbeats 16000000
set_option linter.unusedSimpArgs false
namespace Pg
open Oct
structure Cx where
 lsn:Nat
 kind:Nat
 link:Nat
 recs:List ByteArray
def Small (x:Cx):Prop:=x.lsn<281474976710656∧x.kind≤4∧x.link<16777216
def zero:Cx:=⟨0,0,0,[]⟩
def Aq:List ByteArray→Nat
 |[]=>0
 |r::rs=>r.size+Aq rs
theorem Eg (a b:List ByteArray):Aq (a++b)=Aq a+Aq b:=by
 induction a with
 |nil=>simp[Aq]
 |cons r a ih=>simp[Aq,ih];omega
theorem Cl (rs:List ByteArray)(k:Nat):Aq (rs.take k)≤Aq rs:=by
 have h:=Eg (rs.take k) (rs.drop k);rw[List.take_append_drop]at h;omega
theorem Hi (rs:List ByteArray)(k:Nat)(h:k<rs.length):Aq (rs.take (k+1))=Aq (rs.take k)+rs[k].size:=by
 rw[List.take_succ_eq_append_getElem h,Eg];simp[Aq]
def A4 (rs:List ByteArray):Nat:=19+4*rs.length+Aq rs
def Ea (rs:List ByteArray):Nat→Nat
 |0=>0
 |m+1=>if(rs[m]?.getD ⟨#[]⟩).size=0 then Ea rs m else m+1
theorem Np (rs:List ByteArray)(m:Nat):Ea rs m≤m:=by
 induction m with
 |zero=>exact Nat.le_refl _
 |succ m ih=>unfold Ea;split<;>omega
def trim (rs:List ByteArray):List ByteArray:=rs.take (Ea rs rs.length)
def La (at_:Nat)(r:ByteArray):List UInt8:=if r.size=0 then Bi 0 4 else Bi (at_-r.size) 2++Bi r.size 2
def Co (at_:Nat):List ByteArray→List UInt8
 |[]=>[]
 |r::rs=>La at_ r++Co (at_-r.size) rs
theorem Ms (a b:List ByteArray):∀ at_:Nat,Co at_ (a++b)=Co at_ a++Co (at_-Aq a) b:=by
 induction a with
 |nil=>intro at_;simp[Co,Aq]
 |cons r a ih=>intro at_;simp only[List.cons_append,Co,ih,Aq,List.append_assoc,Nat.sub_sub]
theorem Pp (rs:List ByteArray)(k:Nat)(h:k<rs.length):Co 512 (rs.take (k+1))=Co 512 (rs.take k)++La (512-Aq (rs.take k)) rs[k]:=by
 rw[List.take_succ_eq_append_getElem h,Ms];simp[Co]
theorem Vl (at_:Nat)(r:ByteArray):(La at_ r).length=4:=by
 unfold La;split<;>simp[A5]
theorem Eb (rs:List ByteArray):∀ at_,(Co at_ rs).length=4*rs.length:=by
 induction rs with
 |nil=>intro _;rfl
 |cons r rs ih=>intro at_;simp[Co,Vl,ih];omega
def Di:List ByteArray→List UInt8
 |[]=>[]
 |r::rs=>Di rs++r.data.toList
theorem Fa (rs:List ByteArray):(Di rs).length=Aq rs:=by
 induction rs with
 |nil=>rfl
 |cons r rs ih=>simp[Di,Aq,ih];omega
theorem aM (rs:List ByteArray)(k:Nat)(h:k<rs.length):Di (rs.drop k)=Di (rs.drop (k+1))++rs[k].data.toList:=by
 rw[List.drop_eq_getElem_cons h];rfl
theorem Nq (a b:List ByteArray):Di (a++b)=Di b++Di a:=by
 induction a with
 |nil=>simp[Di]
 |cons r a ih=>simp[Di,ih]
theorem aN (rs:List ByteArray)(k:Nat)(h:k<rs.length):Di (rs.take (k+1))=rs[k].data.toList++Di (rs.take k):=by
 rw[List.take_succ_eq_append_getElem h,Nq];simp[Di]
def K3 (x:Cx)(n at_:Nat):List UInt8:=Bi 0 4++Bi x.lsn 6++Bi x.kind 1++Bi 0 1++Bi x.link 3++Bi n 2++Bi at_ 2
theorem Vm (x:Cx)(n at_:Nat):(K3 x n at_).length=19:=by simp[K3,A5]
def Lb (x:Cx)(rs:List ByteArray):List UInt8:=
 if 512<A4 rs then[]else K3 x rs.length (512-Aq rs)++Co 512 rs++List.replicate (512-A4 rs) 0++Di rs
def C7 (x:Cx):List UInt8:=Lb x (trim x.recs)
theorem Pq (x:Cx)(rs:List ByteArray)(h:¬ 512<A4 rs):(Lb x rs).length=512:=by
 rw[Lb,if_neg h]
 simp[Vm,Eb,Fa]
 unfold A4 at h ⊢;omega
def Ds (p:List UInt8):Nat→Option (List ByteArray)
 |0=>some []
 |k+1=>match Ds p k with
  |none=>none
  |some rs=>
   if 400<Dl p (21+4*k) 2∨512<Dl p (19+4*k) 2+Dl p (21+4*k) 2 then none
   else some (rs++[⟨((p.drop (Dl p (19+4*k) 2)).take (Dl p (21+4*k) 2)).toArray⟩])
theorem Hj (p:List UInt8):∀ (k:Nat) (rs:List ByteArray),Ds p k=some rs→rs.length=k:=by
 intro k
 induction k with
 |zero=>intro rs h;simp[Ds]at h;rw[h];rfl
 |succ k a=>
  intro rs h;unfold Ds at h
  split at h
  ·cases h
  ·rename_i c b
   split at h
   ·cases h
   ·injection h with h
    rw[← h,List.length_append,a _ b];rfl
theorem Pr (p:List UInt8){k:Nat}(h:Ds p k=none):∀ j,Ds p (k+j)=none:=by
 intro j
 induction j with
 |zero=>exact h
 |succ j ih=>
  show Ds p ((k+j)+1)=none
  simp only[Ds,ih]
def rd (p:List UInt8):Option Cx:=
 if p.length≠512∨4<Dl p 10 1∨123<Dl p 15 2 then none
 else(Ds p (Dl p 15 2)).map fun rs=>⟨Dl p 4 6,Dl p 10 1,Dl p 12 3,rs⟩
def right (p:List UInt8):Option Cx:=(rd p).filter fun x=>decide (C7 x=Bi 0 4++p.drop 4)
def Jo (p:List UInt8):Cx:=(right p).getD zero
theorem Q8 (s:List UInt8)(a k:Nat):Oct.Dl s a k<256^k:=by
 have b:=Oct.Ig ((s.drop a).take k);have c:256^((s.drop a).take k).length≤256^k:=Nat.pow_le_pow_right (by omega) (by rw[List.length_take];omega);unfold Oct.Dl;omega
theorem Vn (p:List UInt8):∀ (k:Nat) (rs:List ByteArray),Ds p k=some rs→∀ r∈rs,r.size≤400:=by
 intro k
 induction k with
 |zero=>intro rs h;simp[Ds]at h;subst h;intro r hr;cases hr
 |succ k a=>
  intro rs h;unfold Ds at h
  split at h
  ·cases h
  ·rename_i b c
   split at h
   ·cases h
   ·rename_i d
    injection h with h
    intro r hr;rw[← h,List.mem_append]at hr;rcases hr with hr|hr
    ·exact a b c r hr
    ·rw[List.mem_singleton.1 hr]
     simp[ByteArray.size]
     omega
theorem Xk (rs:List ByteArray)(m:Nat)(h:∀ r∈rs,r.size≤m):Aq rs≤m*rs.length:=by
 induction rs with
 |nil=>simp[Aq]
 |cons r rs ih=>
  have b:=h r (by simp);have c:=ih (fun r a=>h r (by simp[a]));simp only[Aq,List.length_cons,Nat.mul_succ];omega
structure Qh (x:Cx):Prop where
 small:Small x
 len:x.recs.length≤123
 each:∀ r∈x.recs,r.size≤400
theorem Qh.sum {x:Cx}(h:Qh x):Aq x.recs≤49200:=by
 have:=Xk x.recs 400 h.each;have:=h.len;omega
theorem Qh.A4 {x:Cx}(h:Qh x):Pg.A4 x.recs≤60000:=by
 have:=h.sum;have:=h.len;unfold Pg.A4;omega
theorem Tv:Qh zero:=⟨⟨by decide,by decide,by decide⟩,by decide,by intro r a;cases a⟩
theorem Qj {p:List UInt8}{x:Cx}(h:rd p=some x):Qh x∧p.length=512:=by
 unfold rd at h
 split at h
 ·cases h
 ·rename_i d
  cases a:Ds p (Dl p 15 2)with
  |none=>rw[a]at h;cases h
  |some rs=>
   rw[a]at h
   injection h with h
   subst h;have b:=Q8 p 4 6;have c:=Q8 p 12 3;refine⟨⟨⟨by simpa using b,(by show Dl p 10 1≤4;omega),by simpa using c⟩,(by show rs.length≤123;rw[Hj p _ rs a];omega),Vn p _ rs a⟩,by omega⟩
theorem aO (x:Cx):C7 x=[]∨((C7 x).length=512∧∀ p:List UInt8,(C7 x=Bi 0 4++p.drop 4↔(C7 x).drop 4=p.drop 4)):=by
 by_cases h:512<Pg.A4 (trim x.recs)
 ·left;unfold C7 Lb;rw[if_pos h]
 ·right
  refine⟨Pq x _ h,fun p=>?_⟩;have b:C7 x=Bi 0 4++(C7 x).drop 4:=by
   unfold C7 Lb;rw[if_neg h];unfold K3;simp only[List.append_assoc];rw[List.drop_append_of_le_length (by rw[A5];exact Nat.le_refl _),List.drop_of_length_le (by rw[A5];exact Nat.le_refl _),List.nil_append]
  constructor
  ·intro a;rw[a,List.drop_append_of_le_length (by rw[A5];exact Nat.le_refl _),List.drop_of_length_le (by rw[A5];exact Nat.le_refl _),List.nil_append]
  ·intro a;rw[b,a]
theorem Kj {p:List UInt8}{x:Cx}:right p=some x↔rd p=some x∧C7 x=Bi 0 4++p.drop 4:=by
 unfold right;rw[Option.filter_eq_some_iff,decide_eq_true_iff]
theorem Q9 {p:List UInt8}{x:Cx}(h:rd p=some x):right p=if decide (C7 x=Bi 0 4++p.drop 4)then some x else none:=by
 unfold right;rw[h];rfl
theorem Hl {p:List UInt8}(h:rd p=none):right p=none:=by unfold right;rw[h];rfl
theorem G6 {p:List UInt8}{x:Cx}(h:right p=some x):Qh x∧p.length=512:=Qj (Kj.1 h).1
theorem Ps (p:List UInt8):Qh (Jo p):=by
 unfold Jo
 cases h:right p with
 |none=>exact Tv
 |some x=>exact(G6 h).1
def Bc (rs:List ByteArray)(i:Int):ByteArray:=if i<0 then⟨#[]⟩else(rs[i.toNat]?).getD ⟨#[]⟩
theorem M0 {rs:List ByteArray}{i:Int}(h:i<0):Bc rs i=⟨#[]⟩:=if_pos h
theorem Lc {rs:List ByteArray}{i:Int}(h:(rs.length:Int)≤i):Bc rs i=⟨#[]⟩:=by
 unfold Bc;rw[if_neg (by omega),List.getElem?_eq_none (by omega)];rfl
theorem Tw {rs:List ByteArray}{k:Nat}(h:k<rs.length):Bc rs (k:Int)=rs[k]:=by
 unfold Bc;rw[if_neg (by omega),show((k:Int).toNat)=k from rfl,List.getElem?_eq_getElem h];rfl
theorem lE (a b:List UInt8)(u k:Nat)(h:u<256^k):Dl (a++(Bi u k++b)) a.length k=u:=by
 unfold Dl;rw[List.drop_left,List.take_left' (A5 u k),fS,Nat.mod_eq_of_lt h]
theorem Io (l a b:List UInt8)(n u k:Nat)(c:l=a++(Bi u k++b))(d:a.length=n)(h:u<256^k):Dl l n k=u:=by
 rw[c,← d];exact lE a b u k h
def Iz (rs:List ByteArray):Prop:=∀ r,rs.getLast? =some r→r.size≠0
theorem Kk (rs:List ByteArray):trim rs=rs↔Iz rs:=by
 have b:trim rs=rs↔Ea rs rs.length=rs.length:=by
  unfold trim
  constructor
  ·intro h
   have c:=congrArg List.length h;rw[List.length_take]at c;have:=Np rs rs.length;omega
  ·intro h;rw[h,List.take_length]
 rw[b];unfold Iz;rw[List.getLast?_eq_getElem?];rcases d:rs.length with _|m
 ·simp[Ea,d]
 ·have a:m<rs.length:=by omega
  have e:rs[m]? =some rs[m]:=List.getElem?_eq_getElem a;simp only[Nat.add_sub_cancel,e,Option.some.injEq,forall_eq',Ea,Option.getD_some]
  constructor
  ·intro h f
   rw[if_pos f]at h;have:=Np rs m;omega
  ·intro h;rw[if_neg h]
theorem Ow (rs:List ByteArray):Iz (trim rs):=by
 unfold trim;have key:∀ m,m≤rs.length→Iz (rs.take (Ea rs m)):=by
  intro m
  induction m with
  |zero=>intro _ r a;simp[Ea]at a
  |succ m b=>
   intro c;unfold Ea
   split
   ·exact b (by omega)
   ·rename_i h
    intro r a;rw[List.getLast?_eq_getElem?,List.length_take,Nat.min_eq_left c,Nat.add_sub_cancel,List.getElem?_take_of_lt (by omega)]at a;rw[a]at h;exact h
 exact key _ (Nat.le_refl _)
theorem oY {x:Cx}(h:A4 (trim x.recs)≤512):C7 x=K3 x (trim x.recs).length (512-Aq (trim x.recs))++Co 512 (trim x.recs)++List.replicate (512-A4 (trim x.recs)) 0++Di (trim x.recs):=by
 unfold C7 Lb;rw[if_neg (by omega)]
def Jd (x:Cx)(n a:Nat):List UInt8:=Bi x.lsn 6++(Bi x.kind 1++(Bi 0 1++(Bi x.link 3++(Bi n 2++Bi a 2))))
theorem lF (x:Cx)(n a:Nat):K3 x n a=Bi 0 4++Jd x n a:=by unfold K3 Jd;simp only[List.append_assoc]
theorem Ii (x:Cx)(n a:Nat):(Jd x n a).length=15:=by simp[Jd,A5]
def Gx (x:Cx)(rs:List ByteArray):List UInt8:=Jd x rs.length (512-Aq rs)++(Co 512 rs++(List.replicate (512-A4 rs) 0++Di rs))
theorem Vo (x:Cx)(rs:List ByteArray)(h:A4 rs≤512):(Gx x rs).length=508:=by
 unfold Gx;simp only[List.length_append,Ii,Eb,List.length_replicate,Fa];have a:A4 rs=19+4*rs.length+Aq rs:=rfl;omega
theorem L5 {x:Cx}(h:A4 (trim x.recs)≤512):C7 x=Bi 0 4++Gx x (trim x.recs):=by
 rw[oY h,lF];unfold Gx;simp only[List.append_assoc]
structure lG (x:Cx) (l:List UInt8) (n:Nat):Prop where
 lsn:Dl l 4 6=x.lsn
 kind:Dl l 10 1=x.kind
 link:Dl l 12 3=x.link
 count:Dl l 15 2=n
theorem Pt (h:List UInt8)(c:h.length=4)(x:Cx)(d:Small x)(n a:Nat)(e:n<65536)(b:List UInt8):lG x (h++(Jd x n a++b)) n:=by
 obtain⟨f,g,i⟩:=d
 constructor
 ·exact Io _ h (Bi x.kind 1++(Bi 0 1++(Bi x.link 3++(Bi n 2++(Bi a 2++b))))) _ _ _ (by simp[Jd]) (by simp[c]) (by omega)
 ·exact Io _ (h++Bi x.lsn 6) (Bi 0 1++(Bi x.link 3++(Bi n 2++(Bi a 2++b)))) _ _ _ (by simp[Jd]) (by simp[A5,c]) (by omega)
 ·exact Io _ (h++Bi x.lsn 6++Bi x.kind 1++Bi 0 1) (Bi n 2++(Bi a 2++b)) _ _ _ (by simp[Jd]) (by simp[A5,c]) (by omega)
 ·exact Io _ (h++Bi x.lsn 6++Bi x.kind 1++Bi 0 1++Bi x.link 3) (Bi a 2++b) _ _ _ (by simp[Jd]) (by simp[A5,c]) (by omega)
theorem lH (a:Nat)(r:ByteArray):La a r=Bi (if r.size=0 then 0 else a-r.size) 2++Bi r.size 2:=by
 unfold La
 by_cases h:r.size=0
 ·rw[if_pos h,if_pos h,h];rfl
 ·rw[if_neg h,if_neg h]
theorem Vp (rs:List ByteArray)(k:Nat)(h:k<rs.length):Co 512 rs=Co 512 (rs.take k)++(La (512-Aq (rs.take k)) rs[k]++Co (512-Aq (rs.take k)-rs[k].size) (rs.drop (k+1))):=by
 have a:rs=rs.take k++rs[k]::rs.drop (k+1):=by rw[← List.drop_eq_getElem_cons h,List.take_append_drop]
 conv=>lhs;rw[a]
 rw[Ms];rfl
theorem Xl (rs:List ByteArray)(k:Nat)(h:k<rs.length):Di rs=Di (rs.drop (k+1))++(rs[k].data.toList++Di (rs.take k)):=by
 have a:rs=rs.take k++rs[k]::rs.drop (k+1):=by rw[← List.drop_eq_getElem_cons h,List.take_append_drop]
 conv=>lhs;rw[a]
 rw[Nq];simp[Di]
theorem Ld (rs:List ByteArray)(k:Nat)(h:k<rs.length):Aq rs=Aq (rs.take k)+rs[k].size+Aq (rs.drop (k+1)):=by
 have a:rs=rs.take k++rs[k]::rs.drop (k+1):=by rw[← List.drop_eq_getElem_cons h,List.take_append_drop]
 conv=>lhs;rw[a]
 rw[Eg];simp[Aq];omega
theorem aP (h:List UInt8)(g:h.length=4)(x:Cx)(rs:List ByteArray)(o:A4 rs≤512)(m:∀ r∈rs,r.size≤400):
 ∀ k,k≤rs.length→Ds (h++Gx x rs) k=some (rs.take k):=by
 intro k
 induction k with
 |zero=>intro _;simp[Ds]
 |succ k ih=>
  intro hk;have a:k<rs.length:=by omega
  unfold Ds;rw[ih (by omega)];simp only;have l:=Ld rs k a;have p:A4 rs=19+4*rs.length+Aq rs:=rfl;have n:rs[k].size≤400:=m _ (List.getElem_mem a);have c:=Vp rs k a;have i:=Xl rs k a;have d:=lH (512-Aq (rs.take k)) rs[k];have e:(Co 512 (rs.take k)).length=4*k:=by rw[Eb,List.length_take];omega
  have g1:Dl (h++Gx x rs) (19+4*k) 2=if rs[k].size=0 then 0 else 512-Aq (rs.take k)-rs[k].size:=by
   refine Io _ (h++Jd x rs.length (512-Aq rs)++Co 512 (rs.take k)) (Bi rs[k].size 2++(Co (512-Aq (rs.take k)-rs[k].size) (rs.drop (k+1))++(List.replicate (512-A4 rs) 0++Di rs))) _ _ _ ?_ ?_ ?_
   ·unfold Gx;rw[c,d];simp only[List.append_assoc]
   ·rw[List.length_append,List.length_append,Ii,e,g]
   ·split<;>omega
  have g2:Dl (h++Gx x rs) (21+4*k) 2=rs[k].size:=by
   refine Io _ (h++Jd x rs.length (512-Aq rs)++Co 512 (rs.take k)++Bi (if rs[k].size=0 then 0 else 512-Aq (rs.take k)-rs[k].size) 2) (Co (512-Aq (rs.take k)-rs[k].size) (rs.drop (k+1))++(List.replicate (512-A4 rs) 0++Di rs)) _ _ _ ?_ ?_ ?_
   ·unfold Gx;rw[c,d];simp only[List.append_assoc]
   ·rw[List.length_append,List.length_append,List.length_append,Ii,e,A5,g];omega
   ·omega
  rw[g1,g2];rw[if_neg (by split<;>omega)];rw[List.take_succ_eq_append_getElem a]
  congr 2
  by_cases j:rs[k].size=0
  ·rw[j]
   have:rs[k]=⟨#[]⟩:=(by apply ByteArray.ext;exact Array.eq_empty_of_size_eq_zero j);rw[this];rfl
  ·rw[if_neg j]
   have f:(h++(Jd x rs.length (512-Aq rs)++(Co 512 rs++(List.replicate (512-A4 rs) 0++Di (rs.drop (k+1)))))).length=512-Aq (rs.take k)-rs[k].size:=by
    simp only[List.length_append,Ii,Eb,List.length_replicate,Fa,g];omega
   have b:h++Gx x rs=(h++(Jd x rs.length (512-Aq rs)++(Co 512 rs++(List.replicate (512-A4 rs) 0++Di (rs.drop (k+1))))))++(rs[k].data.toList++Di (rs.take k)):=by
    unfold Gx
    conv=>lhs;rw[i]
    simp only[List.append_assoc]
   rw[b,← f,List.drop_left,List.take_left' (by simp)]
theorem oZ (h:List UInt8)(b:h.length=4){x:Cx}(c:Small x)(rs:List ByteArray)(d:A4 rs≤512)(f:∀ r∈rs,r.size≤400):rd (h++Gx x rs)=some {x with recs:=rs}:=by
 have i:A4 rs=19+4*rs.length+Aq rs:=rfl;have a:=Pt h b x c rs.length (512-Aq rs) (by omega) (Co 512 rs++(List.replicate (512-A4 rs) 0++Di rs));have e:=aP h b x rs d f rs.length (Nat.le_refl _);rw[List.take_length]at e;have g:(h++Gx x rs).length=512:=by rw[List.length_append,Vo x rs d,b]
 change lG x (h++Gx x rs) rs.length at a;unfold rd;rw[a.kind,a.count,a.lsn,a.link,g,if_neg (by have:=c.2.1;omega),e]
 rfl
theorem Ec {rs:List ByteArray}(h:Iz rs):trim rs=rs:=(Kk rs).2 h
theorem Ra (h:List UInt8)(a:h.length=4){x:Cx}(d:Small x)(rs:List ByteArray)(b:A4 rs≤512)(e:∀ r∈rs,r.size≤400)(f:Iz rs):right (h++Gx x rs)=some {x with recs:=rs}:=by
 rw[Kj];refine⟨oZ h a d rs b e,?_⟩;have c:trim ({x with recs:=rs}:Cx).recs=rs:=Ec f;rw[L5 (x:={x with recs:=rs}) (by rw[c];exact b),c,← a,List.drop_left]
 rfl
theorem aQ {x:Cx}(b:Small x)(a:A4 (trim x.recs)≤512)(c:∀ r∈x.recs,r.size≤400):right (C7 x)=some {x with recs:=trim x.recs}:=by
 rw[L5 a];exact Ra _ (A5 0 4) b _ a (fun r d=>c r (List.mem_of_mem_take d)) (Ow _)
theorem Je {p:List UInt8}{x:Cx}(h:right p=some x):Iz x.recs∧A4 x.recs≤512:=by
 obtain⟨a,g⟩:=Kj.1 h;obtain⟨k,b⟩:=Qj a;have hlen:(C7 x).length=512:=by
  rw[g,List.length_append,A5,List.length_drop,b]
 have c:A4 (trim x.recs)≤512:=by
  rcases Nat.lt_or_ge 512 (A4 (trim x.recs))with h3|h3
  ·have:C7 x=[]:=by unfold C7 Lb;rw[if_pos h3]
   rw[this]at hlen;cases hlen
  ·exact h3
 have d:=Pt (Bi 0 4) (A5 0 4) x k.small (trim x.recs).length (512-Aq (trim x.recs)) (by have:A4 (trim x.recs)=19+4*(trim x.recs).length+Aq (trim x.recs):=rfl;omega) (Co 512 (trim x.recs)++(List.replicate (512-A4 (trim x.recs)) 0++Di (trim x.recs)));change lG x (Bi 0 4++Gx x (trim x.recs)) _ at d;rw[← L5 c]at d;have l:=d.count;have e:Dl (C7 x) 15 2=Dl p 15 2:=by
  rw[g];unfold Dl;rw[show 15=4+11 from rfl,← List.drop_drop,← List.drop_drop,List.drop_left' (A5 0 4)]
 have m:x.recs.length=Dl p 15 2:=by
  unfold rd at a
  split at a
  ·cases a
  ·cases f:Ds p (Dl p 15 2)with
   |none=>rw[f]at a;cases a
   |some rs=>
    rw[f]at a
    injection a with a
    rw[← a];exact Hj p _ rs f
 have i:trim x.recs=x.recs:=by
  have j:(trim x.recs).length=x.recs.length:=by rw[m,← e,l]
  unfold trim at j ⊢;rw[List.length_take]at j;exact List.take_of_length_le (by omega)
 exact⟨(Kk _).1 i,by rw[i]at c;exact c⟩
theorem Xm {p:List UInt8}{x:Cx}(h:right p=some x):p=p.take 4++Gx x x.recs:=by
 obtain⟨c,d⟩:=Je h;have a:trim x.recs=x.recs:=Ec c;have b:=(Kj.1 h).2;rw[L5 (by rw[a];exact d),a]at b;have e:=List.append_cancel_left b;rw[e,List.take_append_drop]
theorem gC {p q:List UInt8}{x:Cx}(h:right p=some x)(f:q.length=512)(a:q.drop 4=p.drop 4):right q=some x:=by
 obtain⟨b,c⟩:=Je h;have g:=(G6 h).2;have d:=Xm h;have e:p.drop 4=Gx x x.recs:=by
  conv=>lhs;rw[d]
  exact List.drop_left' (by rw[List.length_take];omega)
 rw[← List.take_append_drop 4 q,a,e];exact Ra _ (by rw[List.length_take];omega) (G6 h).1.small _ c (G6 h).1.each b
end Pg
namespace Go.Proofs.YtmldoihahndcgaaGreatDoor
open Go.RowKit
def Cells (w:World)(A:Option Addr)(c:Nat)(rs:List ByteArray):Prop:=
 0<rs.length→∃ b off,A=some ⟨b,off,none⟩∧rs.length≤c∧b<w.heap.size∧∀ j (h:j<rs.length),w.cell? ⟨b,off+j,none⟩=some (.string rs[j])
theorem Cells.below {w w':World}{A:Option Addr}{c:Nat}{rs:List ByteArray}(h:Cells w A c rs)(e:Bw w w'):Cells w' A c rs:=fun f=>by
 obtain⟨b,off,g,i,d,a⟩:=h f;refine⟨b,off,g,i,Nat.lt_of_lt_of_le d e.size,fun j k=>?_⟩;rw[e.cell (p:=⟨b,off+j,none⟩) d];exact a j k
theorem Cells.at_ {w:World}{A:Option Addr}{c:Nat}{rs:List ByteArray}(h:Cells w A c rs){k:Nat}(hk:k<rs.length):∃ b off,A=some ⟨b,off,none⟩∧rs.length≤c∧b<w.heap.size∧w.cell? ⟨b,off+k,none⟩=some (.string rs[k]):=by
 obtain⟨b,off,e,f,d,a⟩:=h (by omega);exact⟨b,off,e,f,d,a k hk⟩
theorem pA {k:IntKind}{a b:Int}(h:a=b):Ending.returned (.int k a)= .returned (.int k b):=by rw[h]
theorem Qk {a b:ByteArray}(h:a=b):Ending.returned (.string a)= .returned (.string b):=by rw[h]
theorem andThen {a b c:World}(h:Bw a b)(k:Bw b c):Bw a c:=h.trans (k.mono h.size)
theorem Xn (A:Option Addr)(c:Nat)(rs:List ByteArray)(m:Pg.A4 rs≤1099511627776)(w:World)(h:Cells w A c rs):
 Cq 152 #[.slice A rs.length c] w fun e w'=>e= .returned (.int .i64 (Pg.A4 rs))∧w=w':=by
 unfold Pg.A4 at m;have o:=Hq h;clear h;go_enter Tryz.func152,Tryz.ntmps152;go_wp2_with fail
 go_loop [3,12] (fun n i=>∃ k:Nat,k≤rs.length∧i= .int .i64 k∧n= .int .i64 ((19+4*rs.length+Pg.Aq (rs.take k):Nat):Int)) (fun _ i=>rs.length-(intOf i).toNat)
 case atStart=>exact⟨0,Nat.zero_le _,rfl,by simp[Pg.Aq]⟩
 case round=>
  obtain⟨k,hk,rfl,rfl⟩:=hrel;have p:=Pg.Cl rs k
  by_cases f:k<rs.length
  ·obtain⟨b,off,rfl,t,q,d⟩:=o.out.at_ f
   have j:=Hq (Pg.Hi rs k f);have a:=Pg.Cl rs (k+1);have g:Pg.Aq (rs.take k)+rs[k].size≤Pg.Aq rs:=(by rw[← j.out];exact a);clear a;generalize l:rs[k]=r at d g;have s:=Hq l;clear l;go_wp2_with fail
   go_round
   case rel=>exact⟨k+1,by omega,by go_num,by rw[j.out,s.out];go_num⟩
   case measure=>simp[intOf];omega
  ·obtain rfl:k=rs.length:=by omega
   go_wp2_with fail;go_ret;exact⟨pA (by unfold Pg.A4;omega),rfl⟩
def Ty (x:Pg.Cx)(A:Option Addr)(m c:Nat):Obj:=.cells #[x.lsn,x.kind,x.link,.slice A m c] 118
theorem Gh (r:ByteArray):r.toList.isEmpty=decide (r.size=0):=by
 rw[ByteArray.toList_eq];have h:r.data.toList.length=r.size:=by simp
 cases b:r.data.toList with
 |nil=>rw[b]at h;simp at h;simp[h.symm]
 |cons a l=>
  rw[b,List.length_cons]at h;simp only[List.isEmpty_cons];exact(decide_eq_false (by omega)).symm
theorem gD (w:World)(o1 a o3:Obj):(((w.alloc o1).alloc a).alloc o3).heap[w.heap.size]? =some o1∧(((w.alloc o1).alloc a).alloc o3).heap[w.heap.size+1]? =some a∧(((w.alloc o1).alloc a).alloc o3).heap[w.heap.size+1+1]? =some o3∧(((w.alloc o1).alloc a).alloc o3).heap.size=w.heap.size+3:=by
 have e:(((w.alloc o1).alloc a).alloc o3).heap=((w.heap.push o1).push a).push o3:=rfl;rw[e];refine⟨?_,?_,?_,by simp⟩
 ·rw[Array.getElem?_push_lt (by simp;omega),Array.getElem_push_lt (by simp),Array.getElem_push_eq]
 ·rw[Array.getElem?_push_lt (by simp),Array.getElem_push];simp
 ·rw[Array.getElem?_push];simp
theorem lI (n size:Int)(d:0≤size)(f:size≤8)(X:Nat)(v0 v1 v2 v3:Value)(b w:World)(g:X<b.heap.size)
 (h:w.cell? ⟨X,0,none⟩=some v0∧w.cell? ⟨X,1,none⟩=some v1∧w.cell? ⟨X,2,none⟩=some v2∧w.cell? ⟨X,3,none⟩=some v3∧Bw b w):
 Cq 151 #[n,size] w fun e w'=>e= .returned (.string (Oct.Ba n size))∧
  (w'.cell? ⟨X,0,none⟩=some v0∧w'.cell? ⟨X,1,none⟩=some v1∧w'.cell? ⟨X,2,none⟩=some v2∧w'.cell? ⟨X,3,none⟩=some v3∧Bw b w'):=by
 obtain⟨c0,c1,c2,c3,c⟩:=h;have i:=c.size;refine(Hh n size d f w).mono ?_;rintro e w' ⟨rfl,a⟩;refine⟨rfl,?_,?_,?_,?_,andThen c a⟩
 ·rw[a.cell (p:=⟨X,0,none⟩) (by show X<_;omega)];exact c0
 ·rw[a.cell (p:=⟨X,1,none⟩) (by show X<_;omega)];exact c1
 ·rw[a.cell (p:=⟨X,2,none⟩) (by show X<_;omega)];exact c2
 ·rw[a.cell (p:=⟨X,3,none⟩) (by show X<_;omega)];exact c3
theorem Nr (x:Pg.Cx)(A:Option Addr)(c:Nat)(Q:Pg.Small x)(hb:Pg.A4 x.recs≤1099511627776)(w:World)(h:Cells w A c x.recs):
 Cr 73 #[.agg #[x.lsn,x.kind,x.link,.slice A x.recs.length c]] w (.string ⟨(Pg.C7 x).toArray⟩):=by
 have b3:=Hq Q;clear Q;have HC:=Hq h;have b5:x.recs.length≤1099511627776:=by unfold Pg.A4 at hb;omega
 have HB:=Hq hb;clear h hb;go_enter Tryz.func73,Tryz.ntmps73
 go_upto_block 0 with(fail)
 go_cut [] (fun wc=>∃ m:Nat,m≤x.recs.length∧Pg.Ea x.recs x.recs.length=m∧wc=w.alloc (Ty x A m c))
 case first=>
  go_wp2_with fail
  go_loopg [] x.recs.length (fun m wr=>m≤x.recs.length∧Pg.Ea x.recs m=Pg.Ea x.recs x.recs.length∧wr=w.alloc (Ty x A m c))
  case atStart=>exact⟨Nat.le_refl _,rfl,rfl⟩
  case round=>
   obtain⟨hm,ht,rfl⟩:=hrel;have HT:=Hq ht;clear ht;unfold Ty
   by_cases h0:gk=0
   ·subst h0
    go_wp2_with fail;go_meet
    case rel=>exact⟨0,Nat.zero_le _,by rw[← HT.out];rfl,rfl⟩
   ·obtain⟨b,off,rfl,hc,C,f⟩:=HC.out.at_ (k:=gk-1) (by omega)
    obtain⟨m,rfl⟩:∃ m,gk=m+1:=⟨gk-1,by omega⟩;simp only[Nat.add_sub_cancel]at f;have o:=Gh x.recs[m];have HR:=Hq (show x.recs[m]?.getD ⟨#[]⟩=x.recs[m] by simp[show m<x.recs.length by omega]);have aq:(World.cell? (w.alloc (Ty x (some ⟨b,off,none⟩) (m+1) c)) ⟨b,off+m,none⟩)=some (.string x.recs[m]):=by
     rw[World.cell?_alloc_lt _ _ _ C];exact f
    unfold Ty at aq;generalize hr:x.recs[m]=r at f o aq HR
    by_cases G:r.size=0
    ·have I:r.toList.isEmpty=true:=by rw[o];exact decide_eq_true G
     clear o hr;have X:=Hq G;clear G;go_wp2_with fail
     go_roundg m
     case measure=>omega
     case rel=>exact⟨by omega,by rw[← HT.out,Pg.Ea,HR.out,if_pos X.out],rfl⟩
    ·have I:r.toList.isEmpty=false:=by rw[o];exact decide_eq_false G
     clear o hr;have X:=Hq G;clear G;go_wp2_with fail;go_meet
     case rel=>exact⟨m+1,hm,by rw[← HT.out,Pg.Ea,HR.out,if_neg X.out],rfl⟩
 case rest=>
  obtain⟨m,hm,ht,rfl⟩:=hcut;have hlen:(x.recs.take m).length=m:=by rw[List.length_take];omega
  have Z:Pg.A4 (x.recs.take m)≤1099511627776:=by
   have:=HB.out;have:=Pg.Cl x.recs m;unfold Pg.A4 at*;omega
  have J:=Hq (show Cells w A c (x.recs.take m)from fun h0=>by
   obtain⟨b,off,hA,hc,K,f⟩:=HC.out (by omega);refine⟨b,off,hA,by omega,K,fun j hj=>?_⟩;rw[List.getElem_take];exact f j (by omega))
  have HL:=Hq (show Pg.C7 x=Pg.Lb x (x.recs.take m) by rw[Pg.C7,Pg.trim,ht]);generalize b6:x.recs.take m=rs at hlen Z J HL;subst hlen;clear HC HB b5 hm ht b6;unfold Ty
  by_cases t:512<Pg.A4 rs
  ·go_wp2_with(go_at_call 152;refine(Xn A c rs Z _ (J.out.below ((Below.refl _ _).alloc (Nat.le_refl _) _))).mono ?_;rintro e w' ⟨rfl,rfl⟩)
   go_ret;exact⟨Qk (by rw[HL.out,Pg.Lb,if_pos t]),(Below.refl _ _).alloc (Nat.le_refl _) _⟩
  ·go_upto_block 2 with(go_at_call 152;refine(Xn A c rs Z _ (J.out.below ((Below.refl _ _).alloc (Nat.le_refl _) _))).mono ?_;rintro e w' ⟨rfl,rfl⟩)
   have b7:Pg.Aq rs≤512:=(by unfold Pg.A4 at t;omega);have b8:rs.length≤512:=(by unfold Pg.A4 at t;omega);obtain⟨W3,T⟩:=ex (((w.alloc (.cells #[x.lsn,x.kind,x.link,.slice A rs.length c] 118)).alloc (.cells #[.pointer none,'s'] 164)).alloc (.cells #[.pointer none,'s'] 164));rw[← T];have ar:Bw w W3:=(by rw[T];exact(((Below.refl _ _).alloc (Nat.le_refl _) _).alloc (by simp) _).alloc (by simp;omega) _);obtain⟨a1,a6,a7,a8⟩:=gD w (.cells #[x.lsn,x.kind,x.link,.slice A rs.length c] 118) (.cells #[.pointer none,'s'] 164) (.cells #[.pointer none,'s'] 164);rw[← T]at a1 a6 a7 a8;clear T;have aa:=Hq ar;have b9:=Hq a1;have ba:=Hq a6;have bb:=Hq a7;have s:=Hq a8;have Y:=Hq t;clear ar a1 a6 a7 a8 t
   go_cut [6] (fun s6 wc=>s6= .int .i64 ((512-Pg.Aq rs:Nat):Int)∧Nl W3.heap.size wc.heap.size (w.heap.size+1) (Pg.Co 512 rs) wc∧Ek W3.heap.size (w.heap.size+1) W3 wc)
   case first=>
    go_wp2_with fail
    go_loopw [6,43] (fun a i wr=>∃ k:Nat,k≤rs.length∧i= .int .i64 k∧a= .int .i64 ((512-Pg.Aq (rs.take k):Nat):Int)∧Nl W3.heap.size wr.heap.size (w.heap.size+1) (Pg.Co 512 (rs.take k)) wr∧Ek W3.heap.size (w.heap.size+1) W3 wr) (fun _ i _=>rs.length-(intOf i).toNat)
    case atStart=>exact⟨0,Nat.zero_le _,rfl,by simp[Pg.Aq],Nl.fresh _ _ _ _ (by rw[s.out];omega) ba.out,Ek.refl _ _ _⟩
    case round=>
     obtain⟨k,hk,rfl,rfl,g,d⟩:=hrel;have P:=Hq d;have HD:=Hq g;have bt:=Pg.Cl rs k;have ad:W3.heap.size≤wr.heap.size:=d.size;clear g d
     by_cases K:k<rs.length
     ·obtain⟨b,off,rfl,hc,C,f⟩:=J.out.at_ K
      have ae:wr.cell? ⟨b,off+k,none⟩=some (.string rs[k]):=by
       rw[(P.out.below (lo:=w.heap.size) (by rw[s.out];omega) (by omega)).cell (p:=⟨b,off+k,none⟩) C,aa.out.cell (p:=⟨b,off+k,none⟩) C];exact f
      have HS:=Hq (Pg.Hi rs k K);have af:=Hq (Pg.Pp rs k K);have au:=Pg.Cl rs (k+1);have av:Pg.Aq (rs.take k)+rs[k].size≤512:=(by rw[← HS.out];omega);have hlen:(Pg.Co 512 (rs.take k)).length≤4096:=(by rw[Pg.Eb,List.length_take];omega);have o:=Gh rs[k];clear au f;generalize hr:rs[k]=r at ae av o HS af;clear hr
      by_cases G:r.size=0
      ·have I:r.toList.isEmpty=true:=by rw[o];exact decide_eq_true G
       clear o;have X:=Hq G;clear G
       go_wp2_with(first|(go_at_call 151;refine(Hh _ _ (by omega) (by omega) _).mono ?_;rintro e w1 ⟨rfl,D⟩)|(go_at_call 153;refine(L0 _ _ _ _ _ _ (HD.out.below D) ?_ ?_).mono ?_;(rw[show(Oct.Ba 0 4).size=4 from Oct.Bh 0 4 (by omega)];omega);(have:=D.size;omega);rintro e w2 ⟨rfl,y,E⟩))
       go_roundw
       case rel=>exact⟨k+1,by omega,by go_num,by rw[HS.out,X.out];rfl,by
        rw[af.out,Pg.La,if_pos X.out];rw[show(Oct.Ba 0 4).data.toList=Oct.Bi 0 4 from Oct.Bt 0 4 (by omega)]at y;exact y,P.out.trans ((Ek.El ad D).trans E)⟩
       case measure=>simp[intOf];omega
      ·have I:r.toList.isEmpty=false:=by rw[o];exact decide_eq_false G
       clear o;have X:=Hq G;clear G;obtain⟨a,ha⟩:=ex (512-Pg.Aq (rs.take k):Nat);rw[← ha];have bu:r.size≤a:=(by omega);have bc:a≤512:=(by omega);have HA:=Hq ha;clear ha;have br:∀ (u v:Int) (W:World),(Op.stringOp .add (Oct.Ba u 2) (Oct.Ba v 2)).run Tryz.prog W= .ok (.string (Oct.Ba u 2++Oct.Ba v 2)) W:=fun u v W=>run_string_add_sum W _ _ (by
        rw[show(Oct.Ba u 2).size=2 from Oct.Bh u 2 (by omega),show(Oct.Ba v 2).size=2 from Oct.Bh v 2 (by omega)];omega)
       go_wp2_with(first|(go_at_call 151;(with_reducible refine(Hh (r.size:Int) _ (by omega) (by omega) _).mono ?_);rintro e w2 ⟨rfl,ag⟩)|(go_at_call 151;refine(Hh _ _ (by omega) (by omega) _).mono ?_;rintro e w1 ⟨rfl,D⟩)|(go_at_call 153;refine(L0 _ _ _ _ _ _ ((HD.out.below D).below ag) ?_ ?_).mono ?_;(rw[ByteArray.size_append,show(Oct.Ba _ 2).size=2 from Oct.Bh _ 2 (by omega),show(Oct.Ba _ 2).size=2 from Oct.Bh _ 2 (by omega)];omega);(have:=D.size;have:=ag.size;omega);rintro e w3 ⟨rfl,L,ah⟩))
       go_roundw
       case rel=>
        refine⟨k+1,by omega,by go_num,?_,?_,P.out.trans ((Ek.El ad D).trans ((Ek.El (by have:=D.size;omega) ag).trans ah))⟩
        ·have:=HA.out
         rw[HS.out];exact congrArg (Value.int IntKind.i64) (by omega)
        ·rw[af.out,Pg.La,if_neg X.out,← HA.out]
         have e1:(Oct.Ba ((a:Int)-(r.size:Int)) 2).data.toList=Oct.Bi (a-r.size) 2:=by
          rw[show((a:Int)-(r.size:Int))=((a-r.size:Nat):Int) by omega];have:=Oct.Bt ((a-r.size:Nat):Int) 2 (by omega)
          rwa[Oct.D0 (a-r.size) (by omega)]at this
         have e2:(Oct.Ba (r.size:Int) 2).data.toList=Oct.Bi r.size 2:=by
          have:=Oct.Bt (r.size:Int) 2 (by omega)
          rwa[Oct.D0 r.size (by omega)]at this
         rw[ByteArray.data_append,Array.toList_append,e1,e2]at L;exact L
       case measure=>simp[intOf];omega
     ·obtain rfl:k=rs.length:=by omega
      have HT:=Hq (List.take_length (l:=rs));go_wp2_with fail;go_meet
      case rel=>
       have h1:=HD.out;rw[HT.out]at h1;exact⟨by rw[HT.out],h1,P.out⟩
   case rest=>
    obtain⟨q,rfl⟩:=ex wc;obtain⟨rfl,g,d⟩:=hcut;have HD:=Hq g;have P:=Hq d;have bw:W3.heap.size≤q.heap.size:=d.size;clear g d;have Q:q.heap[w.heap.size]? =some (.cells #[x.lsn,x.kind,x.link,.slice A rs.length c] 118 (0,0)):=by
     rw[P.out.block _ (by rw[s.out];omega) (by omega)];exact b9.out
    have c0:q.cell? ⟨w.heap.size,0,none⟩=some (.int .i64 x.lsn):=(by rw[Bm Q];rfl);have c1:q.cell? ⟨w.heap.size,1,none⟩=some (.int .i64 x.kind):=(by rw[Bm Q];rfl);have c2:q.cell? ⟨w.heap.size,2,none⟩=some (.int .i64 x.link):=(by rw[Bm Q];rfl);have c3:q.cell? ⟨w.heap.size,3,none⟩=some (.slice A rs.length c):=(by rw[Bm Q];rfl);have HX:=Hq Q;clear Q
    go_upto_block 4 with(fail)
    go_cut [] (fun wc=>Nl q.heap.size wc.heap.size (w.heap.size+1+1) (Pg.Di rs) wc∧Ek q.heap.size (w.heap.size+1+1) q wc)
    case first=>
     go_wp2_with fail
     go_loopw [9] (fun i wr=>∃ j:Nat,j≤rs.length∧i= .int .i64 ((j:Int)-1)∧Nl q.heap.size wr.heap.size (w.heap.size+1+1) (Pg.Di (rs.drop j)) wr∧Ek q.heap.size (w.heap.size+1+1) q wr) (fun i _=>(intOf i+1).toNat)
     case atStart=>
      refine⟨rs.length,Nat.le_refl _,rfl,?_,Ek.refl _ _ _⟩;rw[List.drop_length];exact Nl.fresh _ _ _ _ (by have:=s.out;omega) (by rw[P.out.block _ (by rw[s.out];omega) (by omega)];exact bb.out)
     case round=>
      obtain⟨j,hj,rfl,g,d⟩:=hrel;have ai:=Hq d;have aw:=Hq g;have ad:q.heap.size≤wr.heap.size:=d.size;have hz:=s.out;have d3:wr.cell? ⟨w.heap.size,3,none⟩=some (.slice A rs.length c):=by
       have:wr.heap[w.heap.size]? =_:=(d.block _ (by omega) (by omega)).trans HX.out;rw[Bm this];rfl
      clear g d c0 c1 c2 c3 hz
      by_cases h0:j=0
      ·subst h0
       go_wp2_with fail;go_meet
       case rel=>exact⟨aw.out,ai.out⟩
      ·obtain⟨k,rfl⟩:∃ k,j=k+1:=⟨j-1,by omega⟩
       rw[show((k+1:Nat):Int)-1=(k:Int) by omega];obtain⟨b,off,rfl,hc,C,f⟩:=J.out.at_ (k:=k) (by omega);have ae:wr.cell? ⟨b,off+k,none⟩=some (.string rs[k]):=by
        have hz:=s.out;rw[(ai.out.below (lo:=w.heap.size) (by omega) (by omega)).cell (p:=⟨b,off+k,none⟩) C,(P.out.below (lo:=w.heap.size) (by omega) (by omega)).cell (p:=⟨b,off+k,none⟩) C,aa.out.cell (p:=⟨b,off+k,none⟩) C];exact f
       have aj:=Hq (Pg.aM rs k (by omega));have hlen:(Pg.Di (rs.drop (k+1))).length+rs[k].size≤4096:=by
        have h1:=Pg.Fa (rs.drop k);rw[aj.out,List.length_append]at h1;have h2:=Pg.Eg (rs.take k) (rs.drop k);rw[List.take_append_drop]at h2;have h3:rs[k].data.toList.length=rs[k].size:=(by simp);omega
       clear f;generalize hr:rs[k]=r at ae hlen aj;clear hr
       go_wp2_with(go_at_call 153;refine(L0 _ _ _ _ _ _ aw.out ?_ ?_).mono ?_;(omega);(omega);rintro e w2 ⟨rfl,y,E⟩)
       go_roundw
       case rel=>exact⟨k,by omega,rfl,by rw[aj.out];exact y,ai.out.trans E⟩
       case measure=>simp[intOf]
    case rest=>
     obtain⟨M,z⟩:=hcut;have bd:=Hq M;have ak:=Hq z;have bx:q.heap.size≤wc.heap.size:=z.size;have H:wc.heap[w.heap.size]? =some (.cells #[x.lsn,x.kind,x.link,.slice A rs.length c] 118 (0,0)):=by
      have hz:=s.out;rw[ak.out.block _ (by omega) (by omega)];exact HX.out
     have d0:wc.cell? ⟨w.heap.size,0,none⟩=some (.int .i64 x.lsn):=(by rw[Bm H];rfl);have d1:wc.cell? ⟨w.heap.size,1,none⟩=some (.int .i64 x.kind):=(by rw[Bm H];rfl);have d2:wc.cell? ⟨w.heap.size,2,none⟩=some (.int .i64 x.link):=(by rw[Bm H];rfl);have d3:wc.cell? ⟨w.heap.size,3,none⟩=some (.slice A rs.length c):=(by rw[Bm H];rfl);have bz:=Hq H;clear M z H c0 c1 c2 c3;obtain⟨wd,rfl⟩:=ex wc
     go_upto_region 20 with(fail)
     have bf:w.heap.size<wd.heap.size:=(by have:=s.out;omega);have bg:Bw wd wd:=Below.refl _ _;obtain⟨at_,an⟩:=ex (512-Pg.Aq rs:Nat);rw[← an];have ax:=Hq an;clear an;have z1:(Oct.Ba 0 4).size=4:=Oct.Bh 0 4 (by omega);have z2:(Oct.Ba x.lsn 6).size=6:=Oct.Bh x.lsn 6 (by omega);have z3:(Oct.Ba x.kind 1).size=1:=Oct.Bh x.kind 1 (by omega);have z4:(Oct.Ba 0 1).size=1:=Oct.Bh 0 1 (by omega);have z5:(Oct.Ba x.link 3).size=3:=Oct.Bh x.link 3 (by omega);have z6:(Oct.Ba rs.length 2).size=2:=Oct.Bh rs.length 2 (by omega);have z7:(Oct.Ba at_ 2).size=2:=Oct.Bh at_ 2 (by omega)
     go_cut [10] (fun bh we=>bh= .string (Oct.Ba 0 4++Oct.Ba x.lsn 6++Oct.Ba x.kind 1++Oct.Ba 0 1++Oct.Ba x.link 3++Oct.Ba rs.length 2++Oct.Ba at_ 2)∧Bw wd we)
     case first=>
      go_region_held3 (fun w'=>w'.cell? ⟨w.heap.size,0,none⟩=some (.int .i64 x.lsn)∧w'.cell? ⟨w.heap.size,1,none⟩=some (.int .i64 x.kind)∧w'.cell? ⟨w.heap.size,2,none⟩=some (.int .i64 x.link)∧w'.cell? ⟨w.heap.size,3,none⟩=some (.slice A rs.length c)∧Bw wd w') (first|assumption|exact⟨d0,d1,d2,d3,bg.drew⟩|go_keep) (first|(go_at_call 151;refine(lI _ _ (by omega) (by omega) w.heap.size _ _ _ _ wd _ bf (by assumption)).mono ?_;rintro e w1 ⟨rfl,hS⟩))
      go_wp2_with fail;go_meet
      case rel=>exact⟨rfl,hS.2.2.2.2⟩
     case rest=>
      obtain⟨rfl,N⟩:=hcut;have hz:=s.out;have bs:=N.size;have c6:W3.heap.size≤q.heap.size:=P.out.size;obtain⟨F,hF⟩:=ex (Oct.Ba 0 4++Oct.Ba x.lsn 6++Oct.Ba x.kind 1++Oct.Ba 0 1++Oct.Ba x.link 3++Oct.Ba rs.length 2++Oct.Ba at_ 2:ByteArray);have c7:F.size=19:=(by rw[hF];simp only[ByteArray.size_append,z1,z2,z3,z4,z5,z6,z7]);rw[← hF];obtain⟨S,hS⟩:=ex (⟨(Pg.Co 512 rs).toArray⟩:ByteArray);have c8:S.size≤4096:=(by rw[hS];show(Pg.Co 512 rs).toArray.size≤_;simp[Pg.Eb];omega);obtain⟨B,hB⟩:=ex (⟨(Pg.Di rs).toArray⟩:ByteArray);have ca:B.size≤4096:=(by rw[hB];show(Pg.Di rs).toArray.size≤_;simp[Pg.Fa];omega);obtain⟨room,O⟩:=ex (512-Pg.A4 rs:Nat);have t:=Y.out;have ay:(512:Int)-(Pg.A4 rs:Int)=(room:Int):=(by omega);have bj:room≤512:=(by omega);obtain⟨R,hR⟩:=ex (⟨(Lib.repeatL (⟨#[0]⟩:ByteArray).data.toList room).toArray⟩:ByteArray);have ao:R.data.toList=List.replicate room 0:=by
       rw[hR];have key:∀ n,Lib.repeatL (⟨#[0]⟩:ByteArray).data.toList n=List.replicate n 0:=fun n=>by
        induction n with
        |zero=>rfl
        |succ n ih=>rw[Lib.repeatL,ih];rfl
       rw[key]
      have cb:R.size=room:=by
       have:R.data.toList.length=R.size:=(by simp);rw[← this,ao,List.length_replicate]
      have b4:Nl W3.heap.size q.heap.size (w.heap.size+1) (Pg.Co 512 rs) wc:=((HD.out.later (Nat.le_refl _)).kept (fun k hk _=>ak.out.block k (by omega) (by omega))).below N;have bk:=Hq b4;have az:∀ W,Nl W3.heap.size q.heap.size (w.heap.size+1) (Pg.Co 512 rs) W→Cq 154 #[.pointer (some ⟨w.heap.size+1,0,none⟩)] W fun e w'=>e= .returned (.string S)∧K9 W3.heap.size q.heap.size W w':=fun W h=>by
       rw[hS];exact Mz _ _ _ _ W h
      have b0:∀ W,Nl q.heap.size wd.heap.size (w.heap.size+1+1) (Pg.Di rs) W→Cq 154 #[.pointer (some ⟨w.heap.size+1+1,0,none⟩)] W fun e w'=>e= .returned (.string B)∧K9 q.heap.size wd.heap.size W w':=fun W h=>by
       rw[hB];exact Mz _ _ _ _ W h
      have b1:∀ W,Cr 132 #[.string ⟨#[0]⟩,.int .i64 (room:Int)] W (.string R):=fun W=>by
       rw[hR];exact Tryz.strings_Repeat ⟨#[0]⟩ room W (by omega) (by show 1*room≤_;omega)
      have bl:=Hq az;have b2:=Hq b0;have bm:=Hq b1;have HF:=Hq hF;have HS:=Hq hS;have bn:=Hq hB;have bo:=Hq ao;have bp:=Hq O;rw[ay];clear az b0 b1 hF hS hB ao hR ay O b4 z1 z2 z3 z4 z5 z6 z7 d0 d1 d2 d3;have bq:=Hq (show ∀ W V,K9 W3.heap.size q.heap.size wc W→Bw W V→Nl q.heap.size wd.heap.size (w.heap.size+1+1) (Pg.Di rs) V from fun W V k1 k2=>
       ((bd.out.below N).kept (fun k hk cc=>k1.block k (by have:=N.size;omega) (by omega))).below k2)
      go_wp2_with(first|(go_at_call 154;(with_reducible refine(bl.out _ ?_).mono ?_);(exact bk.out);rintro e w1 ⟨rfl,U⟩)|(go_at_call 132;refine(bm.out _).mono ?_;rintro e w2 ⟨rfl,E⟩)|(go_at_call 154;(with_reducible refine(b2.out _ ?_).mono ?_);(exact bq.out _ _ U E);rintro e w3 ⟨rfl,ah⟩))
      go_ret;refine⟨Qk ?_,?_⟩
      ·rw[HL.out,Pg.Lb,if_neg Y.out]
       apply ByteArray.ext
       have e1:F.data.toList=Pg.K3 x rs.length (512-Pg.Aq rs):=by
        rw[HF.out,Pg.K3];simp only[ByteArray.data_append,Array.toList_append];have q1:(Oct.Ba 0 4).data.toList=Oct.Bi 0 4:=Oct.Bt 0 4 (by omega);have q4:(Oct.Ba 0 1).data.toList=Oct.Bi 0 1:=Oct.Bt 0 1 (by omega);obtain⟨y1,y2,y3⟩:=b3.out;have q2:(Oct.Ba x.lsn 6).data.toList=Oct.Bi x.lsn 6:=(Oct.Bt x.lsn 6 (by omega)).trans (by rw[Oct.D0 _ (by omega)]);have q3:(Oct.Ba x.kind 1).data.toList=Oct.Bi x.kind 1:=(Oct.Bt x.kind 1 (by omega)).trans (by rw[Oct.D0 _ (by omega)]);have q5:(Oct.Ba x.link 3).data.toList=Oct.Bi x.link 3:=(Oct.Bt x.link 3 (by omega)).trans (by rw[Oct.D0 _ (by omega)]);have q6:(Oct.Ba rs.length 2).data.toList=Oct.Bi rs.length 2:=(Oct.Bt rs.length 2 (by omega)).trans (by rw[Oct.D0 _ (by omega)]);have q7:(Oct.Ba at_ 2).data.toList=Oct.Bi (512-Pg.Aq rs) 2:=(Oct.Bt at_ 2 (by omega)).trans (by rw[Oct.D0 _ (by have:=ax.out;omega),ax.out]);rw[q1,q2,q3,q4,q5,q6,q7]
       have e2:S.data.toList=Pg.Co 512 rs:=(by rw[HS.out]);have e3:B.data.toList=Pg.Di rs:=by rw[bn.out]
       apply Array.toList_inj.1
       simp only[ByteArray.data_append,Array.toList_append,e1,e2,e3,bo.out,bp.out]
      ·exact(((((aa.out.trans (P.out.below (by omega) (by omega))).trans (ak.out.below (by omega) (by omega))).trans (N.mono (by omega))).trans (U.below (by omega) (by omega))).trans (E.mono (by have:=U.size;omega))).trans (ah.below (by omega) (by have:=U.size;have:=E.size;omega))
theorem lJ (S:World→Prop)(a:∀ u v,S u→Bw u v→S v)(n size:Int)(b:0≤size)(c:size≤8)(w:World)(h:S w):
 Cq 206 #[n,size] w fun e w'=>e= .returned (.string (Oct.Ba n size))∧S w':=by
 refine(Ix n size b c w).mono ?_;rintro e w' ⟨rfl,d⟩;exact⟨rfl,a _ _ h d⟩
theorem Vq (A:Option Addr)(c:Nat)(rs:List ByteArray)(u:rs.length≤1099511627776)(w:World)(h:Cells w A c rs):
 Cq 205 #[.slice A rs.length c] w fun e w'=>e= .returned (.slice A (Pg.Ea rs rs.length) c)∧w=w':=by
 have p:=Hq h;clear h;go_enter Tryz.func205,Tryz.ntmps205;go_wp2_with fail
 go_loop [0] (fun v=>∃ m:Nat,m≤rs.length∧Pg.Ea rs m=Pg.Ea rs rs.length∧v= .slice A m c) (fun v=>match v with| .slice _ m _=>m|_=>0)
 case atStart=>exact⟨rs.length,Nat.le_refl _,rfl,rfl⟩
 case round=>
  obtain⟨m,x,o,rfl⟩:=hrel;have i:=Hq o;clear o
  by_cases q:m=0
  ·subst q
   go_wp2_with fail;go_ret;exact⟨by rw[← i.out];rfl,rfl⟩
  ·obtain⟨b,off,rfl,y,s,a⟩:=p.out.at_ (k:=m-1) (by omega)
   obtain⟨m,rfl⟩:∃ n,m=n+1:=⟨m-1,by omega⟩;simp only[Nat.add_sub_cancel]at a;have d:=Gh rs[m];have j:=Hq (show rs[m]?.getD ⟨#[]⟩=rs[m] by simp[show m<rs.length by omega]);generalize t:rs[m]=r at a d j;clear t
   by_cases f:r.size=0
   ·have g:r.toList.isEmpty=true:=by rw[d];exact decide_eq_true f
    clear d;have l:=Hq f;clear f;go_wp2_with fail
    go_round
    case rel=>exact⟨m,by omega,by rw[← i.out,Pg.Ea,j.out,if_pos l.out],rfl⟩
    case measure=>simp
   ·have g:r.toList.isEmpty=false:=by rw[d];exact decide_eq_false f
    clear d;have l:=Hq f;clear f;go_wp2_with fail;go_ret;exact⟨by rw[← i.out,Pg.Ea,j.out,if_neg l.out];rfl,rfl⟩
theorem gE (x:Pg.Cx)(A:Option Addr)(c:Nat)(rs:List ByteArray)(o:Pg.A4 rs≤1099511627776)(w:World)(h:Cells w A c rs):
 Cr 204 #[.agg #[x.lsn,x.kind,x.link,.slice A rs.length c]] w (.bool (decide (Pg.A4 rs≤512))):=by
 unfold Pg.A4 at o;have p:=Hq h;clear h;go_enter Tryz.func204,Tryz.ntmps204;go_wp2_with fail
 go_loop [3,4] (fun n i=>∃ k:Nat,k≤rs.length∧i= .int .i64 k∧n= .int .i64 ((19+4*rs.length+Pg.Aq (rs.take k):Nat):Int)) (fun _ i=>rs.length-(intOf i).toNat)
 case atStart=>exact⟨0,Nat.zero_le _,rfl,by simp[Pg.Aq]⟩
 case round=>
  obtain⟨k,hk,rfl,rfl⟩:=hrel;have q:=Pg.Cl rs k
  by_cases e:k<rs.length
  ·obtain⟨b,off,rfl,t,f,a⟩:=p.out.at_ e
   have l:=Hq (Pg.Hi rs k e);have d:=Pg.Cl rs (k+1);have g:Pg.Aq (rs.take k)+rs[k].size≤Pg.Aq rs:=(by rw[← l.out];exact d);have j:(World.cell? (w.alloc (.cells #[x.lsn,x.kind,x.link,.slice (some ⟨b,off,none⟩) rs.length c] 149)) ⟨b,off+k,none⟩)=some (.string rs[k]):=by
    rw[World.cell?_alloc_lt _ _ _ f];exact a
   clear d;generalize m:rs[k]=r at a g j;have s:=Hq m;clear m;go_wp2_with fail
   go_round
   case rel=>exact⟨k+1,by omega,by go_num,by rw[l.out,s.out];go_num⟩
   case measure=>simp[intOf];omega
  ·obtain rfl:k=rs.length:=by omega
   go_wp2_with fail;go_ret;exact⟨congrArg (fun b=>Ending.returned (.bool b)) (by unfold Pg.A4;rw[decide_eq_decide];omega),(Below.refl _ _).alloc (Nat.le_refl _) _⟩
theorem Ns (x:Pg.Cx)(A:Option Addr)(c:Nat)(rs:List ByteArray)(a:Pg.A4 rs≤1099511627776)(b:Bool)(d:decide (Pg.A4 rs≤512)=b)(w:World)(h:Cells w A c rs):
 Cr 204 #[.agg #[x.lsn,x.kind,x.link,.slice A rs.length c]] w (.bool b):=by
 subst d;exact gE x A c rs a w h
theorem Cells.take {w:World}{A:Option Addr}{c:Nat}{rs:List ByteArray}(h:Cells w A c rs)(m:Nat)(i:m≤rs.length):Cells w A c (rs.take m):=fun e=>by
 rw[List.length_take]at e;obtain⟨b,off,f,k,d,a⟩:=h (by omega);refine⟨b,off,f,by rw[List.length_take];omega,d,fun j g=>?_⟩;rw[List.getElem_take];exact a j (by rw[List.length_take]at g;omega)
theorem Hr (n:Nat)(e:n≤4096)(W:World):(Instr.makeSlice 104 (.int .i64 (n:Int)) (.int .i64 (n:Int))).run Tryz.prog W= .ok (.slice (some ⟨W.heap.size,0,none⟩) n n) (W.alloc (.cells (madeCells #[Value.int .u8 0] n) 5)):=by
 obtain⟨i0,d,a,b,c⟩:=info_parts Tryz.elem8;have h:=run_make (P:=Tryz.prog) W 104 5 i0 (.int .u8 0) Jb d a .i64 .i64 n n (by omega) (by omega) (by rw[c];omega) (by omega);rw[b,Int.toNat_natCast,Nat.mul_one]at h;exact h
theorem Hs (n:Nat)(W:World):(convert 104 9 (.slice (some ⟨W.heap.size,0,none⟩) n n)).run Tryz.prog (W.alloc (.cells (madeCells #[Value.int .u8 0] n) 5))= .ok (.string ⟨(List.replicate n 0).toArray⟩) (W.alloc (.cells (madeCells #[Value.int .u8 0] n) 5)):=by
 have h:=run_convert_bytes_back (P:=Tryz.prog) (W.alloc (.cells (madeCells #[Value.int .u8 0] n) 5)) 104 9 5 ⟨W.heap.size,0,none⟩ n (List.replicate n 0) Jb oQ kR (fun j b=>by
  have a:j<n:=by simpa using b
  have c:(⟨W.heap.size,0,none⟩:Addr).add j=⟨W.heap.size,j,none⟩:=by
   unfold Addr.add;split
   ·rename_i h;rw[h]
   ·simp
  rw[c,World.cell?_alloc_new]
  simp[madeCells,a,Nat.mod_one])
 rw[List.length_replicate]at h;exact h
theorem Nt (x:Pg.Cx)(A:Option Addr)(c:Nat)(z:Pg.Small x)(m:Pg.A4 x.recs≤1099511627776)(w:World)(h:Cells w A c x.recs):
 Cr 139 #[.agg #[x.lsn,x.kind,x.link,.slice A x.recs.length c]] w (.string ⟨(Pg.C7 x).toArray⟩):=by
 have af:=Hq z;clear z;have ag:x.recs.length≤1099511627776:=by unfold Pg.A4 at m;omega
 have hm:=Pg.Np x.recs x.recs.length;have HL:=Hq (show Pg.C7 x=Pg.Lb x (x.recs.take (Pg.Ea x.recs x.recs.length))from rfl);have HC:=Hq (h.take _ hm);have HA:=Hq h;have G:Pg.A4 (x.recs.take (Pg.Ea x.recs x.recs.length))≤1099511627776:=by
  have:=Pg.Cl x.recs (Pg.Ea x.recs x.recs.length);unfold Pg.A4 at*;rw[List.length_take];omega
 have hlen:(x.recs.take (Pg.Ea x.recs x.recs.length)).length=Pg.Ea x.recs x.recs.length:=by rw[List.length_take];omega
 have HT:=Hq (fun W hW=>Vq A c x.recs ag W hW);rw[← hlen]at HT;generalize x.recs.take (Pg.Ea x.recs x.recs.length)=rs at HL HC G hlen HT;clear h m hm hlen
 by_cases d:512<Pg.A4 rs
 ·have H:=Hq (Ns x A c rs G false (decide_eq_false (by omega)))
  go_enter Tryz.func139,Tryz.ntmps139
  go_wp2_with(first|(go_at_call 205;refine(HT.out _ (HA.out.below ((Below.refl _ _).alloc (Nat.le_refl _) _))).mono ?_;rintro e w' ⟨rfl,rfl⟩)|(go_at_call 204;refine(H.out _ (HC.out.below ((Below.refl _ _).alloc (Nat.le_refl _) _))).mono ?_;rintro e w1 ⟨rfl,j⟩))
  go_ret;exact⟨Qk (by rw[HL.out,Pg.Lb,if_pos d]),((Below.refl _ _).alloc (Nat.le_refl _) _).trans (j.mono (by simp))⟩
 ·have H:=Hq (Ns x A c rs G true (decide_eq_true (by omega)))
  go_enter Tryz.func139,Tryz.ntmps139
  go_upto_block 0 with(first|(go_at_call 205;refine(HT.out _ (HA.out.below ((Below.refl _ _).alloc (Nat.le_refl _) _))).mono ?_;rintro e w' ⟨rfl,rfl⟩)|(go_at_call 204;refine(H.out _ (HC.out.below ((Below.refl _ _).alloc (Nat.le_refl _) _))).mono ?_;rintro e w1 ⟨rfl,j⟩))
  have ah:Pg.Aq rs≤512:=by unfold Pg.A4 at d;omega
  have ai:rs.length≤512:=by unfold Pg.A4 at d;omega
  have hX:w.heap.size<w1.heap.size:=by have:=j.size;simp at this;omega
  have X:Bw w w1:=((Below.refl _ _).alloc (Nat.le_refl _) _).trans (j.mono (by simp));have Y:w1.heap[w.heap.size]? =some (.cells #[x.lsn,x.kind,x.link,.slice A rs.length c] 149 (0,0)):=by
   rw[j.block _ (by simp)];exact heap_alloc_new w _
  have Z:=Hq X;have a1:=Hq Y;have C:=Hq d;clear j X Y d
  go_cut [3,4,5] (fun s3 s4 s5 wc=>s3= .int .i64 ((512-Pg.Aq rs:Nat):Int)∧s4= .string ⟨(Pg.Co 512 rs).toArray⟩∧s5= .string ⟨(Pg.Di rs).toArray⟩∧Bw w1 wc)
  case first=>
   go_wp2_with fail
   go_loopw [3,4,5,6] (fun s3 s4 s5 i wr=>∃ (k a:Nat) (S B:ByteArray),k≤rs.length∧i= .int .i64 k∧s3= .int .i64 (a:Int)∧a=512-Pg.Aq (rs.take k)∧s4= .string S∧S.data.toList=Pg.Co 512 (rs.take k)∧s5= .string B∧B.data.toList=Pg.Di (rs.take k)∧Bw w1 wr) (fun _ _ _ i _=>rs.length-(intOf i).toNat)
   case atStart=>exact⟨0,512,⟨#[]⟩,⟨#[]⟩,Nat.zero_le _,rfl,rfl,by simp[Pg.Aq],rfl,rfl,rfl,rfl,Below.refl _ _⟩
   case round=>
    obtain⟨k,a,S,B,hk,rfl,rfl,ha,rfl,D,rfl,E,f⟩:=hrel;have d3:wr.cell? ⟨w.heap.size,3,none⟩=some (.slice A rs.length c):=by
     have:wr.heap[w.heap.size]? =_:=(f.block _ hX).trans a1.out;rw[Bm this];rfl
    have aj:a≤512:=(by omega);have I:S.size≤4096:=by
     have J:S.data.toList.length=S.size:=(by simp);rw[D,Pg.Eb,List.length_take]at J;omega
    have ak:B.size≤512:=by
     have J:B.data.toList.length=B.size:=(by simp);have:=Pg.Cl rs k;rw[E,Pg.Fa]at J;omega
    have n:=Hq ha;have HS:=Hq D;have HB:=Hq E;have b0:=f.size;clear ha D E
    by_cases t:k<rs.length
    ·obtain⟨b,off,rfl,hc,an,o⟩:=HC.out.at_ t
     have a6:wr.cell? ⟨b,off+k,none⟩=some (.string rs[k]):=by
      rw[f.cell (p:=⟨b,off+k,none⟩) (by show b<_;omega),Z.out.cell (p:=⟨b,off+k,none⟩) an];exact o
     have y:=Hq (Pg.Hi rs k t);have K:=Hq (Pg.Pp rs k t);have L:=Hq (Pg.aN rs k t);have ao:rs[k].size≤a:=by
      have:=Pg.Cl rs (k+1);have:=y.out;have:=n.out;omega
     have q:=Gh rs[k];clear o;generalize hr:rs[k]=r at a6 q y K L ao;clear hr
     by_cases V:r.size=0
     ·have a7:r.toList.isEmpty=true:=by rw[q];exact decide_eq_true V
      clear q;have HE:=Hq V;clear V;have z0:(Oct.Ba 0 4).size=4:=Oct.Bh 0 4 (by omega)
      go_wp2_with(go_at_call 206;refine(Ix _ _ (by omega) (by omega) _).mono ?_;rintro e w2 ⟨rfl,M⟩)
      go_roundw
      case rel=>exact⟨k+1,a,_,B,by omega,by go_num,rfl,by rw[y.out,HE.out];exact n.out,rfl,by
       rw[K.out,Pg.La,if_pos HE.out,ByteArray.data_append,Array.toList_append,HS.out,show(Oct.Ba 0 4).data.toList=Oct.Bi 0 4 from Oct.Bt 0 4 (by omega)],rfl,by
       rw[L.out,HB.out,show r.data.toList=[]from List.eq_nil_of_length_eq_zero (by have h9:r.data.toList.length=r.size:=(by simp);rw[h9];exact HE.out)];rfl,andThen f M⟩
      case measure=>simp[intOf];omega
     ·have a7:r.toList.isEmpty=false:=by rw[q];exact decide_eq_false V
      clear q;have HE:=Hq V;clear V;obtain⟨a2,a8⟩:=ex (a-r.size:Nat);have aa:(a:Int)-(r.size:Int)=(a2:Int):=(by omega);have s:∀ u v:World,(u.cell? ⟨w.heap.size,3,none⟩=some (.slice (some ⟨b,off,none⟩) rs.length c)∧u.cell? ⟨b,off+k,none⟩=some (.string r)∧Bw w1 u)→Bw u v→(v.cell? ⟨w.heap.size,3,none⟩=some (.slice (some ⟨b,off,none⟩) rs.length c)∧v.cell? ⟨b,off+k,none⟩=some (.string r)∧Bw w1 v):=fun u v ⟨c1,c2,c3⟩ m=>by
       have:=c3.size;refine⟨?_,?_,andThen c3 m⟩
       ·rw[m.cell (p:=⟨w.heap.size,3,none⟩) (by show w.heap.size<_;omega)];exact c1
       ·rw[m.cell (p:=⟨b,off+k,none⟩) (by show b<_;omega)];exact c2
      have N:=Hq s;have b1:(0:Int)≤(k:Int):=(by omega);have b2:(k:Int)<(rs.length:Int):=(by omega);have z1:(Oct.Ba a2 2).size=2:=Oct.Bh a2 2 (by omega);have z2:(Oct.Ba r.size 2).size=2:=Oct.Bh r.size 2 (by omega);have O:=Hq a8;have aw:∀ W:World,(Op.stringOp .add S (Oct.Ba a2 2++Oct.Ba r.size 2)).run Tryz.prog W= .ok (.string (S++(Oct.Ba a2 2++Oct.Ba r.size 2))) W:=fun W=>run_string_add_sum W _ _ (by rw[ByteArray.size_append,z1,z2];omega);have P:r.size≤512:=(by omega);clear s a8
      go_upto_region 12 with(fail)
      clear aa
      go_region_held3 (fun w'=>w'.cell? ⟨w.heap.size,3,none⟩=some (.slice (some ⟨b,off,none⟩) rs.length c)∧w'.cell? ⟨b,off+k,none⟩=some (.string r)∧Bw w1 w') (first|assumption|exact⟨d3,a6,f.drew⟩|go_keep) (first|(go_at_call 206;refine(lJ _ N.out _ _ (by omega) (by omega) _ (by assumption)).mono ?_;rintro e w2 ⟨rfl,Q⟩))
      obtain⟨e1,e2,M⟩:=Q;go_wp2_with fail;go_roundw
      case rel=>
       refine⟨k+1,a2,_,_,by omega,by go_num,rfl,?_,rfl,?_,rfl,?_,M⟩
       ·rw[y.out,O.out,n.out];omega
       ·have q1:(Oct.Ba a2 2).data.toList=Oct.Bi a2 2:=(Oct.Bt a2 2 (by omega)).trans (by rw[Oct.D0 _ (by have:=O.out;omega)])
        have q2:(Oct.Ba r.size 2).data.toList=Oct.Bi r.size 2:=(Oct.Bt r.size 2 (by omega)).trans (by rw[Oct.D0 _ (by omega)]);simp only[ByteArray.data_append,Array.toList_append];rw[K.out,Pg.La,if_neg HE.out,HS.out,← n.out,q1,q2,O.out]
       ·simp only[ByteArray.data_append,Array.toList_append]
        rw[L.out,HB.out]
      case measure=>simp[intOf];omega
    ·obtain rfl:k=rs.length:=by omega
     have ad:=Hq (List.take_length (l:=rs));go_wp2_with fail;go_meet
     case rel=>
      have J:=HS.out;have h2:=HB.out;rw[ad.out]at J h2;exact⟨by rw[n.out,ad.out],by rw[← J],by rw[← h2],f⟩
  case rest=>
   obtain⟨rfl,rfl,rfl,f⟩:=hcut;obtain⟨wd,rfl⟩:=ex wc;obtain⟨S,D⟩:=ex (⟨(Pg.Co 512 rs).toArray⟩:ByteArray);obtain⟨B,E⟩:=ex (⟨(Pg.Di rs).toArray⟩:ByteArray);obtain⟨at_,T⟩:=ex (512-Pg.Aq rs:Nat);rw[← D,← E,← T];have I:S.size=4*rs.length:=(by rw[D];show(Pg.Co 512 rs).toArray.size=_;simp[Pg.Eb]);have ak:B.size≤4096:=(by rw[E];show(Pg.Di rs).toArray.size≤_;simp[Pg.Fa];omega);have z:wd.heap[w.heap.size]? =some (.cells #[x.lsn,x.kind,x.link,.slice A rs.length c] 149 (0,0)):=(f.block _ hX).trans a1.out;have d0:wd.cell? ⟨w.heap.size,0,none⟩=some (.int .i64 x.lsn):=(by rw[Bm z];rfl);have d1:wd.cell? ⟨w.heap.size,1,none⟩=some (.int .i64 x.kind):=(by rw[Bm z];rfl);have d2:wd.cell? ⟨w.heap.size,2,none⟩=some (.int .i64 x.link):=(by rw[Bm z];rfl);have d3:wd.cell? ⟨w.heap.size,3,none⟩=some (.slice A rs.length c):=(by rw[Bm z];rfl);have s:∀ u v:World,(u.cell? ⟨w.heap.size,0,none⟩=some (.int .i64 x.lsn)∧u.cell? ⟨w.heap.size,1,none⟩=some (.int .i64 x.kind)∧u.cell? ⟨w.heap.size,2,none⟩=some (.int .i64 x.link)∧u.cell? ⟨w.heap.size,3,none⟩=some (.slice A rs.length c)∧Bw w1 u)→Bw u v→(v.cell? ⟨w.heap.size,0,none⟩=some (.int .i64 x.lsn)∧v.cell? ⟨w.heap.size,1,none⟩=some (.int .i64 x.kind)∧v.cell? ⟨w.heap.size,2,none⟩=some (.int .i64 x.link)∧v.cell? ⟨w.heap.size,3,none⟩=some (.slice A rs.length c)∧Bw w1 v):=fun u v ⟨c0,c1,c2,c3,c4⟩ m=>by
    have:=c4.size;refine⟨?_,?_,?_,?_,andThen c4 m⟩
    ·rw[m.cell (p:=⟨w.heap.size,0,none⟩) (by show w.heap.size<_;omega)];exact c0
    ·rw[m.cell (p:=⟨w.heap.size,1,none⟩) (by show w.heap.size<_;omega)];exact c1
    ·rw[m.cell (p:=⟨w.heap.size,2,none⟩) (by show w.heap.size<_;omega)];exact c2
    ·rw[m.cell (p:=⟨w.heap.size,3,none⟩) (by show w.heap.size<_;omega)];exact c3
   have N:=Hq s;have z1:(Oct.Ba 0 4).size=4:=Oct.Bh 0 4 (by omega);have z2:(Oct.Ba x.lsn 6).size=6:=Oct.Bh x.lsn 6 (by omega);have z3:(Oct.Ba x.kind 1).size=1:=Oct.Bh x.kind 1 (by omega);have z4:(Oct.Ba 0 1).size=1:=Oct.Bh 0 1 (by omega);have z5:(Oct.Ba x.link 3).size=3:=Oct.Bh x.link 3 (by omega);have z6:(Oct.Ba rs.length 2).size=2:=Oct.Bh rs.length 2 (by omega);have z7:(Oct.Ba at_ 2).size=2:=Oct.Bh at_ 2 (by omega);have HS:=Hq D;have HB:=Hq E;have U:=Hq T;have aq:=Hq I;have ax:S.size≤4096:=(by omega);clear D E T s z I
   go_upto_region 14 with(fail)
   go_cut [7] (fun s7 we=>s7= .string (Oct.Ba 0 4++Oct.Ba x.lsn 6++Oct.Ba x.kind 1++Oct.Ba 0 1++Oct.Ba x.link 3++Oct.Ba rs.length 2++Oct.Ba at_ 2)∧Bw w1 we)
   case first=>
    go_region_held3 (fun w'=>w'.cell? ⟨w.heap.size,0,none⟩=some (.int .i64 x.lsn)∧w'.cell? ⟨w.heap.size,1,none⟩=some (.int .i64 x.kind)∧w'.cell? ⟨w.heap.size,2,none⟩=some (.int .i64 x.link)∧w'.cell? ⟨w.heap.size,3,none⟩=some (.slice A rs.length c)∧Bw w1 w') (first|assumption|exact⟨d0,d1,d2,d3,f.drew⟩|go_keep) (first|(go_at_call 206;refine(lJ _ N.out _ _ (by omega) (by omega) _ (by assumption)).mono ?_;rintro e w2 ⟨rfl,Q⟩))
    go_wp2_with fail;go_meet
    case rel=>exact⟨rfl,Q.2.2.2.2⟩
   case rest=>
    obtain⟨rfl,ae⟩:=hcut;obtain⟨F,hF⟩:=ex (Oct.Ba 0 4++Oct.Ba x.lsn 6++Oct.Ba x.kind 1++Oct.Ba 0 1++Oct.Ba x.link 3++Oct.Ba rs.length 2++Oct.Ba at_ 2:ByteArray);have b3:F.size=19:=(by rw[hF];simp only[ByteArray.size_append,z1,z2,z3,z4,z5,z6,z7]);rw[← hF];have d:=C.out;obtain⟨room,g⟩:=ex (512-Pg.A4 rs:Nat);have b4:(at_:Int)-19-(S.size:Int)=(room:Int):=by
     have J:=U.out;have h2:=aq.out;unfold Pg.A4 at g d;omega
    have P:room≤512:=(by omega);have ay:at_≤512:=(by have:=U.out;omega);have b5:=Hr room (by omega);have ar:=Hs room;obtain⟨R,hR⟩:=ex (⟨(List.replicate room 0).toArray⟩:ByteArray);rw[← hR]at ar;have au:R.size=room:=(by rw[hR];show(List.replicate room (0:UInt8)).toArray.size=_;simp);have az:R.size≤512:=(by omega);have HF:=Hq hF;have HR:=Hq hR;have av:=Hq g;clear hF hR g d au z1 z2 z3 z4 z5 z6 z7 d0 d1 d2 d3 f;go_wp2_with fail;go_ret;refine⟨Qk ?_,Z.out.trans ((ae.mono (by omega)).trans ((Below.refl _ _).alloc (by have:=ae.size;omega) _))⟩;rw[HL.out,Pg.Lb,if_neg C.out]
    apply ByteArray.ext
    have e1:F.data.toList=Pg.K3 x rs.length (512-Pg.Aq rs):=by
     rw[HF.out,Pg.K3];simp only[ByteArray.data_append,Array.toList_append];obtain⟨y1,y2,y3⟩:=af.out;have q1:(Oct.Ba 0 4).data.toList=Oct.Bi 0 4:=Oct.Bt 0 4 (by omega);have q4:(Oct.Ba 0 1).data.toList=Oct.Bi 0 1:=Oct.Bt 0 1 (by omega);have q2:(Oct.Ba x.lsn 6).data.toList=Oct.Bi x.lsn 6:=(Oct.Bt x.lsn 6 (by omega)).trans (by rw[Oct.D0 _ (by omega)]);have q3:(Oct.Ba x.kind 1).data.toList=Oct.Bi x.kind 1:=(Oct.Bt x.kind 1 (by omega)).trans (by rw[Oct.D0 _ (by omega)]);have q5:(Oct.Ba x.link 3).data.toList=Oct.Bi x.link 3:=(Oct.Bt x.link 3 (by omega)).trans (by rw[Oct.D0 _ (by omega)]);have q6:(Oct.Ba rs.length 2).data.toList=Oct.Bi rs.length 2:=(Oct.Bt rs.length 2 (by omega)).trans (by rw[Oct.D0 _ (by omega)]);have q7:(Oct.Ba at_ 2).data.toList=Oct.Bi (512-Pg.Aq rs) 2:=(Oct.Bt at_ 2 (by omega)).trans (by rw[Oct.D0 _ (by omega),U.out]);rw[q1,q2,q3,q4,q5,q6,q7]
    have e2:S.data.toList=Pg.Co 512 rs:=(by rw[HS.out]);have e3:B.data.toList=Pg.Di rs:=(by rw[HB.out]);have e4:R.data.toList=List.replicate (512-Pg.A4 rs) 0:=by rw[HR.out,av.out]
    apply Array.toList_inj.1
    simp only[ByteArray.data_append,Array.toList_append,e1,e2,e3,e4]
theorem Pu (u:Nat)(h:u<281474976710656):Oct.intOf u=(u:Int):=by
 unfold Oct.intOf;rw[if_pos (by omega)]
theorem eC (s:List UInt8)(a k:Nat)(h:k≤6):Oct.Dl s a k<281474976710656:=by
 have b:=Oct.Ig ((s.drop a).take k);have c:256^((s.drop a).take k).length≤256^6:=Nat.pow_le_pow_right (by omega) (by rw[List.length_take];omega);unfold Oct.Dl;omega
theorem L6 (s:ByteArray)(a size:Int)(c:0≤a)(g:1≤size)(h:size≤6)(d:a+size≤s.size)(i:s.size≤1048576)(w:World):
 Cr 213 #[s,a,size] w (.int .i64 (Oct.Dl s.data.toList a.toNat size.toNat)):=by
 obtain⟨a,rfl⟩:=Int.eq_ofNat_of_zero_le c;obtain⟨k,rfl⟩:=Int.eq_ofNat_of_zero_le (show 0≤size by omega);have b:=Hq (fun W=>oV s a k (by omega) (by omega) (by omega) (by omega) W);rw[Pu _ (eC _ _ _ (by omega))]at b;go_enter Tryz.func213,Tryz.ntmps213
 go_wp2_with(go_at_call 261;refine(b.out _).mono ?_;rintro e w' ⟨rfl,f⟩)
 go_ret;exact⟨rfl,f⟩
theorem Ip (s:ByteArray)(a size:Int)(c:0≤a)(f:1≤size)(g:size≤6)(d:a+size≤s.size)(h:s.size≤1048576)(w:World):
 Cq 203 #[s,a,size] w fun e w'=>e= .returned (.int .i64 (Oct.Dl s.data.toList a.toNat size.toNat))∧w=w':=by
 obtain⟨a,rfl⟩:=Int.eq_ofNat_of_zero_le c;obtain⟨k,rfl⟩:=Int.eq_ofNat_of_zero_le (show 0≤size by omega);have b:=Hq (fun W=>kY s a k (by omega) (by omega) (by omega) (by omega) W);rw[Pu _ (eC _ _ _ (by omega))]at b;go_enter Tryz.func203,Tryz.ntmps203
 go_wp2_with(go_at_call 257;refine(b.out _).mono ?_;rintro e w' ⟨rfl,rfl⟩)
 go_ret;exact⟨rfl,rfl⟩
theorem Ey {w:World}{b:Nat}{T:TypeId}{v0 v1 v2 v3:Value}(h:w.heap[b]? =some (.cells #[v0,v1,v2,v3] T (0,0))):
 w.cell? ⟨b,0,none⟩=some v0∧w.cell? ⟨b,1,none⟩=some v1∧w.cell? ⟨b,2,none⟩=some v2∧w.cell? ⟨b,3,none⟩=some v3∧
 w.frozen? ⟨b,0,none⟩=false∧w.frozen? ⟨b,1,none⟩=false∧w.frozen? ⟨b,2,none⟩=false∧w.frozen? ⟨b,3,none⟩=false:=by
 refine⟨by rw[Bm h];rfl,by rw[Bm h];rfl,by rw[Bm h];rfl,by rw[Bm h];rfl,?_,?_,?_,?_⟩<;>simp[World.frozen?,h]
theorem De {w w':World}{o:Obj}(a:Below (w.alloc o).heap.size (w.alloc o) w'):w'.heap[w.heap.size]? =some o:=
 (a.block _ (by simp)).trans (heap_alloc_new w _)
theorem Fb {w w':World}{b:Nat}{o:Obj}(h:w.heap[b]? =some o)(c:Bw w w'):w'.heap[b]? =some o:=by
 have a:b<w.heap.size:=by
  rcases Nat.lt_or_ge b w.heap.size with h'|h'
  ·exact h'
  ·rw[Array.getElem?_eq_none h']at h;cases h
 rw[c.block b a];exact h
theorem Xo {w w':World}{b:Nat}{o a:Obj}(h:w.heap[b]? =some o)(d:Below (w.alloc a).heap.size (w.alloc a) w'):w'.heap[b]? =some o:=by
 have c:b<w.heap.size:=by
  rcases Nat.lt_or_ge b w.heap.size with h'|h'
  ·exact h'
  ·rw[Array.getElem?_eq_none h']at h;cases h
 rw[d.block b (by simp;omega),Below.heap_alloc w a b c];exact h
theorem Bd {w w':World}{o:Obj}(a:Below (w.alloc o).heap.size (w.alloc o) w'):Bw w w':=
 ((Below.refl _ _).alloc (Nat.le_refl _) _).trans (a.mono (by simp))
theorem Kl:(Tryz.prog.info? 9).map (fun i=>(i.zero,i.size,i.bytes))=some (some (.string ⟨#[]⟩),1,16):=by kernel_rfl
theorem Jp {w w':World}{B:Nat}{e:TypeId}{size n:Nat}{v:Value}{xs:List Value}(h:w.ownsRow B e size v n xs)(a:Bw w w'):w'.ownsRow B e size v n xs:=by
 refine⟨h.1,?_⟩;rcases h.2 with b|⟨g,cap,cur,c,d,f,r⟩
 ·exact .inl b
 ·exact .inr ⟨g,cap,cur,c,d,Fb f a,r⟩
theorem eD {w:World}{b:Nat}(i:Nat){cs:Array Value}{T:TypeId}{fr:Nat×Nat}(h:w.heap[b]? =some (.cells cs T fr))(v:Value):(w.setCell ⟨b,i,none⟩ v).heap[b]? =some (.cells (cs.setIfInBounds i v) T fr):=by
 rw[setCell_eq_setRow w b i cs T fr v h];exact setRow_heap w b _ _ T _ h
theorem Pv {w:World}{B:Nat}{e:TypeId}{size n:Nat}{v:Value}{xs:List Value}(h:w.ownsRow B e size v n xs)(a:Addr)(u:Value)(i:a.block<B):(w.setCell a u).ownsRow B e size v n xs:=by
 refine⟨h.1,?_⟩;rcases h.2 with b|⟨g,cap,cur,c,d,f,r⟩
 ·exact .inl b
 ·exact .inr ⟨g,cap,cur,c,d,by rw[Below.heap_setCell _ _ _ _ (by omega)];exact f,r⟩
theorem Le {w:World}{B:Nat}{e:TypeId}{size n:Nat}{v:Value}{xs:List Value}(h:w.ownsRow B e size v n xs)(o:Obj):(w.alloc o).drew.ownsRow B e size v n xs:=
 Jp h (((Below.refl _ _).alloc (Nat.le_refl _) o).drew)
theorem extract_eq (p:ByteArray)(a l:Nat):p.extract a (a+l)=⟨((p.data.toList.drop a).take l).toArray⟩:=by
 apply ByteArray.ext
 apply Array.ext'
 simp
def Bn (B:Nat)(w:World)(A:Option Addr)(c:Nat)(rs:List ByteArray):Prop:=
 0<rs.length→∃ b,A=some ⟨b,0,none⟩∧B≤b∧rs.length≤c∧b<w.heap.size∧∀ j (hj:j<rs.length),w.cell? ⟨b,j,none⟩=some (.string rs[j])
theorem Bn.cells {B:Nat}{w:World}{A:Option Addr}{c:Nat}{rs:List ByteArray}(h:Bn B w A c rs):Cells w A c rs:=fun e=>by
 obtain⟨b,f,k,g,d,a⟩:=h e;exact⟨b,0,f,g,d,fun j i=>by rw[Nat.zero_add];exact a j i⟩
theorem Bn.set {B:Nat}{w:World}{A:Option Addr}{c:Nat}{rs:List ByteArray}(h:Bn B w A c rs)(a:Addr)(m:a.block<B)(u:Value):Bn B (w.setCell a u) A c rs:=fun f=>by
 obtain⟨b,g,i,k,e,d⟩:=h f;refine⟨b,g,i,k,by simpa using e,fun j l=>?_⟩;rw[← d j l];exact World.cell?_of_block (Below.heap_setCell _ _ _ _ (by simp;omega))
theorem Bn.mono {B a:Nat}{w:World}{A:Option Addr}{c:Nat}{rs:List ByteArray}(h:Bn B w A c rs)(g:a≤B):Bn a w A c rs:=fun d=>by
 obtain⟨b,e,i,f⟩:=h d;exact⟨b,e,by omega,f⟩
theorem Bn.below {B:Nat}{w w':World}{A:Option Addr}{c:Nat}{rs:List ByteArray}(h:Bn B w A c rs)(a:Bw w w'):Bn B w' A c rs:=fun e=>by
 obtain⟨b,f,g,i,d,k⟩:=h e;refine⟨b,f,g,i,Nat.lt_of_lt_of_le d a.size,fun j l=>?_⟩;rw[a.cell (p:=⟨b,j,none⟩) d];exact k j l
theorem Jx {w:World}{B:Nat}{e:TypeId}{A:Option Addr}{k c:Nat}{rs:List ByteArray}(h:w.ownsRow B e 1 (.slice A k c) k (rs.map Value.string))(p:rs.length=k):Bn B w A c rs:=fun q=>by
 rcases h.2 with⟨f,-⟩|⟨g,cap,cur,i,l,b,r,s,t,m⟩
 ·simp at f;omega
 ·have a:A=some ⟨g,0,none⟩∧c=cap:=by simpa using i
  obtain⟨rfl,rfl⟩:=a;refine⟨g,rfl,l,by omega,(Array.getElem?_eq_some_iff.1 b).1,fun j n=>?_⟩;have o:cur.toList[j]? =some (.string rs[j]):=by
   have d:(rs.map Value.string)[j]? =some (.string rs[j]):=(by simp[n]);rw[← m,List.getElem?_take_of_lt (by omega)]at d;exact d
  rw[Bm b]
  simpa using o
abbrev F3 (x:Pg.Cx)(A:Option Addr)(c:Nat):Value:=.agg #[x.lsn,x.kind,x.link,.slice A x.recs.length c]
abbrev zeroV:Value:=.agg #[(),(),(),'s']
def Ox (r:Option Pg.Cx)(w:World)(e:Ending)(w':World):Prop:=
 (match r with
   |some x=>∃ A c,e= .returned (.tuple #[F3 x A c,true])∧Bn w.heap.size w' A c x.recs
   |none=>e= .returned (.tuple #[zeroV,false]))∧Bw w w'
theorem lK (p:ByteArray)(_hm:p.size≤140737488355328)(w:World):
 Cq 150 #[p] w (Ox (Pg.rd p.data.toList) w):=by
 by_cases a6:p.size=512
 ·have HL:=Hq (show p.data.toList.length=512 by have h9:p.data.toList.length=p.size:=(by simp);omega)
  obtain⟨G,y⟩:=ex (Oct.Dl p.data.toList 4 6);obtain⟨kind,l⟩:=ex (Oct.Dl p.data.toList 10 1);obtain⟨link,m⟩:=ex (Oct.Dl p.data.toList 12 3);obtain⟨n,hn⟩:=ex (Oct.Dl p.data.toList 15 2);have H:=Hq (fun W=>L6 p 4 6 (by omega) (by omega) (by omega) (by omega) (by omega) W);have I:=Hq (fun W=>L6 p 10 1 (by omega) (by omega) (by omega) (by omega) (by omega) W);have J:=Hq (fun W=>L6 p 12 3 (by omega) (by omega) (by omega) (by omega) (by omega) W);have K:=Hq (fun W=>L6 p 15 2 (by omega) (by omega) (by omega) (by omega) (by omega) W);rw[show((4:Int).toNat)=4 from rfl,show((6:Int).toNat)=6 from rfl,← y]at H;rw[show((10:Int).toNat)=10 from rfl,show((1:Int).toNat)=1 from rfl,← l]at I;rw[show((12:Int).toNat)=12 from rfl,show((3:Int).toNat)=3 from rfl,← m]at J;rw[show((15:Int).toNat)=15 from rfl,show((2:Int).toNat)=2 from rfl,← hn]at K;have ae:=Hq y;have L:=Hq l;have af:=Hq m;have M:=Hq hn;clear y l m hn
  by_cases a:4<kind∨123<n
  ·have HR:=Hq (show Pg.rd p.data.toList=none by rw[Pg.rd,if_pos (by rw[← L.out,← M.out];exact .inr a)])
   have d:4<kind∨(kind≤4∧123<n):=(by omega);clear a;rcases d with N|⟨N,Z⟩
   all_goals
    go_enter Tryz.func150,Tryz.ntmps150
    go_wp2_with(first|(go_at_call 213;(with_reducible refine(H.out _).mono ?_);rintro e w1 ⟨rfl,d⟩)|(go_at_call 213;(with_reducible refine(I.out _).mono ?_);rintro e w2 ⟨rfl,q⟩)|(go_at_call 213;(with_reducible refine(J.out _).mono ?_);rintro e w3 ⟨rfl,r⟩)|(go_at_call 213;(with_reducible refine(K.out _).mono ?_);rintro e w4 ⟨rfl,g⟩;obtain⟨a0,a1,a2,a3,-⟩:=Ey (De g);obtain⟨c0,c1,c2,c3,f0,f1,f2,f3⟩:=Ey (Xo (Fb (Fb (De d) q) r) g)))
    refine bodyPost_ret (v:=.tuple #[zeroV,false]) (by simp[results,Tryz.results150,go_sem,c0,c1,c2,c3]) rfl ?_;unfold Ox;rw[HR.out];have s:Bw w w4:=andThen (andThen (andThen (Bd d) q) r) (Bd g);refine⟨rfl,?_⟩
    repeat (first|exact s|refine Below.setCell ?_ (by simp) _)
  ·obtain⟨b1,ag⟩:kind≤4∧n≤123:=by omega
   have a7:=Hq (show Pg.rd p.data.toList=(Pg.Ds p.data.toList n).map fun rs=>⟨G,kind,link,rs⟩ by
    rw[Pg.rd,if_neg (by rw[← L.out,← M.out];have:=HL.out;omega),← ae.out,← L.out,← af.out,← M.out])
   clear a;go_enter Tryz.func150,Tryz.ntmps150
   go_upto_block 0 with(first|(go_at_call 213;(with_reducible refine(H.out _).mono ?_);rintro e w1 ⟨rfl,d⟩)|(go_at_call 213;(with_reducible refine(I.out _).mono ?_);rintro e w2 ⟨rfl,q⟩)|(go_at_call 213;(with_reducible refine(J.out _).mono ?_);rintro e w3 ⟨rfl,r⟩)|(go_at_call 213;(with_reducible refine(K.out _).mono ?_);rintro e w4 ⟨rfl,g⟩;obtain⟨a0,a1,a2,a3,-⟩:=Ey (De g)))
   have O:=De g;have hZ:=Xo (Fb (Fb (De d) q) r) g;have s:Bw w w4:=andThen (andThen (andThen (Bd d) q) r) (Bd g);have ah:w.heap.size<w3.heap.size:=by
    have:=d.size;have:=q.size;have:=r.size;simp at*;omega
   have x:w3.heap.size<w4.heap.size:=(by have:=g.size;simp at this;omega);clear d q r g a0 a1 a2 a3;generalize w3.heap.size=X at O ah x ⊢;have HX:=Hq O;have HZ:=Hq hZ;have HW:=Hq s;clear O hZ s;go_wp2_with fail
   go_loopw [31] (fun i wr=>∃ (k:Nat) (rs:List ByteArray) (A:Option Addr) (c:Nat),k≤n∧i= .int .i64 k∧Pg.Ds p.data.toList k=some rs∧wr.heap[X]? =some (.cells #[G,kind,link,.slice A k c] 118 (0,0))∧wr.heap[w.heap.size]? =some (.cells #[(),(),(),'s'] 118 (0,0))∧wr.ownsRow w4.heap.size 9 1 (.slice A k c) k (rs.map Value.string)∧Bw w wr∧w4.heap.size≤wr.heap.size) (fun i _=>n-(intOf i).toNat)
   case atStart=>exact⟨0,[],none,0,Nat.zero_le _,rfl,rfl,HX.out,HZ.out,⟨rfl,.inl ⟨rfl,rfl⟩⟩,HW.out,Nat.le_refl _⟩
   case round=>
    obtain⟨k,rs,A,c,hk,rfl,P,O,hZ,F,s,b2⟩:=hrel;have a8:=Pg.Hj _ _ _ P;have Q:=Hq P;have R:=Hq O;have S:=Hq hZ;have HO:=Hq F;have T:=Hq s;have aa:=Hq a8;clear P O hZ F s a8
    by_cases b3:k<n
    ·obtain⟨at_,D⟩:=ex (Oct.Dl p.data.toList (19+4*k) 2)
     obtain⟨long,j⟩:=ex (Oct.Dl p.data.toList (21+4*k) 2);have b4:at_<65536:=by
      have N:=Oct.Ig ((p.data.toList.drop (19+4*k)).take 2);have Z:256^((p.data.toList.drop (19+4*k)).take 2).length≤256^2:=Nat.pow_le_pow_right (by omega) (by rw[List.length_take];omega);rw[D];unfold Oct.Dl;omega
     have b5:long<65536:=by
      have N:=Oct.Ig ((p.data.toList.drop (21+4*k)).take 2);have Z:256^((p.data.toList.drop (21+4*k)).take 2).length≤256^2:=Nat.pow_le_pow_right (by omega) (by rw[List.length_take];omega);rw[j];unfold Oct.Dl;omega
     have HA:=Hq (fun W=>L6 p (19+4*(k:Int)) 2 (by omega) (by omega) (by omega) (by omega) (by omega) W);have HB:=Hq (fun W=>L6 p (19+4*(k:Int)+2) 2 (by omega) (by omega) (by omega) (by omega) (by omega) W);rw[show(19+4*(k:Int)).toNat=19+4*k by omega,show((2:Int).toNat)=2 from rfl,← D]at HA;rw[show(19+4*(k:Int)+2).toNat=21+4*k by omega,show((2:Int).toNat)=2 from rfl,← j]at HB;have U:=Hq D;have V:=Hq j;clear D j
     by_cases a:400<long∨512<at_+long
     ·have HN:=Hq (show Pg.rd p.data.toList=none by
       have N:Pg.Ds p.data.toList (k+1)=none:=by
        simp only[Pg.Ds,Q.out];rw[if_pos (by rw[← U.out,← V.out];exact a)]
       have Z:=Pg.Pr _ N (n-(k+1));rw[show k+1+(n-(k+1))=n by omega]at Z;rw[a7.out,Z];rfl)
      have d:400<long∨(long≤400∧(512:Int)-(long:Int)<(at_:Int)):=(by omega);clear a;rcases d with N|⟨N,Z⟩
      all_goals
       go_wp2_with(first|(go_at_call 213;(with_reducible refine(HA.out _).mono ?_);rintro e w5 ⟨rfl,z⟩)|(go_at_call 213;(with_reducible refine(HB.out _).mono ?_);rintro e w6 ⟨rfl,C⟩;obtain⟨c0,c1,c2,c3,f0,f1,f2,f3⟩:=Ey (Fb (Fb S.out z) C)))
       refine bodyPost_ret (v:=.tuple #[zeroV,false]) (by simp[results,Tryz.results150,go_sem,c0,c1,c2,c3]) rfl ?_;unfold Ox;rw[HN.out];have ad:Bw w w6:=andThen (andThen T.out z) C;refine⟨rfl,?_⟩
       repeat (first|exact ad|refine Below.setCell ?_ (by simp) _)
     ·obtain⟨b6,ay⟩:long≤400∧at_+long≤512:=by omega
      clear a
      go_upto_region 13 with(first|(go_at_call 213;(with_reducible refine(HA.out _).mono ?_);rintro e w5 ⟨rfl,z⟩)|(go_at_call 213;(with_reducible refine(HB.out _).mono ?_);rintro e w6 ⟨rfl,C⟩))
      obtain⟨i0,ai,aj,ak,an⟩:=info_parts Kl;have h:Bw wr w6:=andThen z C;have E:=Fb R.out h;have ao:=Fb S.out h;have u:w6.ownsRow w4.heap.size 9 1 (.slice A k c) k (rs.map Value.string):=Jp HO.out h;have aq:Bw w w6:=andThen T.out h;have b7:=h.size;obtain⟨x0,x1,x2,x3,g0,g1,g2,g3⟩:=Ey E;have b8:(0:Int)≤(at_:Int):=(by omega);have b9:(at_:Int)≤(at_:Int)+(long:Int):=(by omega);have ba:(at_:Int)+(long:Int)≤512:=(by omega);have bb:IntKind.i64.wrap ((at_:Int)+(long:Int))=(at_:Int)+(long:Int):=IntWalk.i64_in _ (by omega);have bc:((at_:Int)+(long:Int)).toNat=at_+long:=(by omega);have bd:0≤(at_:Int)+(long:Int):=(by omega);have bf:at_≤at_+long:=(by omega);have bg:at_+long≤p.size:=(by omega);clear z C h;have HF:=Hq (show ∀ w7:World,((w6.alloc (.cells #[.string (p.extract at_ (at_+long))] 9)).drew).grownBy w7 (Value.slice A k c).ownBlock→∀ (b:Nat) (o:Obj),b<w4.heap.size→w6.heap[b]? =some o→w7.heap[b]? =some o by
       intro w7 hg b o hb ho;rw[hg.block b (by simp;omega) (fun e9=>absurd (u.lt b e9.symm).1 (by omega))];exact(Below.heap_alloc w6 _ b (by omega)).trans ho)
      obtain⟨-,-,-,z3,-⟩:=Ey ((Below.heap_alloc w6 (.cells #[.string (p.extract at_ (at_+long))] 9) X (by omega)).trans E)
      go_region_law? (refine step_append_lies _ (by rfl) _ _ _ (by rfl) w4.heap.size 9 i0 (.string ⟨#[]⟩) 1 16 Q3 ai aj ak an rfl (by omega) (.slice A k c) k (rs.map Value.string) (by rfl) (Le u _) ⟨w6.heap.size,0,none⟩ 1 1 [.string (p.extract at_ (at_+long))] (by rfl) (by rfl) (World.news_of_block (cs:=#[.string (p.extract at_ (at_+long))]) (t:=9) (fr:=(0,0)) (heap_alloc_new w6 _)) (by simp[Value.oneCell']) (by omega) (by simp[maxLen];omega) (by omega) (by simp;omega) (w6.heap.size+1) (by simp) ?_;intro gg cap w7 Y f az b0;obtain⟨y0,y1,y2,y3,k0,k1,k2,k3⟩:=Ey (HF.out w7 f X _ x E))
      all_goals
       have ar:=HF.out w7 f X _ x E;have au:=HF.out w7 f w.heap.size _ (by omega) ao;have av:Bw w w7:=((aq.alloc (by omega) _).drew).grown f (by simp;omega) (fun k9 e9=>by have:=(u.lt k9 e9).1;omega);have bh:w6.heap.size+1≤w7.heap.size:=(by have:=f.size;simp at this;omega);go_wp2_with fail;go_roundw
       case rel=>
        refine⟨k+1,rs++[p.extract at_ (at_+long)],some ⟨gg,0,none⟩,cap,by omega,by go_num,?_,?_,?_,?_,?_,?_⟩
        ·simp only[Pg.Ds,Q.out]
         rw[if_neg (by rw[← U.out,← V.out];omega),← U.out,← V.out];rw[extract_eq]
        ·have:=eD 3 ar (.slice (some ⟨gg,0,none⟩) (k+1) cap)
         simpa using this
        ·rw[Below.heap_setCell _ _ _ _ (by simp;omega)];exact au
        ·have:=Pv Y ⟨X,3,none⟩ (.slice (some ⟨gg,0,none⟩) (k+1) cap) x
         simpa using this
        ·exact av.setCell (by simp;omega) _
        ·simp;omega
       case measure=>simp[intOf];omega
    ·obtain rfl:k=n:=by omega
     have O:=R.out;obtain⟨x0,x1,x2,x3,-⟩:=Ey R.out;obtain⟨c0,c1,c2,c3,f0,f1,f2,f3⟩:=Ey S.out;have aw:X≠w.heap.size:=(by omega);go_wp2_with fail;refine bodyPost_ret (v:=.tuple #[F3 ⟨G,kind,link,rs⟩ A c,true]) (by simp[results,Tryz.results150,go_sem,c0,c1,c2,c3];exact aa.out.symm) rfl ?_;unfold Ox;rw[a7.out,Q.out];have hlen:=aa.out;have ax:=Jx HO.out hlen;refine⟨⟨A,c,by simp[F3,hlen],?_⟩,?_⟩
     ·refine Bn.mono (B:=w4.heap.size) ?_ (by omega)
      repeat (first|exact ax|refine Bn.set ?_ _ (by simp;omega) _)
     ·repeat (first|exact T.out|refine Below.setCell ?_ (by simp) _)
 ·have aw:((p.size:Int)==512)=false:=by simp;omega
  have HR:=Hq (show Pg.rd p.data.toList=none by
   rw[Pg.rd,if_pos (.inl (by have h9:p.data.toList.length=p.size:=(by simp);omega))])
  clear a6;go_enter Tryz.func150,Tryz.ntmps150;go_wp2_with fail;refine bodyPost_ret (v:=.tuple #[zeroV,false]) (by simp[results,Tryz.results150,go_sem]) rfl ?_;unfold Ox;rw[HR.out];exact⟨rfl,(Below.refl _ _).alloc (Nat.le_refl _) _⟩
abbrev M1 (X:Nat)(x:Pg.Cx)(A:Option Addr)(c:Nat)(w0 u:World):Prop:=
 u.cell? ⟨X,0,none⟩=some (.int .i64 x.lsn)∧u.cell? ⟨X,1,none⟩=some (.int .i64 x.kind)∧u.cell? ⟨X,2,none⟩=some (.int .i64 x.link)∧u.cell? ⟨X,3,none⟩=some (.slice A x.recs.length c)∧Cells u A c x.recs∧X<u.heap.size∧Bw w0 u
theorem M1.step {X:Nat}{x:Pg.Cx}{A:Option Addr}{c:Nat}{d u v:World}(h:M1 X x A c d u)(a:Bw u v):M1 X x A c d v:=by
 obtain⟨c0,c1,c2,c3,e,b,f⟩:=h;have:=a.size;refine⟨?_,?_,?_,?_,e.below a,by omega,andThen f a⟩
 ·rw[a.cell (p:=⟨X,0,none⟩) b];exact c0
 ·rw[a.cell (p:=⟨X,1,none⟩) b];exact c1
 ·rw[a.cell (p:=⟨X,2,none⟩) b];exact c2
 ·rw[a.cell (p:=⟨X,3,none⟩) b];exact c3
theorem M1.drew {X:Nat}{x:Pg.Cx}{A:Option Addr}{c:Nat}{a u:World}(h:M1 X x A c a u):M1 X x A c a u.drew:=h.step (Below.refl _ _).drew
theorem below_drewN (w:World)(n:Nat):Bw w (w.drewN n):=⟨rfl,rfl,rfl,Nat.le_refl _,fun _ _=>rfl⟩
theorem gF (n size:Int)(b:0≤size)(d:size≤8)(X:Nat)(x:Pg.Cx)(A:Option Addr)(c:Nat)(a u:World)(h:M1 X x A c a u):
 Cq 151 #[n,size] u fun e w'=>e= .returned (.string (Oct.Ba n size))∧M1 X x A c a w':=
 (Hh n size b d u).mono fun _ _ ⟨f,g⟩=>⟨f,h.step g⟩
theorem aR (x:Pg.Cx)(A:Option Addr)(c:Nat)(a:Pg.Qh x)(X:Nat)(b u:World)(h:M1 X x A c b u):
 Cq 73 #[.agg #[x.lsn,x.kind,x.link,.slice A x.recs.length c]] u fun e w'=>e= .returned (.string ⟨(Pg.C7 x).toArray⟩)∧M1 X x A c b w':=
 (Nr x A c a.small (by have:=a.A4;omega) u h.2.2.2.2.1).mono fun _ _ ⟨d,f⟩=>⟨d,h.step f⟩
theorem lM (p:ByteArray)(E:p.size≤140737488355328)(w:World):
 Cq 72 #[p] w (Ox (Pg.right p.data.toList) w):=by
 have q:=Hq (fun W=>lK p E W);rcases l:Pg.rd p.data.toList with _|x
 ·rw[l]at q
  rw[Pg.Hl l];go_enter Tryz.func72,Tryz.ntmps72
  go_upto_region 2 with(first|(go_at_call 150;(with_reducible refine(q.out _).mono ?_);rintro e a ⟨rfl,d⟩))
  have r:w.heap.size<a.heap.size:=by have:=d.size;simp at this;omega
  have i:=Bd d;have j:=De d;clear d;have t:=Hq (show M1 a.heap.size Pg.zero none 0 (a.alloc (.cells #[(),(),(),'s'] 118)) (a.alloc (.cells #[(),(),(),'s'] 118)) by
   obtain⟨a0,u,a2,a3,-⟩:=Ey (heap_alloc_new a (.cells #[(),(),(),'s'] 118));exact⟨a0,u,a2,a3,fun F=>by simp[Pg.zero]at F,by simp,Below.refl _ _⟩)
  go_cut [21] (fun s m=>s= .bool true∧M1 a.heap.size Pg.zero none 0 (a.alloc (.cells #[(),(),(),'s'] 118)) m)
  case first=>
   go_quiet (fail)
   go_wp2_with fail;go_meet
   case rel=>exact⟨rfl,t.out.step (below_drewN _ _)⟩
  case rest=>
   obtain⟨rfl,k⟩:=hcut;have g:=andThen (Bd (k.2.2.2.2.2.2)) (Below.refl _ _);obtain⟨c0,c1,c2,c3,f0,f1,f2,f3⟩:=Ey (Fb j g);go_wp2_with fail;refine bodyPost_ret (v:=.tuple #[zeroV,false]) (by simp[results,Tryz.results72,go_sem,c0,c1,c2,c3]) rfl ?_;have f:=andThen i g;refine⟨rfl,?_⟩
   repeat (first|exact f|refine Below.setCell ?_ (by simp) _)
 ·rw[l]at q
  obtain⟨C,n⟩:=Pg.Qj l;have G:p.size=512:=by have H:p.data.toList.length=p.size:=(by simp);omega
  rw[Pg.Q9 l];have I:=Hq C;clear l C n;have h:(Pg.C7 x==(Oct.Ba 0 4++p.extract 4 512).toList)=decide (Pg.C7 x=Oct.Bi 0 4++p.data.toList.drop 4):=by
   have J:(Oct.Ba 0 4++p.extract 4 512).data.toList=Oct.Bi 0 4++p.data.toList.drop 4:=by
    rw[ByteArray.data_append,Array.toList_append,show(Oct.Ba 0 4).data.toList=Oct.Bi 0 4 from Oct.Bt 0 4 (by omega)]
    congr 1
    rw[show 512=4+508 from rfl,extract_eq];exact List.take_of_length_le (by have H:p.data.toList.length=p.size:=(by simp);rw[List.length_drop];omega)
   rw[ByteArray.toList_eq,J];exact Bool.beq_eq_decide_eq _ _
  generalize decide (Pg.C7 x=Oct.Bi 0 4++p.data.toList.drop 4)=b at h ⊢;have y:=Hq h;have K:(Oct.Ba 0 4).size=4:=Oct.Bh 0 4 (by omega);have L:(p.extract 4 p.size).size=508:=by simp;omega
  have M:4≤p.size:=by omega
  clear h;go_enter Tryz.func72,Tryz.ntmps72
  go_upto_region 2 with(first|(go_at_call 150;(with_reducible refine(q.out _).mono ?_);rintro e a ⟨⟨A,c,rfl,o⟩,d⟩))
  have r:w.heap.size<a.heap.size:=by have:=d.size;simp at this;omega
  have i:=Bd d;have j:=De d;clear d;have t:=Hq (show M1 a.heap.size x A c (a.alloc (.cells #[x.lsn,x.kind,x.link,.slice A x.recs.length c] 118)) (a.alloc (.cells #[x.lsn,x.kind,x.link,.slice A x.recs.length c] 118)) by
   obtain⟨a0,u,a2,a3,-⟩:=Ey (heap_alloc_new a (.cells #[x.lsn,x.kind,x.link,.slice A x.recs.length c] 118));exact⟨a0,u,a2,a3,(o.below ((Below.refl _ _).alloc (Nat.le_refl _) _)).cells,by simp,Below.refl _ _⟩)
  go_cut [21] (fun s m=>s= .bool (!b)∧M1 a.heap.size x A c (a.alloc (.cells #[x.lsn,x.kind,x.link,.slice A x.recs.length c] 118)) m)
  case first=>
   go_region_held3 (fun m=>M1 a.heap.size x A c (a.alloc (.cells #[x.lsn,x.kind,x.link,.slice A x.recs.length c] 118)) m) (first|assumption|exact t.out.drew) (first|(go_at_call 73;refine(aR x A c I.out _ _ _ (by assumption)).mono ?_;rintro e a ⟨rfl,k⟩)|(go_at_call 151;refine(gF _ _ (by omega) (by omega) _ _ _ _ _ _ (by assumption)).mono ?_;rintro e a ⟨rfl,k⟩))
   go_wp2_with fail;go_meet
   case rel=>exact⟨congrArg (fun z=>Value.bool (!z)) y.out,k⟩
  case rest=>
   obtain⟨rfl,k⟩:=hcut;have g:=Bd (k.2.2.2.2.2.2);obtain⟨c0,c1,c2,c3,f0,f1,f2,f3⟩:=Ey (Fb j g);have f:=andThen i g;obtain⟨O,P,Q,R,D,-,-⟩:=k;have N:a.heap.size≠w.heap.size:=by omega
   cases b
   ·go_wp2_with fail
    refine bodyPost_ret (v:=.tuple #[zeroV,false]) (by simp[results,Tryz.results72,go_sem,c0,c1,c2,c3]) rfl ?_;refine⟨rfl,?_⟩
    repeat (first|exact f|refine Below.setCell ?_ (by simp) _)
   ·go_wp2_with fail
    refine bodyPost_ret (v:=.tuple #[F3 x A c,true]) (by simp[results,Tryz.results72,go_sem,c0,c1,c2,c3]) rfl ?_;refine⟨⟨A,c,rfl,?_⟩,?_⟩
    ·refine Bn.mono (B:=w.heap.size+1) ?_ (by omega)
     repeat (first|exact(o.below g).mono (by simp)|refine Bn.set ?_ _ (by simp) _)
    ·repeat (first|exact f|refine Below.setCell ?_ (by simp) _)
def Oy (r:Option Pg.Cx)(w:World)(e:Ending)(w':World):Prop:=
 (match r with
   |some x=>∃ A c,e= .returned (.tuple #[F3 x A c,true])∧Bn w.heap.size w' A c x.recs
   |none=>∃ (x:Pg.Cx) (A:Option Addr) (c:Nat),e= .returned (.tuple #[F3 x A c,false]))∧Bw w w'
theorem aS (p:ByteArray)(_hm:p.size≤140737488355328)(w:World):
 Cq 135 #[p] w (Oy (Pg.right p.data.toList) w):=by
 by_cases a1:p.size=512
 ·have HL:=Hq (show p.data.toList.length=512 by have h9:p.data.toList.length=p.size:=(by simp);omega)
  obtain⟨a,m⟩:=ex (Oct.Dl p.data.toList 4 6);obtain⟨kind,h⟩:=ex (Oct.Dl p.data.toList 10 1);obtain⟨link,j⟩:=ex (Oct.Dl p.data.toList 12 3);obtain⟨n,hn⟩:=ex (Oct.Dl p.data.toList 15 2);have H:=Hq (fun W=>Ip p 4 6 (by omega) (by omega) (by omega) (by omega) (by omega) W);have I:=Hq (fun W=>Ip p 10 1 (by omega) (by omega) (by omega) (by omega) (by omega) W);have J:=Hq (fun W=>Ip p 12 3 (by omega) (by omega) (by omega) (by omega) (by omega) W);have K:=Hq (fun W=>Ip p 15 2 (by omega) (by omega) (by omega) (by omega) (by omega) W);have b1:n<65536:=by have:=Pg.Q8 p.data.toList 15 2;omega
  rw[show((4:Int).toNat)=4 from rfl,show((6:Int).toNat)=6 from rfl,← m]at H;rw[show((10:Int).toNat)=10 from rfl,show((1:Int).toNat)=1 from rfl,← h]at I;rw[show((12:Int).toNat)=12 from rfl,show((3:Int).toNat)=3 from rfl,← j]at J;rw[show((15:Int).toNat)=15 from rfl,show((2:Int).toNat)=2 from rfl,← hn]at K;have af:=Hq m;have L:=Hq h;have ag:=Hq j;have M:=Hq hn;clear m h j hn
  by_cases d:4<kind∨123<n
  ·have E:=Hq (show Pg.right p.data.toList=none from Pg.Hl (by rw[Pg.rd,if_pos (by rw[← L.out,← M.out];exact .inr d)]))
   have N:4<kind∨(kind≤4∧512<19+4*(n:Int)):=(by omega);clear d;rcases N with y|⟨y,h2⟩
   all_goals
    go_enter Tryz.func135,Tryz.ntmps135
    go_wp2_with(first|(go_at_call 203;(with_reducible refine(H.out _).mono ?_);rintro e w1 ⟨rfl,rfl⟩)|(go_at_call 203;(with_reducible refine(I.out _).mono ?_);rintro e w2 ⟨rfl,rfl⟩)|(go_at_call 203;(with_reducible refine(J.out _).mono ?_);rintro e w3 ⟨rfl,rfl⟩)|(go_at_call 203;(with_reducible refine(K.out _).mono ?_);rintro e w4 ⟨rfl,rfl⟩))
    refine bodyPost_ret (v:=.tuple #[zeroV,false]) (by simp[results,Tryz.results135,go_sem]) rfl ?_;unfold Oy;rw[E.out];refine⟨⟨Pg.zero,none,0,rfl⟩,?_⟩
    repeat (first|exact Below.refl _ _|refine Below.setCell ?_ (by simp) _|refine Below.alloc ?_ (by simp) _)
  ·obtain⟨b5,ah⟩:kind≤4∧n≤123:=by omega
   have a6:=Hq (show Pg.rd p.data.toList=(Pg.Ds p.data.toList n).map fun rs=>⟨a,kind,link,rs⟩ by
    rw[Pg.rd,if_neg (by rw[← L.out,← M.out];have:=HL.out;omega),← af.out,← L.out,← ag.out,← M.out])
   clear d;have ai:19+4*(n:Int)≤512:=(by omega);go_enter Tryz.func135,Tryz.ntmps135
   go_upto_block 0 with(first|(go_at_call 203;(with_reducible refine(H.out _).mono ?_);rintro e w1 ⟨rfl,rfl⟩)|(go_at_call 203;(with_reducible refine(I.out _).mono ?_);rintro e w2 ⟨rfl,rfl⟩)|(go_at_call 203;(with_reducible refine(J.out _).mono ?_);rintro e w3 ⟨rfl,rfl⟩)|(go_at_call 203;(with_reducible refine(K.out _).mono ?_);rintro e w4 ⟨rfl,rfl⟩))
   have O:=heap_alloc_new (w.alloc (.cells #[(),(),(),'s'] 149)) (.cells #[a,kind,link,'s'] 149);have hZ:=(Below.heap_alloc (w.alloc (.cells #[(),(),(),'s'] 149)) (.cells #[a,kind,link,'s'] 149) w.heap.size (by simp)).trans (heap_alloc_new w _);rw[show(w.alloc (.cells #[(),(),(),'s'] 149)).heap.size=w.heap.size+1 by simp]at O;have r:Bw w ((w.alloc (.cells #[(),(),(),'s'] 149)).alloc (.cells #[a,kind,link,'s'] 149)):=((Below.refl _ _).alloc (Nat.le_refl _) _).alloc (by simp) _;generalize b6:w.heap.size+1=X at O ⊢;have HX:=Hq O;have HZ:=Hq hZ;have HW:=Hq r;clear O hZ r;go_wp2_with fail
   go_loopw [6] (fun i wr=>∃ (k:Nat) (rs:List ByteArray) (A:Option Addr) (c:Nat),k≤n∧i= .int .i64 k∧Pg.Ds p.data.toList k=some rs∧wr.heap[X]? =some (.cells #[a,kind,link,.slice A k c] 149 (0,0))∧wr.heap[w.heap.size]? =some (.cells #[(),(),(),'s'] 149 (0,0))∧wr.ownsRow (w.heap.size+2) 9 1 (.slice A k c) k (rs.map Value.string)∧Bw w wr∧w.heap.size+2≤wr.heap.size) (fun i _=>n-(intOf i).toNat)
   case atStart=>exact⟨0,[],none,0,Nat.zero_le _,rfl,rfl,HX.out,HZ.out,⟨rfl,.inl ⟨rfl,rfl⟩⟩,HW.out,by simp⟩
   case round=>
    obtain⟨k,rs,A,c,hk,rfl,P,O,hZ,F,r,b7⟩:=hrel;have a7:=Pg.Hj _ _ _ P;have Q:=Hq P;have R:=Hq O;have z:=Hq hZ;have HO:=Hq F;have S:=Hq r;have aj:=Hq a7;clear P O hZ F r a7
    by_cases b8:k<n
    ·obtain⟨at_,C⟩:=ex (Oct.Dl p.data.toList (19+4*k) 2)
     obtain⟨long,g⟩:=ex (Oct.Dl p.data.toList (21+4*k) 2);have b9:at_<65536:=by
      have y:=Oct.Ig ((p.data.toList.drop (19+4*k)).take 2);have h2:256^((p.data.toList.drop (19+4*k)).take 2).length≤256^2:=Nat.pow_le_pow_right (by omega) (by rw[List.length_take];omega);rw[C];unfold Oct.Dl;omega
     have ba:long<65536:=by
      have y:=Oct.Ig ((p.data.toList.drop (21+4*k)).take 2);have h2:256^((p.data.toList.drop (21+4*k)).take 2).length≤256^2:=Nat.pow_le_pow_right (by omega) (by rw[List.length_take];omega);rw[g];unfold Oct.Dl;omega
     have HA:=Hq (fun W=>Ip p (19+4*(k:Int)) 2 (by omega) (by omega) (by omega) (by omega) (by omega) W);have HB:=Hq (fun W=>Ip p (19+4*(k:Int)+2) 2 (by omega) (by omega) (by omega) (by omega) (by omega) W);rw[show(19+4*(k:Int)).toNat=19+4*k by omega,show((2:Int).toNat)=2 from rfl,← C]at HA;rw[show(19+4*(k:Int)+2).toNat=21+4*k by omega,show((2:Int).toNat)=2 from rfl,← g]at HB;have T:=Hq C;have U:=Hq g;clear C g
     by_cases d:400<long∨512<at_+long
     ·have HN:=Hq (show Pg.right p.data.toList=none from Pg.Hl (by
       have y:Pg.Ds p.data.toList (k+1)=none:=by
        simp only[Pg.Ds,Q.out];rw[if_pos (by rw[← T.out,← U.out];exact d)]
       have h2:=Pg.Pr _ y (n-(k+1));rw[show k+1+(n-(k+1))=n by omega]at h2;rw[a6.out,h2];rfl))
      have N:512<(at_:Int)+(long:Int)∨((at_:Int)+(long:Int)≤512∧400<long):=(by omega);clear d;rcases N with y|⟨y,h2⟩
      all_goals
       obtain⟨c0,c1,c2,c3,f0,f1,f2,f3⟩:=Ey z.out
       go_wp2_with(first|(go_at_call 203;(with_reducible refine(HA.out _).mono ?_);rintro e w5 ⟨rfl,rfl⟩)|(go_at_call 203;(with_reducible refine(HB.out _).mono ?_);rintro e wr ⟨rfl,rfl⟩))
       refine bodyPost_ret (v:=.tuple #[zeroV,false]) (by simp[results,Tryz.results135,go_sem,c0,c1,c2,c3]) rfl ?_;unfold Oy;rw[HN.out];refine⟨⟨Pg.zero,none,0,rfl⟩,?_⟩
       repeat (first|exact S.out|refine Below.setCell ?_ (by simp) _)
     ·obtain⟨bb,b2⟩:long≤400∧at_+long≤512:=by omega
      clear d
      go_upto_region 13 with(first|(go_at_call 203;(with_reducible refine(HA.out _).mono ?_);rintro e w5 ⟨rfl,rfl⟩)|(go_at_call 203;(with_reducible refine(HB.out _).mono ?_);rintro e wr ⟨rfl,rfl⟩))
      obtain⟨i0,ak,an,ao,aq⟩:=info_parts Kl;have D:=R.out;have ar:=z.out;have l:wr.ownsRow (w.heap.size+2) 9 1 (.slice A k c) k (rs.map Value.string):=HO.out;have au:Bw w wr:=S.out;obtain⟨x0,x1,x2,x3,g0,g1,g2,g3⟩:=Ey D;have bc:(0:Int)≤(at_:Int):=(by omega);have bd:(at_:Int)≤(at_:Int)+(long:Int):=(by omega);have bf:(at_:Int)+(long:Int)≤512:=(by omega);have av:IntKind.i64.wrap ((at_:Int)+(long:Int))=(at_:Int)+(long:Int):=IntWalk.i64_in _ (by omega);have bg:((at_:Int)+(long:Int)).toNat=at_+long:=(by omega);have bh:0≤(at_:Int)+(long:Int):=(by omega);have bj:at_≤at_+long:=(by omega);have bk:at_+long≤p.size:=(by omega);have HF:=Hq (show ∀ w7:World,((wr.alloc (.cells #[.string (p.extract at_ (at_+long))] 9)).drew).grownBy w7 (Value.slice A k c).ownBlock→∀ (b:Nat) (o:Obj),b<(w.heap.size+2)→wr.heap[b]? =some o→w7.heap[b]? =some o by
       intro w7 hg b o hb ho;rw[hg.block b (by simp;omega) (fun e9=>absurd (l.lt b e9.symm).1 (by omega))];exact(Below.heap_alloc wr _ b (by omega)).trans ho)
      obtain⟨-,-,-,z3,-⟩:=Ey ((Below.heap_alloc wr (.cells #[.string (p.extract at_ (at_+long))] 9) X (by omega)).trans D)
      go_region_law? (refine step_append_lies _ (by rfl) _ _ _ (by rfl) (w.heap.size+2) 9 i0 (.string ⟨#[]⟩) 1 16 Q3 ak an ao aq rfl (by omega) (.slice A k c) k (rs.map Value.string) (by rfl) (Le l _) ⟨wr.heap.size,0,none⟩ 1 1 [.string (p.extract at_ (at_+long))] (by rfl) (by rfl) (World.news_of_block (cs:=#[.string (p.extract at_ (at_+long))]) (t:=9) (fr:=(0,0)) (heap_alloc_new wr _)) (by simp[Value.oneCell']) (by omega) (by simp[maxLen];omega) (by omega) (by simp;omega) (wr.heap.size+1) (by simp) ?_;intro gg cap w7 V f b3 b4;obtain⟨y0,y1,y2,y3,k0,k1,k2,k3⟩:=Ey (HF.out w7 f X _ (show X<w.heap.size+2 by omega) D))
      all_goals
       have aw:=HF.out w7 f X _ (show X<w.heap.size+2 by omega) D;have ax:=HF.out w7 f w.heap.size _ (by omega) ar;have ay:Bw w w7:=((au.alloc (by omega) _).drew).grown f (by simp;omega) (fun k9 e9=>by have:=(l.lt k9 e9).1;omega);have bl:wr.heap.size+1≤w7.heap.size:=(by have:=f.size;simp at this;omega);go_wp2_with fail;go_roundw
       case rel=>
        refine⟨k+1,rs++[p.extract at_ (at_+long)],some ⟨gg,0,none⟩,cap,by omega,by go_num,?_,?_,?_,?_,?_,?_⟩
        ·simp only[Pg.Ds,Q.out]
         rw[if_neg (by rw[← T.out,← U.out];omega),← T.out,← U.out];rw[extract_eq]
        ·have:=eD 3 aw (.slice (some ⟨gg,0,none⟩) (k+1) cap)
         simpa using this
        ·rw[Below.heap_setCell _ _ _ _ (by simp;omega)];exact ax
        ·have:=Pv V ⟨X,3,none⟩ (.slice (some ⟨gg,0,none⟩) (k+1) cap) (show X<w.heap.size+2 by omega)
         simpa using this
        ·exact ay.setCell (by simp;omega) _
        ·simp;omega
       case measure=>simp[intOf];omega
    ·obtain rfl:k=n:=by omega
     have hlen:=aj.out;subst hlen;obtain⟨x0,x1,x2,x3,-⟩:=Ey R.out;obtain⟨c0,c1,c2,c3,f0,f1,f2,f3⟩:=Ey z.out;have az:X≠w.heap.size:=(by omega);have Y:=Hq (show Pg.rd p.data.toList=some ⟨a,kind,link,rs⟩ by rw[a6.out,Q.out];rfl);have HF:=Hq (Pg.Qj Y.out).1;have Z:=Jx HO.out rfl;have a8:=Hq (fun W hW=>Nt ⟨a,kind,link,rs⟩ A c HF.out.small (by have:=HF.out.A4;omega) W hW)
     go_upto_region 15 with(first|(go_at_call 139;(with_reducible refine(a8.out _ Z.cells).mono ?_);rintro e w5 ⟨rfl,s⟩))
     obtain⟨x0,x1,x2,x3,-⟩:=Ey (Fb R.out s);obtain⟨c0,c1,c2,c3,f0,f1,f2,f3⟩:=Ey (Fb z.out s);have G:=andThen S.out s;have aa:=Z.below s;clear Z s;have ad:=Hq aa;have u:(⟨(Pg.C7 ⟨a,kind,link,rs⟩).toArray⟩:ByteArray).size=(Pg.C7 ⟨a,kind,link,rs⟩).length:=(by simp[ByteArray.size]);have x:(⟨(Pg.C7 ⟨a,kind,link,rs⟩).toArray⟩:ByteArray).data.toList=Pg.C7 ⟨a,kind,link,rs⟩:=rfl;generalize (⟨(Pg.C7 ⟨a,kind,link,rs⟩).toArray⟩:ByteArray)=q at u x ⊢;rcases Pg.aO ⟨a,kind,link,rs⟩with h0|⟨h0,y⟩
     ·have b0:q.size=0:=by rw[u,h0];rfl
      have E:=Hq (show Pg.right p.data.toList=none by
       rw[Pg.Q9 Y.out,if_neg];rw[decide_eq_true_iff,h0];intro h9;have:=congrArg List.length h9;rw[List.length_append,Oct.A5]at this
       simp at this
       omega)
      clear u x h0
      go_region
      all_goals
       go_wp2_with fail;refine bodyPost_ret (v:=.tuple #[F3 ⟨a,kind,link,rs⟩ A c,false]) (by simp[results,Tryz.results135,go_sem,c0,c1,c2,c3]) rfl ?_;unfold Oy;rw[E.out];refine⟨⟨⟨a,kind,link,rs⟩,A,c,rfl⟩,?_⟩
       repeat (first|exact G|refine Below.drew ?_|refine Below.setCell ?_ (by simp) _)
     ·have b0:q.size=512:=by rw[u,h0]
      have ae:((q.extract 4 512).toList==(p.extract 4 512).toList)=decide (Pg.C7 ⟨a,kind,link,rs⟩=Oct.Bi 0 4++p.data.toList.drop 4):=by
       rw[ByteArray.toList_eq,ByteArray.toList_eq,show 512=4+508 from rfl,extract_eq,extract_eq];have e1:(q.data.toList.drop 4).take 508=q.data.toList.drop 4:=List.take_of_length_le (by rw[x,List.length_drop,h0];omega);have e2:(p.data.toList.drop 4).take 508=p.data.toList.drop 4:=List.take_of_length_le (by rw[List.length_drop,HL.out];omega);rw[e1,e2,x,Bool.beq_eq_decide_eq];exact decide_eq_decide.2 (y _).symm
      have E:=Hq (Pg.Q9 Y.out);generalize decide (Pg.C7 ⟨a,kind,link,rs⟩=Oct.Bi 0 4++p.data.toList.drop 4)=b at E ae;have bm:4≤q.size:=(by omega);have av:4≤p.size:=(by omega);clear u x h0 y
      go_region
      all_goals
       go_wp2_with fail;refine bodyPost_ret (v:=.tuple #[F3 ⟨a,kind,link,rs⟩ A c,b]) (by simp[results,Tryz.results135,go_sem,c0,c1,c2,c3]) rfl ?_;unfold Oy;rw[E.out];refine⟨?_,?_⟩
       ·cases b
        ·exact⟨⟨a,kind,link,rs⟩,A,c,rfl⟩
        ·refine⟨A,c,rfl,?_⟩
         refine Bn.mono (B:=w.heap.size+2) ?_ (by omega)
         repeat (first|exact ad.out|exact ad.out.below (Below.refl _ _).drew|refine Bn.set ?_ _ (by simp) _)
       repeat (first|exact G|refine Below.drew ?_|refine Below.setCell ?_ (by simp) _)
 ·have az:((p.size:Int)==512)=false:=by simp;omega
  have E:=Hq (show Pg.right p.data.toList=none from Pg.Hl (by
   rw[Pg.rd,if_pos (.inl (by have h9:p.data.toList.length=p.size:=(by simp);omega))]))
  clear a1;go_enter Tryz.func135,Tryz.ntmps135;go_wp2_with fail;refine bodyPost_ret (v:=.tuple #[zeroV,false]) (by simp[results,Tryz.results135,go_sem]) rfl ?_;unfold Oy;rw[E.out];exact⟨⟨Pg.zero,none,0,rfl⟩,(Below.refl _ _).alloc (Nat.le_refl _) _⟩
abbrev Bk (p:ByteArray):Bool:=(Pg.right p.data.toList).isSome
abbrev Af (p:ByteArray):Pg.Cx:=Pg.Jo p.data.toList
theorem Gi (p:ByteArray)(b:p.size≤140737488355328)(w:World):
 Cq 72 #[p] w fun e w'=>∃ A c,e= .returned (.tuple #[F3 (Af p) A c,.bool (Bk p)])∧Bn w.heap.size w' A c (Af p).recs∧Bw w w':=by
 refine(lM p b w).mono ?_;rintro e w' ⟨h,a⟩;unfold Af Bk Pg.Jo
 revert h
 cases Pg.right p.data.toList with
 |none=>rintro rfl;exact⟨none,0,rfl,fun d=>by simp[Pg.zero]at d,a⟩
 |some x=>rintro⟨A,c,rfl,h⟩;exact⟨A,c,rfl,h,a⟩
theorem Oz (p:ByteArray)(f:p.size≤140737488355328)(w:World):
 Cr 233 #[p] w (.bool (Bk p)):=by
 have d:=Hq (fun W=>Gi p f W);generalize Bk p=b at d ⊢;generalize Af p=x at d;go_enter Tryz.func233,Tryz.ntmps233
 go_wp2_with(go_at_call 72;refine(d.out _).mono ?_;rintro e h ⟨A,c,rfl,g,a⟩)
 go_ret;exact⟨rfl,by repeat (first|exact a|refine Below.alloc ?_ (by first|exact a.size|simp) _|refine Below.setCell ?_ (by first|exact a.size|simp) _)⟩
theorem Xp (p:ByteArray)(f:p.size≤140737488355328)(w:World):
 Cr 54 #[p] w (.int .i64 ((Af p).kind:Nat)):=by
 have d:=Hq (fun W=>Gi p f W);generalize Bk p=b at d;generalize Af p=x at d ⊢;go_enter Tryz.func54,Tryz.ntmps54
 go_wp2_with(go_at_call 72;refine(d.out _).mono ?_;rintro e h ⟨A,c,rfl,g,a⟩)
 go_ret;exact⟨rfl,by repeat (first|exact a|refine Below.alloc ?_ (by first|exact a.size|simp) _|refine Below.setCell ?_ (by first|exact a.size|simp) _)⟩
theorem eE (p:ByteArray)(f:p.size≤140737488355328)(w:World):
 Cr 183 #[p] w (.int .i64 ((Af p).lsn:Nat)):=by
 have d:=Hq (fun W=>Gi p f W);generalize Bk p=b at d;generalize Af p=x at d ⊢;go_enter Tryz.func183,Tryz.ntmps183
 go_wp2_with(go_at_call 72;refine(d.out _).mono ?_;rintro e h ⟨A,c,rfl,g,a⟩)
 go_ret;exact⟨rfl,by repeat (first|exact a|refine Below.alloc ?_ (by first|exact a.size|simp) _|refine Below.setCell ?_ (by first|exact a.size|simp) _)⟩
theorem gG (p:ByteArray)(f:p.size≤140737488355328)(w:World):
 Cr 85 #[p] w (.int .i64 ((Af p).recs.length:Nat)):=by
 have d:=Hq (fun W=>Gi p f W);generalize Bk p=b at d;generalize Af p=x at d ⊢;go_enter Tryz.func85,Tryz.ntmps85
 go_wp2_with(go_at_call 72;refine(d.out _).mono ?_;rintro e h ⟨A,c,rfl,g,a⟩)
 go_ret;exact⟨rfl,by repeat (first|exact a|refine Below.alloc ?_ (by first|exact a.size|simp) _|refine Below.setCell ?_ (by first|exact a.size|simp) _)⟩
theorem Gj (p:ByteArray)(b:p.size≤140737488355328)(w:World):
 Cq 135 #[p] w fun e w'=>∃ x A c,e= .returned (.tuple #[F3 x A c,.bool (Bk p)])∧(Bk p=true→x=Af p∧Bn w.heap.size w' A c (Af p).recs)∧Bw w w':=by
 refine(aS p b w).mono ?_;rintro e w' ⟨h,a⟩;unfold Af Bk Pg.Jo
 revert h
 cases Pg.right p.data.toList with
 |none=>rintro⟨x,A,c,rfl⟩;exact⟨x,A,c,rfl,(fun h=>by cases h),a⟩
 |some x=>rintro⟨A,c,rfl,h⟩;exact⟨x,A,c,rfl,fun _=>⟨rfl,h⟩,a⟩
theorem Vr {p:ByteArray}(h:Bk p=false):Af p=Pg.zero:=by
 unfold Bk at h;unfold Af Pg.Jo
 revert h
 cases Pg.right p.data.toList with
 |none=>intro _;rfl
 |some x=>intro h;cases h
theorem Lf (p:ByteArray)(f:p.size≤140737488355328)(w:World):
 Cr 239 #[p] w (.bool (Bk p)):=by
 have d:=Hq (fun W=>Gj p f W);generalize Bk p=b at d ⊢;generalize Af p=y at d;go_enter Tryz.func239,Tryz.ntmps239
 go_wp2_with(go_at_call 135;refine(d.out _).mono ?_;rintro e h ⟨x,A,c,rfl,g,a⟩)
 go_ret;exact⟨rfl,by repeat (first|exact a|refine Below.alloc ?_ (by first|exact a.size|simp) _|refine Below.setCell ?_ (by first|exact a.size|simp) _)⟩
theorem L7 (p:ByteArray)(j:p.size≤140737488355328)(w:World):
 Cq 164 #[p] w fun e w'=>∃ A c,e= .returned (F3 (Af p) A c)∧Bn w.heap.size w' A c (Af p).recs∧Bw w w':=by
 have g:=Hq (fun W=>Gj p j W)
 cases i:Bk p with
 |false=>
  rw[Vr i];rw[i]at g;generalize Af p=y at g;go_enter Tryz.func164,Tryz.ntmps164
  go_wp2_with(go_at_call 135;refine(g.out _).mono ?_;rintro e h ⟨x,A,c,rfl,-,a⟩;have b:w.heap.size<h.heap.size:=(by have:=a.size;simp at this;omega);obtain⟨c0,c1,c2,c3,f0,f1,f2,f3⟩:=Ey (De a))
  have d:=Bd a;refine bodyPost_ret (v:=zeroV) (by simp[results,Tryz.results164,go_sem,c0,c1,c2,c3,b]) rfl ?_;refine⟨none,0,rfl,fun k=>by simp[Pg.zero]at k,?_⟩
  repeat (first|exact d|refine Below.alloc ?_ (by simp;exact Nat.le_of_lt b) _|refine Below.setCell ?_ (by simp) _)
 |true=>
  rw[i]at g;generalize Af p=y at g ⊢;go_enter Tryz.func164,Tryz.ntmps164
  go_wp2_with(go_at_call 135;refine(g.out _).mono ?_;rintro e h ⟨x,A,c,rfl,f,a⟩;obtain⟨rfl,f⟩:=f rfl;have l:h.heap.size≠w.heap.size:=(by have:=a.size;simp at this;omega);have b:w.heap.size<h.heap.size:=(by have:=a.size;simp at this;omega);obtain⟨c0,c1,c2,c3,f0,f1,f2,f3⟩:=Ey (De a))
  have d:=Bd a;refine bodyPost_ret (v:=F3 x A c) (by simp[results,Tryz.results164,go_sem,c0,c1,c2,c3,b]) rfl ?_;refine⟨A,c,rfl,?_,?_⟩
  ·refine Bn.mono (B:=w.heap.size+1) ?_ (by omega)
   refine Bn.below ?_ ((Below.refl _ _).alloc (Nat.le_refl _) _)
   repeat (first|exact(show Bn (w.heap.size+1) h A c x.recs by simpa using f)|refine Bn.set ?_ _ (by simp) _)
  ·repeat (first|exact d|refine Below.alloc ?_ (by simp;exact Nat.le_of_lt b) _|refine Below.setCell ?_ (by simp) _)
theorem aT (a b l v:Value)(W:World):(Instr.field 149 (.agg #[a,b,l,v]) 0).run Tryz.prog W= .ok a W:=by kernel_rfl
theorem aU (a b l v:Value)(W:World):(Instr.field 149 (.agg #[a,b,l,v]) 1).run Tryz.prog W= .ok b W:=by kernel_rfl
theorem aV (a b l v:Value)(W:World):(Instr.field 149 (.agg #[a,b,l,v]) 3).run Tryz.prog W= .ok v W:=by kernel_rfl
theorem gH (p:ByteArray)(f:p.size≤140737488355328)(w:World):
 Cr 143 #[p] w (.int .i64 ((Af p).kind:Nat)):=by
 have b:∀ (A:Option Addr) (c:Nat) (W:World),(Instr.field 149 (F3 (Af p) A c) 1).run Tryz.prog W= .ok _ W:=fun _ _ W=>aU _ _ _ _ W;have d:=Hq (fun W=>L7 p f W);generalize Af p=x at d b ⊢;go_enter Tryz.func143,Tryz.ntmps143
 go_wp2_with(go_at_call 164;refine(d.out _).mono ?_;rintro e h ⟨A,c,rfl,g,a⟩)
 go_ret;exact⟨rfl,by repeat (first|exact a|refine Below.alloc ?_ (by first|exact a.size|simp) _|refine Below.setCell ?_ (by first|exact a.size|simp) _)⟩
theorem Xq (p:ByteArray)(f:p.size≤140737488355328)(w:World):
 Cr 192 #[p] w (.int .i64 ((Af p).lsn:Nat)):=by
 have b:∀ (A:Option Addr) (c:Nat) (W:World),(Instr.field 149 (F3 (Af p) A c) 0).run Tryz.prog W= .ok _ W:=fun _ _ W=>aT _ _ _ _ W;have d:=Hq (fun W=>L7 p f W);generalize Af p=x at d b ⊢;go_enter Tryz.func192,Tryz.ntmps192
 go_wp2_with(go_at_call 164;refine(d.out _).mono ?_;rintro e h ⟨A,c,rfl,g,a⟩)
 go_ret;exact⟨rfl,by repeat (first|exact a|refine Below.alloc ?_ (by first|exact a.size|simp) _|refine Below.setCell ?_ (by first|exact a.size|simp) _)⟩
theorem aW (p:ByteArray)(f:p.size≤140737488355328)(w:World):
 Cr 100 #[p] w (.int .i64 ((Af p).recs.length:Nat)):=by
 have b:∀ (A:Option Addr) (c:Nat) (W:World),(Instr.field 149 (F3 (Af p) A c) 3).run Tryz.prog W= .ok _ W:=fun _ _ W=>aV _ _ _ _ W;have d:=Hq (fun W=>L7 p f W);generalize Af p=x at d b ⊢;go_enter Tryz.func100,Tryz.ntmps100
 go_wp2_with(go_at_call 164;refine(d.out _).mono ?_;rintro e h ⟨A,c,rfl,g,a⟩)
 go_ret;exact⟨rfl,by repeat (first|exact a|refine Below.alloc ?_ (by first|exact a.size|simp) _|refine Below.setCell ?_ (by first|exact a.size|simp) _)⟩
theorem Bb {w w':World}{o:Obj}(a:Bw w w'):Bw w (w'.alloc o):=a.alloc a.size o
theorem aX (x:Pg.Cx)(A:Option Addr)(c:Nat)(i:Int)(w:World)(h:Cells w A c x.recs):
 Cr 161 #[F3 x A c,i] w (.string (Pg.Bc x.recs i)):=by
 have f:=Hq (h.below ((Below.refl w.heap.size w).alloc (Nat.le_refl _) (.cells #[x.lsn,x.kind,x.link,.slice A x.recs.length c] 118 (0,0))));clear h
 by_cases d:i<0
 ·rw[Pg.M0 d]
  go_enter Tryz.func161,Tryz.ntmps161;go_wp2_with fail;go_ret;exact⟨rfl,(Below.refl _ _).alloc (Nat.le_refl _) _⟩
 ·by_cases e:(x.recs.length:Int)≤i
  ·rw[Pg.Lc e]
   go_enter Tryz.func161,Tryz.ntmps161;go_wp2_with fail;go_ret;exact⟨rfl,(Below.refl _ _).alloc (Nat.le_refl _) _⟩
  ·obtain⟨k,rfl⟩:=Int.eq_ofNat_of_zero_le (show 0≤i by omega)
   have hk:k<x.recs.length:=(by omega);rw[Pg.Tw hk];obtain⟨b,off,rfl,j,g,a⟩:=f.out.at_ hk;have l:(k:Int)<(x.recs.length:Int):=(by omega);have m:(0:Int)≤(k:Int):=(by omega);clear d e;generalize x.recs[k]=r at a ⊢;go_enter Tryz.func161,Tryz.ntmps161;go_wp2_with fail;go_ret;exact⟨rfl,(Below.refl _ _).alloc (Nat.le_refl _) _⟩
theorem Lh (p:ByteArray)(i:Int)(j:p.size≤140737488355328)(w:World):
 Cr 86 #[p,i] w (.tuple #[.string (Pg.Bc (Af p).recs i),.bool (!decide ((Pg.Bc (Af p).recs i).size=0))]):=by
 have a:=Hq (fun W=>Gi p j W);generalize Bk p=b at a;generalize Af p=x at a ⊢;have h:=Hq (fun A c W k=>aX x A c i W k);generalize Pg.Bc x.recs i=r at h ⊢;rw[← Gh];go_enter Tryz.func86,Tryz.ntmps86
 go_wp2_with(first|(go_at_call 72;refine(a.out _).mono ?_;rintro e l ⟨A,c,rfl,d,f⟩)|(go_at_call 161;refine(h.out _ _ _ (d.cells.below ((Below.refl _ _).alloc (Nat.le_refl _) _))).mono ?_;rintro e m ⟨rfl,g⟩))
 refine bodyPost_ret (v:=.tuple #[r,.bool (!r.toList.isEmpty)]) (by simp[results,Tryz.results86,go_sem]) rfl ?_;exact⟨rfl,andThen (Bb f) g⟩
theorem Jy {r:ByteArray}(h:r.size=0):r=⟨#[]⟩:=by
 apply ByteArray.ext
 exact Array.eq_empty_of_size_eq_zero h
theorem Gq (p:ByteArray)(i:Int)(t:p.size≤140737488355328)(w:World):
 Cr 98 #[p,i] w (.tuple #[.string (Pg.Bc (Af p).recs i),.bool (!decide ((Pg.Bc (Af p).recs i).size=0))]):=by
 have h:=Hq (fun W=>L7 p t W);generalize Af p=x at h ⊢
 by_cases q:i<0
 ·rw[Pg.M0 q]
  go_enter Tryz.func98,Tryz.ntmps98
  go_wp2_with(go_at_call 164;refine(h.out _).mono ?_;rintro e l ⟨A,c,rfl,f,a⟩)
  refine bodyPost_ret (v:=.tuple #["",false]) (by simp[results,Tryz.results98,go_sem]) rfl ?_;exact⟨rfl,Bb a⟩
 ·by_cases s:(x.recs.length:Int)≤i
  ·rw[Pg.Lc s]
   go_enter Tryz.func98,Tryz.ntmps98
   go_wp2_with(go_at_call 164;refine(h.out _).mono ?_;rintro e l ⟨A,c,rfl,f,a⟩)
   refine bodyPost_ret (v:=.tuple #["",false]) (by simp[results,Tryz.results98,go_sem]) rfl ?_;exact⟨rfl,Bb a⟩
  ·obtain⟨k,rfl⟩:=Int.eq_ofNat_of_zero_le (show 0≤i by omega)
   have hk:k<x.recs.length:=(by omega);rw[Pg.Tw hk];have y:(k:Int)<(x.recs.length:Int):=(by omega);have z:(0:Int)≤(k:Int):=(by omega);clear q s;obtain⟨r,m⟩:=ex (x.recs[k]);rw[← m];have n:=Hq m;clear m;have g:r.toList.isEmpty=decide (r.size=0):=Gh r
   by_cases j:r.size=0
   ·rw[decide_eq_true j]at g ⊢
    rw[Jy j]at g n ⊢;clear j;go_enter Tryz.func98,Tryz.ntmps98
    go_wp2_with(go_at_call 164;refine(h.out _).mono ?_;rintro e l ⟨A,c,rfl,f,a⟩;obtain⟨b,off,rfl,u,o,d⟩:=f.cells.at_ hk;rw[← n.out]at d)
    refine bodyPost_ret (v:=.tuple #["",false]) (by simp[results,Tryz.results98,go_sem]) rfl ?_;exact⟨rfl,Bb a⟩
   ·rw[decide_eq_false j]at g ⊢
    clear j;go_enter Tryz.func98,Tryz.ntmps98
    go_wp2_with(go_at_call 164;refine(h.out _).mono ?_;rintro e l ⟨A,c,rfl,f,a⟩;obtain⟨b,off,rfl,u,o,d⟩:=f.cells.at_ hk;rw[← n.out]at d)
    refine bodyPost_ret (v:=.tuple #[r,true]) (by simp[results,Tryz.results98,go_sem]) rfl ?_;exact⟨rfl,Bb a⟩
theorem eF (r:ByteArray)(w:World):
 Cq 160 #[r] w fun e w'=>e= .returned (.bool (decide (1≤r.size∧r.size≤400)))∧w=w':=by
 by_cases a:1≤r.size
 ·by_cases b:r.size≤400
  ·rw[decide_eq_true ⟨a,b⟩]
   have c:(1:Int)≤(r.size:Int):=(by omega);have d:(r.size:Int)≤400:=(by omega);go_enter Tryz.func160,Tryz.ntmps160;go_wp2_with fail;go_ret;exact⟨by simp,rfl⟩
  ·rw[decide_eq_false (fun h=>b h.2)]
   have c:(1:Int)≤(r.size:Int):=(by omega);have d:(400:Int)<(r.size:Int):=(by omega);go_enter Tryz.func160,Tryz.ntmps160;go_wp2_with fail;go_ret;exact⟨by simp[Int.not_le.2 d],rfl⟩
 ·rw[decide_eq_false (fun h=>a h.1)]
  have c:(r.size:Int)<1:=by omega
  go_enter Tryz.func160,Tryz.ntmps160;go_wp2_with fail;go_ret;exact⟨by simp,rfl⟩
theorem Xr (r:ByteArray)(w:World):
 Cq 136 #[r] w fun e w'=>e= .returned (.bool (decide (1≤r.size∧r.size≤400)))∧w=w':=by
 by_cases a:1≤r.size
 ·by_cases b:r.size≤400
  ·rw[decide_eq_true ⟨a,b⟩]
   have c:(1:Int)≤(r.size:Int):=(by omega);have d:(r.size:Int)≤400:=(by omega);go_enter Tryz.func136,Tryz.ntmps136;go_wp2_with fail;go_ret;exact⟨by simp,rfl⟩
  ·rw[decide_eq_false (fun h=>b h.2)]
   have c:(1:Int)≤(r.size:Int):=(by omega);have d:(400:Int)<(r.size:Int):=(by omega);go_enter Tryz.func136,Tryz.ntmps136;go_wp2_with fail;go_ret;exact⟨by simp[Int.not_le.2 d],rfl⟩
 ·rw[decide_eq_false (fun h=>a h.1)]
  have c:(r.size:Int)<1:=by omega
  go_enter Tryz.func136,Tryz.ntmps136;go_wp2_with fail;go_ret;exact⟨by simp,rfl⟩
def E6 (n:Int):ByteArray:=if n<0∨4<n then⟨#[]⟩else⟨(Pg.C7 ⟨0,n.toNat,0,[]⟩).toArray⟩
theorem Vs (n:Int)(w:World):
 Cr 129 #[n] w (.string (E6 n)):=by
 by_cases b:n<0
 ·rw[show E6 n=⟨#[]⟩from if_pos (.inl b)]
  go_enter Tryz.func129,Tryz.ntmps129;go_wp2_with fail;go_ret;exact⟨rfl,Below.refl _ _⟩
 ·by_cases c:4<n
  ·rw[show E6 n=⟨#[]⟩from if_pos (.inr c)]
   go_enter Tryz.func129,Tryz.ntmps129;go_wp2_with fail;go_ret;exact⟨rfl,Below.refl _ _⟩
  ·obtain⟨k,rfl⟩:=Int.eq_ofNat_of_zero_le (show 0≤n by omega)
   have d:=Hq (fun W=>Nr ⟨0,k,0,[]⟩ none 0 ⟨(by show 0<281474976710656;omega),(by show k≤4;omega),(by show 0<16777216;omega)⟩ (by show 19≤1099511627776;omega) W (fun f=>by simp at f));rw[show E6 (k:Int)=⟨(Pg.C7 ⟨0,k,0,[]⟩).toArray⟩ by unfold E6;rw[if_neg (by omega)];rfl];generalize (⟨(Pg.C7 ⟨0,k,0,[]⟩).toArray⟩:ByteArray)=q at d ⊢;have g:(0:Int)≤(k:Int):=(by omega);have h:(k:Int)≤4:=(by omega);clear b c;go_enter Tryz.func129,Tryz.ntmps129
   go_wp2_with(go_at_call 73;refine(d.out _).mono ?_;rintro e i ⟨rfl,a⟩)
   go_ret;exact⟨rfl,a⟩
theorem Nu (n:Int)(w:World):
 Cr 60 #[n] w (.string (E6 n)):=by
 by_cases b:n<0
 ·rw[show E6 n=⟨#[]⟩from if_pos (.inl b)]
  go_enter Tryz.func60,Tryz.ntmps60;go_wp2_with fail;go_ret;exact⟨rfl,Below.refl _ _⟩
 ·by_cases c:4<n
  ·rw[show E6 n=⟨#[]⟩from if_pos (.inr c)]
   go_enter Tryz.func60,Tryz.ntmps60;go_wp2_with fail;go_ret;exact⟨rfl,Below.refl _ _⟩
  ·obtain⟨k,rfl⟩:=Int.eq_ofNat_of_zero_le (show 0≤n by omega)
   have d:=Hq (fun W=>Nt ⟨0,k,0,[]⟩ none 0 ⟨(by show 0<281474976710656;omega),(by show k≤4;omega),(by show 0<16777216;omega)⟩ (by show 19≤1099511627776;omega) W (fun f=>by simp at f));rw[show E6 (k:Int)=⟨(Pg.C7 ⟨0,k,0,[]⟩).toArray⟩ by unfold E6;rw[if_neg (by omega)];rfl];generalize (⟨(Pg.C7 ⟨0,k,0,[]⟩).toArray⟩:ByteArray)=q at d ⊢;have g:(0:Int)≤(k:Int):=(by omega);have h:(k:Int)≤4:=(by omega);clear b c;go_enter Tryz.func60,Tryz.ntmps60
   go_wp2_with(go_at_call 139;refine(d.out _).mono ?_;rintro e i ⟨rfl,a⟩)
   go_ret;exact⟨rfl,a⟩
def Bg (p:ByteArray)(n:Int):ByteArray:=if Bk p=false∨n<0∨281474976710656≤n then⟨#[]⟩else⟨(Pg.C7 ⟨n.toNat,(Af p).kind,(Af p).link,(Af p).recs⟩).toArray⟩
def F9 (p:ByteArray)(n:Int):ByteArray:=if Bk p=false∨n<0∨16777216≤n then⟨#[]⟩else⟨(Pg.C7 ⟨(Af p).lsn,(Af p).kind,n.toNat,(Af p).recs⟩).toArray⟩
theorem Ge (p:ByteArray)(n:Int)(o:p.size≤140737488355328)(w:World):
 Cr 20 #[p,n] w (.string (Bg p n)):=by
 have d:=Hq (fun W=>Gi p o W);have a:=Pg.Ps p.data.toList
 cases g:Bk p with
 |false=>
  rw[show Bg p n=⟨#[]⟩from if_pos (.inl g)];rw[g]at d;generalize Af p=x at d;clear a;go_enter Tryz.func20,Tryz.ntmps20
  go_wp2_with(go_at_call 72;refine(d.out _).mono ?_;rintro e i ⟨A,c,rfl,f,b⟩)
  go_ret;exact⟨rfl,Bb b⟩
 |true=>
  rw[g]at d
  by_cases l:n<0
  ·rw[show Bg p n=⟨#[]⟩from if_pos (.inr (.inl l))]
   generalize Af p=x at d;clear a;go_enter Tryz.func20,Tryz.ntmps20
   go_wp2_with(go_at_call 72;refine(d.out _).mono ?_;rintro e i ⟨A,c,rfl,f,b⟩)
   go_ret;exact⟨rfl,Bb b⟩
  ·by_cases m:281474976710656≤n
   ·rw[show Bg p n=⟨#[]⟩from if_pos (.inr (.inr m))]
    generalize Af p=x at d;clear a;go_enter Tryz.func20,Tryz.ntmps20
    go_wp2_with(go_at_call 72;refine(d.out _).mono ?_;rintro e i ⟨A,c,rfl,f,b⟩)
    go_ret;exact⟨rfl,Bb b⟩
   ·have h:((n.toNat:Nat):Int)=n:=by omega
    have hk:n.toNat<281474976710656:=(by omega);rw[show Bg p n=⟨(Pg.C7 ⟨n.toNat,(Af p).kind,(Af p).link,(Af p).recs⟩).toArray⟩ by unfold Bg;rw[if_neg (by rw[g];simp;omega)]];have s:(0:Int)≤n:=(by omega);have t:n<281474976710656:=(by omega);clear l m;change Pg.Qh (Af p)at a;generalize Af p=x at d a ⊢;have j:=Hq (fun A c W r=>Nr ⟨n.toNat,x.kind,x.link,x.recs⟩ A c ⟨hk,a.small.2.1,a.small.2.2⟩ (by have:=a.A4;show Pg.A4 x.recs≤_;omega) W r);clear a hk g;generalize (⟨(Pg.C7 ⟨n.toNat,x.kind,x.link,x.recs⟩).toArray⟩:ByteArray)=q at j ⊢;simp only[h]at j;clear h;go_enter Tryz.func20,Tryz.ntmps20
    go_wp2_with(first|(go_at_call 72;refine(d.out _).mono ?_;rintro e i ⟨A,c,rfl,f,b⟩)|(go_at_call 73;refine(j.out A c _ (f.cells.below ((Below.refl _ _).alloc (Nat.le_refl _) _))).mono ?_;rintro e u ⟨rfl,k⟩))
    go_ret;exact⟨rfl,andThen (Bb b) k⟩
theorem Jf (p:ByteArray)(n:Int)(r:p.size≤140737488355328)(w:World):
 Cr 101 #[p,n] w (.string (Bg p n)):=by
 have f:=Hq (fun W=>Gj p r W);have a:=Pg.Ps p.data.toList
 cases g:Bk p with
 |false=>
  rw[show Bg p n=⟨#[]⟩from if_pos (.inl g)];rw[g]at f;generalize Af p=x at f;clear a;go_enter Tryz.func101,Tryz.ntmps101
  go_wp2_with(go_at_call 135;refine(f.out _).mono ?_;rintro e i ⟨y,A,c,rfl,d,b⟩)
  go_ret;exact⟨rfl,Bb b⟩
 |true=>
  rw[g]at f
  by_cases m:n<0
  ·rw[show Bg p n=⟨#[]⟩from if_pos (.inr (.inl m))]
   generalize Af p=x at f;clear a;go_enter Tryz.func101,Tryz.ntmps101
   go_wp2_with(go_at_call 135;refine(f.out _).mono ?_;rintro e i ⟨y,A,c,rfl,d,b⟩)
   go_ret;exact⟨rfl,Bb b⟩
  ·by_cases o:281474976710656≤n
   ·rw[show Bg p n=⟨#[]⟩from if_pos (.inr (.inr o))]
    generalize Af p=x at f;clear a;go_enter Tryz.func101,Tryz.ntmps101
    go_wp2_with(go_at_call 135;refine(f.out _).mono ?_;rintro e i ⟨y,A,c,rfl,d,b⟩)
    go_ret;exact⟨rfl,Bb b⟩
   ·have h:((n.toNat:Nat):Int)=n:=by omega
    have hk:n.toNat<281474976710656:=(by omega);rw[show Bg p n=⟨(Pg.C7 ⟨n.toNat,(Af p).kind,(Af p).link,(Af p).recs⟩).toArray⟩ by unfold Bg;rw[if_neg (by rw[g];simp;omega)]];have u:(0:Int)≤n:=(by omega);have v:n<281474976710656:=(by omega);clear m o;change Pg.Qh (Af p)at a;generalize Af p=x at f a ⊢;have j:=Hq (fun A c W s=>Nt ⟨n.toNat,x.kind,x.link,x.recs⟩ A c ⟨hk,a.small.2.1,a.small.2.2⟩ (by have:=a.A4;show Pg.A4 x.recs≤_;omega) W s);clear a hk g;generalize (⟨(Pg.C7 ⟨n.toNat,x.kind,x.link,x.recs⟩).toArray⟩:ByteArray)=q at j ⊢;simp only[h]at j;clear h;go_enter Tryz.func101,Tryz.ntmps101
    go_wp2_with(first|(go_at_call 135;refine(f.out _).mono ?_;rintro e i ⟨y,A,c,rfl,d,b⟩;obtain⟨t,k⟩:=d rfl;clear d;subst t)|(go_at_call 139;refine(j.out _ _ _ ((k.cells).below ((Below.refl _ _).alloc (Nat.le_refl _) _))).mono ?_;rintro e z ⟨rfl,l⟩))
    go_ret;exact⟨rfl,andThen (Bb b) l⟩
def K4 (t:ByteArray):ByteArray:=Oct.Ba (Oct.Gm t.data.toList:Nat) 4++t
def Dn (p:ByteArray):ByteArray:=if Bk p then K4 (p.extract 4 512)else⟨#[]⟩
theorem Gk {p:ByteArray}(h:Bk p=true):p.size=512:=by
 unfold Bk at h
 cases a:Pg.right p.data.toList with
 |none=>rw[a]at h;cases h
 |some x=>
  have:=(Pg.G6 a).2;have b:p.data.toList.length=p.size:=(by simp);omega
theorem Tz (t:ByteArray)(g:t.size≤1048576)(w:World):
 Cr 260 #[t] w (.string (K4 t)):=by
 have a:=Hq (fun W=>dY t (by omega) W);unfold K4;generalize Oct.Gm t.data.toList=n at a ⊢;have d:(Oct.Ba (n:Int) 4).size=4:=Oct.Bh _ 4 (by omega);have b:=Hq (fun W=>Hh (n:Int) 4 (by omega) (by omega) W);generalize Oct.Ba (n:Int) 4=q at b d ⊢;have c:∀ W:World,(Op.stringOp .add q t).run Tryz.prog W= .ok (.string (q++t)) W:=fun W=>run_string_add_sum W _ _ (by omega);go_enter Tryz.func260,Tryz.ntmps260
 go_wp2_with(first|(go_at_call 306;refine(a.out _).mono ?_;rintro e h ⟨rfl,rfl⟩)|(go_at_call 151;refine(b.out _).mono ?_;rintro e i ⟨rfl,f⟩))
 go_ret;exact⟨rfl,f⟩
theorem gI (p:ByteArray)(g:p.size≤140737488355328)(w:World):
 Cr 232 #[p] w (.string (Dn p)):=by
 have c:=Hq (fun W=>Oz p g W);unfold Dn
 cases b:Bk p with
 |false=>
  rw[b]at c;clear b;go_enter Tryz.func232,Tryz.ntmps232
  go_wp2_with(go_at_call 233;refine(c.out _).mono ?_;rintro e h ⟨rfl,a⟩)
  go_ret;exact⟨rfl,a⟩
 |true=>
  have f:=Gk b;have i:=Hq (fun W=>Tz (p.extract 4 512) (by simp;omega) W);rw[b]at c;clear b;go_enter Tryz.func232,Tryz.ntmps232
  go_wp2_with(first|(go_at_call 233;refine(c.out _).mono ?_;rintro e h ⟨rfl,a⟩)|(go_at_call 260;refine(i.out _).mono ?_;rintro e j ⟨rfl,d⟩))
  go_ret;exact⟨rfl,andThen a d⟩
def Hn (p:ByteArray):Bool:=Bk p&&decide (K4 (p.extract 4 512)=p)
theorem lN (a b:ByteArray):(a.toList==b.toList)=decide (a=b):=by
 rw[ByteArray.toList_eq,ByteArray.toList_eq,Bool.beq_eq_decide_eq]
 by_cases h:a=b
 ·simp[h]
 ·have c:a.data.toList≠b.data.toList:=fun e=>h (ByteArray.ext (Array.toList_inj.1 e))
  simp[h,c]
theorem aY (p:ByteArray)(j:p.size≤140737488355328)(w:World):
 Cr 210 #[p] w (.bool (Hn p)):=by
 have d:=Hq (fun W=>Oz p j W);unfold Hn
 cases c:Bk p with
 |false=>
  rw[c]at d;clear c;go_enter Tryz.func210,Tryz.ntmps210
  go_wp2_with(go_at_call 233;refine(d.out _).mono ?_;rintro e k ⟨rfl,a⟩)
  go_ret;exact⟨rfl,a⟩
 |true=>
  have g:=Gk c;have h:=Hq (fun W=>Tz (p.extract 4 512) (by simp;omega) W);have i:=lN (K4 (p.extract 4 512)) p;generalize K4 (p.extract 4 512)=q at h i ⊢;generalize decide (q=p)=b at i ⊢;rw[c]at d;clear c;go_enter Tryz.func210,Tryz.ntmps210
  go_wp2_with(first|(go_at_call 233;refine(d.out _).mono ?_;rintro e k ⟨rfl,a⟩)|(go_at_call 260;refine(h.out _).mono ?_;rintro e l ⟨rfl,f⟩))
  go_ret;exact⟨by simp,andThen a f⟩
theorem Rb (n size:Int)(b:0≤size)(c:size≤8)(a u:World)(h:Bw a u):
 Cq 206 #[n,size] u fun e w'=>e= .returned (.string (Oct.Ba n size))∧Bw a w':=
 (Ix n size b c u).mono fun _ _ ⟨d,f⟩=>⟨d,andThen h f⟩
theorem Re (s:ByteArray)(b:s.size≤281474976710656)(a u:World)(h:Bw a u):
 Cq 227 #[s] u fun e w'=>e= .returned (.int .i64 (Oct.Gm s.data.toList))∧Bw a w':=
 (Xd s b u).mono fun _ _ ⟨c,d⟩=>⟨c,d▸h⟩
theorem aZ (p:ByteArray)(l:p.size≤140737488355328)(w:World):
 Cr 238 #[p] w (.string (Dn p)):=by
 have c:=Hq (fun W=>Lf p l W);unfold Dn
 cases b:Bk p with
 |false=>
  rw[b]at c;clear b;go_enter Tryz.func238,Tryz.ntmps238
  go_wp2_with(go_at_call 239;refine(c.out _).mono ?_;rintro e g ⟨rfl,a⟩)
  go_ret;exact⟨rfl,a⟩
 |true=>
  have h:=Gk b;have t:4≤p.size:=by omega
  have i:=Hq (fun d W f=>Re (p.extract 4 512) (by simp;omega) d W f);have m:(p.extract 4 p.size).size=508:=by simp;omega
  have o:(p.extract 4 512).size=508:=by simp;omega
  unfold K4;generalize Oct.Gm (p.extract 4 512).data.toList=n at i ⊢;have r:(Oct.Ba (n:Int) 4).size=4:=Oct.Bh _ 4 (by omega);have j:=Hq (fun d W f=>Rb (n:Int) 4 (by omega) (by omega) d W f);generalize Oct.Ba (n:Int) 4=q at j r ⊢;rw[b]at c;clear b;go_enter Tryz.func238,Tryz.ntmps238
  go_upto_region 3 with(first|(go_at_call 239;refine(c.out _).mono ?_;rintro e g ⟨rfl,a⟩))
  go_region_held3 (fun s=>Bw g s) (first|assumption|exact(Below.refl _ _).drew) (first|(go_at_call 227;refine(i.out _ _ (by assumption)).mono ?_;rintro e u ⟨rfl,k⟩)|(go_at_call 206;refine(j.out _ _ (by assumption)).mono ?_;rintro e v ⟨rfl,k⟩))
  go_wp2_with fail;go_ret;exact⟨rfl,andThen a k⟩
theorem Xs (p:ByteArray)(h:p.size≤140737488355328)(w:World):
 Cr 222 #[p] w (.bool (Hn p)):=by
 have d:=Hq (fun W=>Lf p h W);have f:=Hq (fun W=>aZ p h W);unfold Hn;unfold Dn at f
 cases c:Bk p with
 |false=>
  rw[c]at d;clear c;go_enter Tryz.func222,Tryz.ntmps222
  go_wp2_with(go_at_call 239;refine(d.out _).mono ?_;rintro e j ⟨rfl,a⟩)
  go_ret;exact⟨rfl,a⟩
 |true=>
  rw[c,if_pos rfl]at f;have i:=lN (K4 (p.extract 4 512)) p;generalize K4 (p.extract 4 512)=q at f i ⊢;generalize decide (q=p)=b at i ⊢;rw[c]at d;clear c;go_enter Tryz.func222,Tryz.ntmps222
  go_wp2_with(first|(go_at_call 239;refine(d.out _).mono ?_;rintro e j ⟨rfl,a⟩)|(go_at_call 238;refine(f.out _).mono ?_;rintro e k ⟨rfl,g⟩))
  go_ret;exact⟨by simp,andThen a g⟩
abbrev Jz (B:Nat)(w:World)(v:Value)(rs:List ByteArray):Prop:=w.ownsRow B 9 1 v rs.length (rs.map Value.string)
theorem Jz.nil (B:Nat)(w:World):Jz B w (.slice none 0 0) []:=⟨rfl,.inl ⟨rfl,rfl⟩⟩
theorem Jz.below {B:Nat}{w w':World}{v:Value}{rs:List ByteArray}(h:Jz B w v rs)(a:Bw w w'):Jz B w' v rs:=Jp h a
theorem Jz.form {B:Nat}{w:World}{v:Value}{rs:List ByteArray}(h:Jz B w v rs):∃ A c,v= .slice A rs.length c∧Bn B w A c rs∧Cells w A c rs:=by
 obtain⟨A,c,rfl⟩:∃ A c,v= .slice A rs.length c:=by
  rcases h.2 with⟨a,d⟩|⟨g,cap,cur,a,_⟩
  ·exact⟨none,0,by rw[a,d]⟩
  ·exact⟨_,_,a⟩
 have b:=Jx h rfl;exact⟨A,c,rfl,b,b.cells⟩
theorem Jz.block {B:Nat}{w:World}{v:Value}{rs:List ByteArray}(h:Jz B w v rs):∀ k,v.ownBlock=some k→B≤k:=fun k hk=>(h.lt k hk).1
theorem Km {ops:Array Oper}{rest:List Oper}{o:Oper}{a:Act}{Q:Exit→Act→World→Prop}(w:World)(l:o.guard=none)(s x:Operand)
 (D:o.op= .call {callee:=.builtin .append,args:=#[s,x],argTypes:=#[26,26]})
 (B:Nat) (v:Value) (xs:List ByteArray) (E:a.eval s=v) (d:Jz B w v xs) (A:Option Addr) (c:Nat) (i:List ByteArray) (F:a.eval x= .slice A i.length c) (hy:Cells w A c i)
 (hlen:xs.length+i.length≤1048576) (f:B≤w.heap.size)
 (h:∀ v' w',Jz B w' v' (xs++i)→w.grownBy w' v.ownBlock→Below B w w'→wpList Tryz.prog ops Q rest (a.put o.dst v') w'):wpList Tryz.prog ops Q (o::rest) a w:=by
 obtain⟨i0,p,q,t,y⟩:=info_parts Kl;have H:∀ w':World,w.grownBy w' v.ownBlock→Below B w w':=fun w' I=>(Below.refl _ _).grown I f d.block;rcases A with _|ad
 ·have J:i=[]:=by
   rcases Nat.eq_zero_or_pos i.length with h0|h0
   ·exact List.eq_nil_of_length_eq_zero h0
   ·obtain⟨b,off,e,_⟩:=hy h0
    cases e
  subst J;refine wpList_plain l fun K L=>?_;have m:(Builtin.append_ #[26,26] o.type #[v,.slice none 0 c]).run Tryz.prog w= .ok v w:=by
   rcases d.2 with⟨rfl,P⟩|⟨g,cap,cur,rfl,_,_,z,_⟩
   ·simp[Builtin.append_,run_underlying Q3,sizeOf,typeInfo,p,Builtin.lenOf,Builtin.firstCells]
   ·simp[Builtin.append_,run_underlying Q3,sizeOf,typeInfo,p,Builtin.lenOf,Builtin.firstCells,z,storeCells]
  unfold Oper.wp execOp;have C:a.eval x= .slice none 0 c:=F;simp only[D,resolve,invoke,builtin,Sem.run_bind,Sem.run_pure,Result.andThen_ok,List.map_toArray,List.map_cons,List.map_nil,E,C,m];exact L _ _ (h v w (by simpa using d) (World.grownBy.refl w _) (Below.refl _ _))
 ·refine wpList_append_own w l s x _ D B 9 i0 (.string ⟨#[]⟩) 1 16 Q3 p q t y rfl (by omega) v xs.length (xs.map Value.string) E d ad i.length c (i.map Value.string) F (by simp) ?_ ?_ (by simp only[maxLen];omega) (by omega) f ?_
  ·intro j u n
   rw[List.getElem?_map]at n;obtain⟨r,M,rfl⟩:=Option.map_eq_some_iff.1 n;obtain⟨N,rfl⟩:=List.getElem?_eq_some_iff.1 M;obtain⟨b,off,e,_,_,k⟩:=hy (by omega)
   injection e with e
   subst e;rw[show(⟨b,off,none⟩:Addr).add j=⟨b,off+j,none⟩from Addr.add_mid b off j];exact k j N
  ·intro u n
   obtain⟨r,_,rfl⟩:=List.mem_map.1 n
   rfl
  ·intro v' w' O G _
   exact h v' w' (by unfold Jz;rw[List.length_append,List.map_append];exact O) G (H w' G)
end Go.Proofs.YtmldoihahndcgaaGreatDoor
namespace Pg
def putAt (rs:List ByteArray)(k:Nat)(r:ByteArray):List ByteArray:=(rs++List.replicate (k+1-rs.length) (⟨#[]⟩:ByteArray)).set k r
def Rf (rs:List ByteArray)(k:Nat):List ByteArray:=rs++List.replicate k (⟨#[]⟩:ByteArray)
theorem Py (rs:List ByteArray)(k:Nat):(Rf rs k).length=rs.length+k:=by simp[Rf]
theorem T5 (rs:List ByteArray)(k:Nat):Rf rs (k+1)=Rf rs k++[⟨#[]⟩]:=by
 unfold Rf;rw[List.replicate_succ',List.append_assoc]
end Pg
namespace Go.Proofs.YtmldoihahndcgaaGreatDoor
open Go.RowKit
theorem cells_one (w:World)(r:ByteArray):Cells (w.alloc (.cells #[r] 9)) (some ⟨w.heap.size,0,none⟩) 1 [r]:=fun _=>by
 refine⟨w.heap.size,0,rfl,Nat.le_refl _,by simp,fun j a=>?_⟩;obtain rfl:j=0:=by simpa using a
 rw[cell_of_row _ _ _ _ _ _ (heap_alloc_new w (.cells #[r] 9))];rfl
theorem Xt {B:Nat}{w:World}{v:Value}{rs:List ByteArray}(h:Jz B w v rs)(a:0<rs.length):∃ g c,v= .slice (some ⟨g,0,none⟩) rs.length c∧B≤g∧rs.length≤c∧g<w.heap.size∧(∀ j (hj:j<rs.length),w.cell? ⟨g,j,none⟩=some (.string rs[j]))∧(∀ j,w.frozen? ⟨g,j,none⟩=false):=by
 obtain⟨A,c,rfl,b,-⟩:=h.form;obtain⟨g,rfl,d,e,f,i⟩:=b a;exact⟨g,c,rfl,d,e,f,i,fun j=>h.frozenAt j⟩
theorem Rg {B:Nat}{w:World}{g c:Nat}{rs:List ByteArray}(h:Jz B w (.slice (some ⟨g,0,none⟩) rs.length c) rs)(k:Nat)(r:ByteArray):Jz B (w.setCell ⟨g,k,none⟩ (.string r)) (.slice (some ⟨g,0,none⟩) (rs.set k r).length c) (rs.set k r):=by
 have a:=(h.stored k (.string r)).1;unfold Jz;rw[List.length_set,List.map_set];exact a
def pB (v:Value):Nat:=match v with| .slice _ n _=>n|_=>0
theorem Xu (x:Pg.Cx)(A:Option Addr)(c k:Nat)(r:ByteArray)(hl:x.recs.length≤4096)(hk:k≤4096)(w:World)(h:Cells w A c x.recs):
 Cq 163 #[F3 x A c,.int .i64 (k:Int),r] w fun e w'=>∃ A' c',e= .returned (F3 {x with recs:=Pg.putAt x.recs k r} A' c')∧Bn w.heap.size w' A' c' (Pg.putAt x.recs k r)∧Bw w w':=by
 go_enter Tryz.func163,Tryz.ntmps163
 go_wp2_with(at_builtin;refine Km _ rfl _ _ rfl (w.heap.size+2) (.slice none 0 0) [] rfl (Jz.nil _ _) A c x.recs rfl ((h.below ((Below.refl _ _).alloc (Nat.le_refl _) _)).below ((Below.refl _ _).alloc (Nat.le_refl _) _)) (by simp;omega) (by simp) ?_;intro v1 w1 d C f)
 rw[List.nil_append]at d;have Q:w.heap.size+2≤w1.heap.size:=by have:=f.size;simp at this;omega
 have o:w1.heap[w.heap.size]? =some (.cells #[x.lsn,x.kind,x.link,.slice A x.recs.length c] 118 (0,0)):=by
  rw[f.block _ (by omega),Below.heap_alloc _ _ _ (by simp)];exact heap_alloc_new w _
 have p:w1.heap[w.heap.size+1]? =some (.cells #[(),(),(),'s'] 118 (0,0)):=by
  rw[f.block _ (by omega)];have:=heap_alloc_new (w.alloc (.cells #[x.lsn,x.kind,x.link,.slice A x.recs.length c] 118)) (.cells #[(),(),(),'s'] 118)
  simpa using this
 have q:Bw w w1:=(((Below.refl _ _).alloc (Nat.le_refl _) _).alloc (by simp) _).trans (f.mono (by omega));have U:=Hq o;have V:=Hq p;have D:=Hq q;have HC:=Hq h;clear o p q f C h
 go_loopw [7] (fun v wr=>∃ j,j≤k+1-x.recs.length∧Jz (w.heap.size+2) wr v (Pg.Rf x.recs j)∧Below (w.heap.size+2) w1 wr) (fun v _=>8193-pB v)
 case atStart=>exact⟨0,Nat.zero_le _,by simpa[Pg.Rf]using d,Below.refl _ _⟩
 case round=>
  obtain⟨j,hj,a,s⟩:=hrel;have W:=s.size;have m:=Pg.Py x.recs j;have E:=Hq (Pg.T5 x.recs j);obtain⟨L,F⟩:=ex (Pg.Rf x.recs j);rw[← F]at a m E;have X:=Hq F;have Y:=Hq m;clear F;obtain⟨Av,R,rfl,t,-⟩:=a.form
  by_cases Z:L.length≤k
  ·have G:j+1≤k+1-x.recs.length:=by omega
   clear m t
   go_wp2_with(at_builtin;refine Km _ rfl _ _ rfl (w.heap.size+2) _ L rfl (a.below ((Below.refl _ _).alloc (Nat.le_refl _) _)) _ 1 [⟨#[]⟩] rfl (cells_one wr _) (by simp;omega) (by simp;omega) ?_;intro v2 w2 b H I)
   have J:Below (w.heap.size+2) w1 w2:=s.trans (((Below.refl _ _).alloc (by omega) _).trans I);rw[← E.out]at b;have hf:∃ A' c',v2= .slice A' (L.length+1) c':=by
    obtain⟨A',c',rfl,-⟩:=b.form;exact⟨A',c',by rw[E.out,List.length_append];rfl⟩
   obtain⟨A',c',rfl⟩:=hf;clear H;go_roundw
   case rel=>exact⟨j+1,G,b,J⟩
   case measure=>simp[pB];omega
  ·have u:j=k+1-x.recs.length:=by omega
   have K:k<L.length:=(by omega);obtain⟨g,a1,hv,hg,a6,a7,i,y⟩:=Xt a (by omega)
   injection hv with hA hn M
   subst hA;subst M;have a8:=i k K;have aa:=y k;have n:=Rg a k r;have l:L.set k r=Pg.putAt x.recs k r:=(by rw[X.out,u];rfl);rw[l]at n;have N:=Hq n;have z:(Pg.putAt x.recs k r).length=L.length:=(by rw[← l,List.length_set]);have O:=Hq z;obtain⟨x0,x1,x2,x3,f0,f1,f2,f3⟩:=Ey ((s.block _ (by omega)).trans U.out);obtain⟨y0,y1,y2,y3,k0,k1,k2,k3⟩:=Ey ((s.block _ (by omega)).trans V.out);have P:Bw w wr:=D.out.trans (s.mono (by omega));have ad:(0:Int)≤(k:Int):=(by omega);have ae:(k:Int)<(L.length:Int):=(by omega);clear i y n l z u m t;go_wp2_with fail;have S:g≠w.heap.size+1:=(by omega);have T:g≠w.heap.size:=(by omega);refine bodyPost_ret (v:=.agg #[x.lsn,x.kind,x.link,.slice (some ⟨g,0,none⟩) L.length R]) (by simp[results,Tryz.results163,go_sem,y0,y1,y2,y3]) rfl ?_;refine⟨some ⟨g,0,none⟩,R,by rw[← O.out],?_,?_⟩
   ·have ho:=Jx N.out rfl
    refine Bn.mono (B:=w.heap.size+2) ?_ (by omega)
    repeat (first|(with_reducible exact ho)|(with_reducible refine Bn.set ?_ _ (by simp;done) _))
   ·repeat (first|(with_reducible exact P)|(with_reducible refine Below.setCell ?_ (by first|(simp;done)|(show w.heap.size≤g;omega)) _))
theorem gJ (A:Option Addr)(c n:Nat)(i:Int)(r:ByteArray)(h:512<i)(w:World):
 Cq 137 #[.slice A n c,i,r] w fun e w'=>e= .returned (.tuple #['s',false])∧w=w':=by
 go_enter Tryz.func137,Tryz.ntmps137;go_wp2_with fail;go_ret2;exact⟨rfl,rfl⟩
theorem Rh (rs:List ByteArray)(A:Option Addr)(c k:Nat)(r:ByteArray)(hl:rs.length≤4096)(hk:k≤512)(w:World)(h:Cells w A c rs):
 Cq 137 #[.slice A rs.length c,.int .i64 (k:Int),r] w fun e w'=>∃ A' c',e= .returned (.tuple #[.slice A' (Pg.putAt rs k r).length c',true])∧Bn w.heap.size w' A' c' (Pg.putAt rs k r)∧Bw w w':=by
 have t:(k:Int)≤512:=by omega
 go_enter Tryz.func137,Tryz.ntmps137
 go_wp2_with(at_builtin;refine Km _ rfl _ _ rfl w.heap.size (.slice none 0 0) [] rfl (Jz.nil _ _) A c rs rfl h (by simp;omega) (Nat.le_refl _) ?_;intro v1 w1 d u n)
 rw[List.nil_append]at d;have HC:=Hq h;have J:=Hq n;clear u h t n
 go_loopw [8] (fun v wr=>∃ j,j≤k+1-rs.length∧Jz w.heap.size wr v (Pg.Rf rs j)∧Bw w wr) (fun v _=>8193-pB v)
 case atStart=>exact⟨0,Nat.zero_le _,by simpa[Pg.Rf]using d,J.out⟩
 case round=>
  obtain⟨j,hj,a,x⟩:=hrel;have K:=x.size;have l:=Pg.Py rs j;have y:=Hq (Pg.T5 rs j);obtain⟨L,z⟩:=ex (Pg.Rf rs j);rw[← z]at a l y;have M:=Hq z;have N:=Hq l;clear z;obtain⟨Av,O,rfl,o,-⟩:=a.form
  by_cases P:L.length≤k
  ·have B:j+1≤k+1-rs.length:=by omega
   clear l o
   go_wp2_with(at_builtin;refine Km _ rfl _ _ rfl w.heap.size _ L rfl (a.below ((Below.refl _ _).alloc (Nat.le_refl _) _)) _ 1 [⟨#[]⟩] rfl (cells_one wr _) (by simp;omega) (by simp;omega) ?_;intro v2 w2 b C D)
   have E:Bw w w2:=x.trans (((Below.refl _ _).alloc (by omega) _).trans D);rw[← y.out]at b;have Q:∃ A' c',v2= .slice A' (L.length+1) c':=by
    obtain⟨A',c',rfl,-⟩:=b.form;exact⟨A',c',by rw[y.out,List.length_append];rfl⟩
   obtain⟨A',c',rfl⟩:=Q;clear C;go_roundw
   case rel=>exact⟨j+1,B,b,E⟩
   case measure=>simp[pB];omega
  ·have p:j=k+1-rs.length:=by omega
   have F:k<L.length:=(by omega);obtain⟨g,R,S,T,U,V,f,q⟩:=Xt a (by omega)
   injection S with W hn G
   subst W;subst G;have X:=f k F;have Y:=q k;have m:=Rg a k r;have i:L.set k r=Pg.putAt rs k r:=(by rw[M.out,p];rfl);rw[i]at m;have H:=Hq m;have s:(Pg.putAt rs k r).length=L.length:=(by rw[← i,List.length_set]);have I:=Hq s;have Z:(0:Int)≤(k:Int):=(by omega);have a1:(k:Int)<(L.length:Int):=(by omega);clear f q m i s p l o;go_wp2_with fail;go_ret2;exact⟨some ⟨g,0,none⟩,O,(by rw[I.out];rfl),Jx H.out rfl,x.setCell T _⟩
end Go.Proofs.YtmldoihahndcgaaGreatDoor
namespace Pg
theorem bA (rs:List ByteArray):A4 (trim rs)≤A4 rs:=by
 unfold A4 trim;have:=Cl rs (Ea rs rs.length);have:=List.length_take_le (Ea rs rs.length) rs;have:(rs.take (Ea rs rs.length)).length≤rs.length:=by rw[List.length_take];omega
 omega
theorem Xv {x:Cx}(h:512<A4 (trim x.recs)):C7 x=[]:=by unfold C7 Lb;rw[if_pos h]
theorem Li {x:Cx}(h:A4 (trim x.recs)≤512):(C7 x).length=512:=Pq x _ (by omega)
theorem Nv (x:Cx):C7 x=[]↔512<A4 (trim x.recs):=by
 constructor
 ·intro h
  rcases Nat.lt_or_ge 512 (A4 (trim x.recs))with h1|h1
  ·exact h1
  ·have:=Li h1;rw[h]at this;cases this
 ·exact Xv
def Ez (x:Cx):ByteArray×Int:=if C7 x=[]then(⟨#[]⟩,18)else(⟨(C7 x).toArray⟩,0)
theorem O0 {x:Cx}(h:A4 (trim x.recs)≤512):Ez x=(⟨(C7 x).toArray⟩,0):=by
 unfold Ez;rw[if_neg];rw[Nv];omega
theorem Xw {x:Cx}(h:512<A4 (trim x.recs)):Ez x=(⟨#[]⟩,18):=by
 unfold Ez;rw[if_pos ((Nv x).2 h)]
end Pg
namespace Go.Proofs.YtmldoihahndcgaaGreatDoor
open Go.RowKit
abbrev Mm (o:ByteArray×Int):Value:=.tuple #[o.1,o.2]
theorem Xx (x:Pg.Cx)(A:Option Addr)(c:Nat)(i:Pg.Small x)(j:Pg.A4 x.recs≤1099511627776)(w:World)(h:Cells w A c x.recs):
 Cr 162 #[F3 x A c] w (Mm (Pg.Ez x)):=by
 have d:=Hq (Nr x A c i j _ (h.below ((Below.refl w.heap.size w).alloc (Nat.le_refl _) (.cells #[x.lsn,x.kind,x.link,.slice A x.recs.length c] 118 (0,0)))));clear h;unfold Pg.Ez
 by_cases a:Pg.C7 x=[]
 ·rw[if_pos a]
  rw[a]at d;clear a;go_enter Tryz.func162,Tryz.ntmps162
  go_wp2_with(go_at_call 73;refine(d.out).mono ?_;rintro e k ⟨rfl,b⟩)
  go_ret2;exact⟨rfl,Bd b⟩
 ·rw[if_neg a]
  obtain⟨q,f⟩:=ex (⟨(Pg.C7 x).toArray⟩:ByteArray);rw[← f]at d ⊢;have l:q.toList.isEmpty=false:=by
   rw[Gh,f];refine decide_eq_false fun m=>a ?_;have n:(Pg.C7 x).toArray.size=0:=m
   simpa using n
  have g:q.toList=Pg.C7 x:=by rw[ByteArray.toList_eq,f]
  have o:¬ q.toList=[]:=by rw[g];exact a
  clear a f g;go_enter Tryz.func162,Tryz.ntmps162
  go_wp2_with(go_at_call 73;refine(d.out).mono ?_;rintro e k ⟨rfl,b⟩)
  go_ret2;exact⟨rfl,Bd b⟩
theorem Xy (x:Pg.Cx)(A:Option Addr)(c:Nat)(n:Pg.Small x)(d:Pg.A4 x.recs≤1099511627776)(i:Pg.A4 x.recs≤512∨Pg.trim x.recs=x.recs)(w:World)(h:Cells w A c x.recs):
 Cr 138 #[F3 x A c] w (Mm (Pg.Ez x)):=by
 have m:=Hq (fun W f=>Nt x A c n d W f);have j:=Hq (h.below ((Below.refl w.heap.size w).alloc (Nat.le_refl _) (.cells #[x.lsn,x.kind,x.link,.slice A x.recs.length c] 149 (0,0))));clear h
 by_cases b:Pg.A4 x.recs≤512
 ·rw[Pg.O0 (Nat.le_trans (Pg.bA _) b)]
  have k:=Hq (fun W f=>Ns x A c x.recs d true (decide_eq_true b) W f);clear b d i;generalize (⟨(Pg.C7 x).toArray⟩:ByteArray)=q at m ⊢;go_enter Tryz.func138,Tryz.ntmps138
  go_wp2_with(first|(go_at_call 204;refine(k.out _ j.out).mono ?_;rintro e o ⟨rfl,a⟩;obtain⟨c0,c1,c2,c3,f0,f1,f2,f3⟩:=Ey (De a))|(go_at_call 139;refine(m.out _ (j.out.below a)).mono ?_;rintro e p ⟨rfl,l⟩))
  go_ret2;exact⟨rfl,andThen (Bd a) l⟩
 ·have g:Pg.trim x.recs=x.recs:=by rcases i with h|h;exact absurd h b;exact h
  rw[Pg.Xw (by rw[g];omega)];have k:=Hq (fun W f=>Ns x A c x.recs d false (decide_eq_false b) W f);clear b d i g;go_enter Tryz.func138,Tryz.ntmps138
  go_wp2_with(first|(go_at_call 204;refine(k.out _ j.out).mono ?_;rintro e o ⟨rfl,a⟩))
  go_ret2;exact⟨rfl,Bd a⟩
end Go.Proofs.YtmldoihahndcgaaGreatDoor
namespace Pg
theorem M4 (n:Nat):Aq (List.replicate n (⟨#[]⟩:ByteArray))=0:=by
 induction n with
 |zero=>rfl
 |succ n ih=>rw[List.replicate_succ,Aq,ih];rfl
theorem Vt (rs:List ByteArray)(k:Nat)(r:ByteArray)(h:k<rs.length):Aq (rs.set k r)+rs[k].size=Aq rs+r.size:=by
 have a:=Ld rs k h;rw[List.set_eq_take_append_cons_drop,if_pos h,Eg,Aq];omega
theorem Nw (rs:List ByteArray)(k:Nat)(r:ByteArray):(putAt rs k r).length=max rs.length (k+1):=by
 unfold putAt
 simp
 omega
theorem gK (rs:List ByteArray)(k:Nat)(r:ByteArray):Aq (putAt rs k r)≤Aq rs+r.size:=by
 unfold putAt;have h:k<(rs++List.replicate (k+1-rs.length) (⟨#[]⟩:ByteArray)).length:=by simp;omega
 have a:=Vt _ k r h;rw[Eg,M4]at a;omega
theorem G7 {rs:List ByteArray}{k:Nat}{r:ByteArray}{m:Nat}(b:∀ r∈rs,r.size≤m)(c:r.size≤m):∀ q∈putAt rs k r,q.size≤m:=by
 intro q a;unfold putAt at a;rcases List.mem_or_eq_of_mem_set a with h|h
 ·rw[List.mem_append]at h
  rcases h with h|h
  ·exact b q h
  ·rw[(List.mem_replicate.1 h).2];exact Nat.zero_le _
 ·rw[h];exact c
theorem T6 (rs:List ByteArray)(k:Nat)(r:ByteArray)(j:Nat):((putAt rs k r)[j]?).getD ⟨#[]⟩=if j=k then r else(rs[j]?).getD ⟨#[]⟩:=by
 unfold putAt;rw[List.getElem?_set]
 by_cases h:k=j
 ·subst h
  rw[if_pos rfl,if_pos (by simp;omega),if_pos rfl];rfl
 ·rw[if_neg h,if_neg (fun e=>h e.symm),List.getElem?_append]
  split
  ·rfl
  ·rename_i a
   rw[List.getElem?_replicate,List.getElem?_eq_none (by omega)]
   split<;>rfl
theorem Tm {rs:List ByteArray}(h:rs.length=0∨((rs[rs.length-1]?).getD ⟨#[]⟩).size≠0):Iz rs:=by
 intro r a;rw[List.getLast?_eq_getElem?]at a;rcases h with h|h
 ·rw[List.eq_nil_of_length_eq_zero h]at a;simp at a
 ·rw[a]at h;exact h
theorem Ri {rs:List ByteArray}(h:Iz rs):rs.length=0∨((rs[rs.length-1]?).getD ⟨#[]⟩).size≠0:=by
 rcases Nat.eq_zero_or_pos rs.length with h0|h0
 ·exact .inl h0
 ·right
  have a:rs[rs.length-1]? =some rs[rs.length-1]:=List.getElem?_eq_getElem (by omega);rw[a];exact h _ (by rw[List.getLast?_eq_getElem?,a];rfl)
theorem Pz {rs:List ByteArray}(h:Iz rs)(k:Nat){r:ByteArray}(a:r.size≠0):Iz (putAt rs k r):=by
 refine Tm (.inr ?_);rw[T6,Nw]
 split
 ·exact a
 ·rcases Ri h with h1|h1
  ·omega
  ·rw[show max rs.length (k+1)-1=rs.length-1 by omega];exact h1
theorem Kn (rs:List ByteArray)(k:Nat)(r:ByteArray):A4 (putAt rs k r)≤19+4*max rs.length (k+1)+(Aq rs+r.size):=by
 have:=gK rs k r;unfold A4;rw[Nw];omega
def Rj (rs:List ByteArray)(k:Nat)(r:ByteArray):List ByteArray:=if rs.length≤k then putAt rs k r else rs.take k++[r]++rs.drop k
def Rk (rs:List ByteArray)(k:Nat):List ByteArray:=rs.take k++rs.drop (k+1)
theorem T7 {rs:List ByteArray}{k:Nat}{r:ByteArray}{m:Nat}(a:∀ r∈rs,r.size≤m)(b:r.size≤m):∀ q∈Rj rs k r,q.size≤m:=by
 unfold Rj
 split
 ·exact G7 a b
 ·intro q c
  simp only[List.mem_append,List.mem_singleton]at c;rcases c with(h|h)|h
  ·exact a q (List.mem_of_mem_take h)
  ·rw[h];exact b
  ·exact a q (List.mem_of_mem_drop h)
theorem T8 {rs:List ByteArray}{k:Nat}{m:Nat}(b:∀ r∈rs,r.size≤m):∀ q∈Rk rs k,q.size≤m:=by
 intro q a;unfold Rk at a;rw[List.mem_append]at a;rcases a with h|h
 ·exact b q (List.mem_of_mem_take h)
 ·exact b q (List.mem_of_mem_drop h)
theorem J0 {rs:List ByteArray}{i:Int}(h:(Bc rs i).size≠0):0≤i∧i<rs.length:=by
 constructor
 ·rcases Int.lt_or_le i 0 with h1|h1
  ·rw[M0 h1]at h;exact absurd rfl h
  ·exact h1
 ·rcases Int.lt_or_le i rs.length with h1|h1
  ·exact h1
  ·rw[Lc h1]at h;exact absurd rfl h
structure Good (x:Cx):Prop where
 fine:Qh x
 tight:Iz x.recs
 fits:A4 x.recs≤512
theorem bB {p:List UInt8}{x:Cx}(h:right p=some x):Good x:=
 ⟨(G6 h).1,(Je h).1,(Je h).2⟩
theorem Xz (p:List UInt8):Good (Jo p):=by
 unfold Jo
 cases h:right p with
 |none=>exact⟨Tv,(by intro r a;cases a),by decide⟩
 |some x=>exact bB h
end Pg
namespace Go.Proofs.YtmldoihahndcgaaGreatDoor
open Go.RowKit
def Ht (r:ByteArray):Bool:=decide (1≤r.size∧r.size≤400)
theorem D3 {r:ByteArray}(h:Ht r=true):1≤r.size∧r.size≤400:=by unfold Ht at h;exact of_decide_eq_true h
def Be (p:ByteArray)(rs:List ByteArray):Pg.Cx:={Af p with recs:=rs}
theorem Dp (p:ByteArray):Pg.Good (Af p):=Pg.Xz _
theorem E0 (p:ByteArray)(rs:List ByteArray):Pg.Small (Be p rs):=(Dp p).fine.small
def Jq (p:ByteArray)(i:Int)(r:ByteArray):ByteArray×Int:=
 if Bk p=false then(⟨#[]⟩,1)else if i<0 then(⟨#[]⟩,1)else if(Pg.Bc (Af p).recs i).size≠0 then(⟨#[]⟩,1)
 else if Ht r=false then(⟨#[]⟩,1)else if 512<i then(⟨#[]⟩,18)else Pg.Ez (Be p (Pg.putAt (Af p).recs i.toNat r))
def O1 (p:ByteArray)(i:Int):ByteArray×Int:=
 if Bk p=false then(⟨#[]⟩,1)else if(Pg.Bc (Af p).recs i).size=0 then(⟨#[]⟩,21)else Pg.Ez (Be p (Pg.putAt (Af p).recs i.toNat ⟨#[]⟩))
def Hu (p:ByteArray)(i:Int)(r:ByteArray):ByteArray×Int:=
 if Bk p=false then(⟨#[]⟩,1)else if Ht r=false then(⟨#[]⟩,1)else if(Pg.Bc (Af p).recs i).size=0 then(⟨#[]⟩,21)
 else Pg.Ez (Be p (Pg.putAt (Af p).recs i.toNat r))
theorem T9 {q:ByteArray}(h:q.size=0):q=⟨#[]⟩:=Jy h
theorem X6 {q:ByteArray}(h:¬ q.size=0):q.toList.isEmpty=false∧¬ q.toList=[]:=by
 have a:q.toList.isEmpty=false:=by rw[Gh];exact decide_eq_false h
 exact⟨a,fun e=>by rw[e]at a;cases a⟩
theorem lO (p:ByteArray)(i:Int)(r:ByteArray)(Q:p.size≤140737488355328)(w:World):
 Cr 128 #[p,i,r] w (Mm (Jq p i r)):=by
 have g:=Hq (fun W=>Gi p Q W);have h:=Hq (fun A c W l=>aX (Af p) A c i W l);have j:=Hq (fun W=>eF r W);change Hid (∀ W,Calls _ _ _ _ fun e w'=>e= .returned (.bool (Ht r))∧_)at j;have a:=Dp p;unfold Jq
 cases t:Bk p with
 |false=>
  rw[if_pos rfl];rw[t]at g;generalize Af p=x at g;clear a t h j;go_enter Tryz.func128,Tryz.ntmps128
  go_wp2_with(first|(go_at_call 72;refine(g.out _).mono ?_;rintro e m ⟨A,c,rfl,f,d⟩))
  go_ret2;exact⟨rfl,Bb d⟩
 |true=>
  rw[t]at g;rw[if_neg (by simp)];clear t
  by_cases v:i<0
  ·rw[if_pos v]
   generalize Af p=x at g;clear a h j;go_enter Tryz.func128,Tryz.ntmps128
   go_wp2_with(first|(go_at_call 72;refine(g.out _).mono ?_;rintro e m ⟨A,c,rfl,f,d⟩))
   go_ret2;exact⟨rfl,Bb d⟩
  ·rw[if_neg v]
   obtain⟨k,rfl⟩:=Int.eq_ofNat_of_zero_le (show 0≤i by omega);have R:(0:Int)≤(k:Int):=(by omega);clear v;rw[show((k:Int)).toNat=k from rfl]
   by_cases n:(Pg.Bc (Af p).recs (k:Int)).size≠0
   ·rw[if_pos n]
    obtain⟨z,B⟩:=X6 n;clear n;generalize Pg.Bc (Af p).recs (k:Int)=q at h z B;generalize Af p=x at g h;clear a j;go_enter Tryz.func128,Tryz.ntmps128
    go_wp2_with(first|(go_at_call 72;refine(g.out _).mono ?_;rintro e m ⟨A,c,rfl,f,d⟩)|(go_at_call 161;refine(h.out _ _ _ (f.cells.below ((Below.refl _ _).alloc (Nat.le_refl _) _))).mono ?_;rintro e C ⟨rfl,b⟩;obtain⟨c0,c1,c2,c3,f0,f1,f2,f3⟩:=Ey (De b)))
    go_ret2;exact⟨rfl,andThen d (Bd b)⟩
   ·rw[if_neg n]
    rw[T9 (q:=Pg.Bc (Af p).recs (k:Int)) (by omega)]at h;clear n
    cases s:Ht r with
    |false=>
     rw[if_pos rfl];rw[s]at j;generalize Af p=x at g h;clear a s;go_enter Tryz.func128,Tryz.ntmps128
     go_wp2_with(first|(go_at_call 72;refine(g.out _).mono ?_;rintro e m ⟨A,c,rfl,f,d⟩)|(go_at_call 161;refine(h.out _ _ _ (f.cells.below ((Below.refl _ _).alloc (Nat.le_refl _) _))).mono ?_;rintro e C ⟨rfl,b⟩;obtain⟨c0,c1,c2,c3,f0,f1,f2,f3⟩:=Ey (De b))|(go_at_call 160;refine(j.out _).mono ?_;rintro e O ⟨rfl,rfl⟩))
     go_ret2;exact⟨rfl,andThen d (Bd b)⟩
    |true=>
     rw[if_neg (by simp)];rw[s]at j;obtain⟨D,E⟩:=D3 s;clear s
     by_cases P:(512:Int)<(k:Int)
     ·rw[if_pos P]
      generalize Af p=x at g h;clear a;go_enter Tryz.func128,Tryz.ntmps128
      go_wp2_with(first|(go_at_call 72;refine(g.out _).mono ?_;rintro e m ⟨A,c,rfl,f,d⟩)|(go_at_call 161;refine(h.out _ _ _ (f.cells.below ((Below.refl _ _).alloc (Nat.le_refl _) _))).mono ?_;rintro e C ⟨rfl,b⟩;obtain⟨c0,c1,c2,c3,f0,f1,f2,f3⟩:=Ey (De b))|(go_at_call 160;refine(j.out _).mono ?_;rintro e O ⟨rfl,rfl⟩))
      go_ret2;exact⟨rfl,andThen d (Bd b)⟩
     ·rw[if_neg P]
      have F:=a.fine.len;have G:=a.fine.sum;have H:=Pg.Kn (Af p).recs k r;have u:=Hq (fun A c W l=>Xu (Af p) A c k r (by omega) (by omega) W l);have I:=Hq (fun A c W l=>Xx (Be p (Pg.putAt (Af p).recs k r)) A c (E0 p _) (by show Pg.A4 (Pg.putAt _ _ _)≤_;omega) W l);change Hid (∀ A c W,Cells W A c (Af p).recs→Calls _ _ _ _ fun e w'=>∃ J K,e= .returned (F3 (Be p (Pg.putAt (Af p).recs k r)) J K)∧Bn _ w' J K (Be p (Pg.putAt (Af p).recs k r)).recs∧_)at u;clear H F G D E a;generalize Be p (Pg.putAt (Af p).recs k r)=y at u I ⊢;generalize Pg.Ez y=o at I ⊢;generalize Af p=x at g h u;go_enter Tryz.func128,Tryz.ntmps128
      go_wp2_with(first|(go_at_call 72;refine(g.out _).mono ?_;rintro e m ⟨A,c,rfl,f,d⟩)|(go_at_call 161;refine(h.out _ _ _ (f.cells.below ((Below.refl _ _).alloc (Nat.le_refl _) _))).mono ?_;rintro e C ⟨rfl,b⟩;obtain⟨c0,c1,c2,c3,f0,f1,f2,f3⟩:=Ey (De b))|(go_at_call 160;refine(j.out _).mono ?_;rintro e O ⟨rfl,rfl⟩)|(go_at_call 163;refine(u.out _ _ _ (f.cells.below (Bd b))).mono ?_;rintro e S ⟨J,K,rfl,L,M⟩)|(go_at_call 162;refine(I.out _ _ _ L.cells).mono ?_;rintro e T ⟨rfl,N⟩))
      go_ret2;exact⟨rfl,andThen (andThen (andThen d (Bd b)) M) N⟩
theorem lQ (p:ByteArray)(i:Int)(r:ByteArray)(P:p.size≤140737488355328)(w:World):
 Cr 83 #[p,i,r] w (Mm (Hu p i r)):=by
 have g:=Hq (fun W=>Gi p P W);have h:=Hq (fun A c W m=>aX (Af p) A c i W m);have j:=Hq (fun W=>eF r W);change Hid (∀ W,Calls _ _ _ _ fun e w'=>e= .returned (.bool (Ht r))∧_)at j;have a:=Dp p;unfold Hu
 cases s:Bk p with
 |false=>
  rw[if_pos rfl];rw[s]at g;generalize Af p=x at g;clear a s h j;go_enter Tryz.func83,Tryz.ntmps83
  go_wp2_with(first|(go_at_call 72;refine(g.out _).mono ?_;rintro e u ⟨A,c,rfl,d,b⟩))
  go_ret2;exact⟨rfl,Bb b⟩
 |true=>
  rw[s]at g;rw[if_neg (by simp)];clear s
  cases n:Ht r with
  |false=>
   rw[if_pos rfl];rw[n]at j;generalize Af p=x at g;clear a n h;go_enter Tryz.func83,Tryz.ntmps83
   go_wp2_with(first|(go_at_call 72;refine(g.out _).mono ?_;rintro e u ⟨A,c,rfl,d,b⟩)|(go_at_call 160;refine(j.out _).mono ?_;rintro e O ⟨rfl,rfl⟩))
   go_ret2;exact⟨rfl,Bb b⟩
  |true=>
   rw[if_neg (by simp)];rw[n]at j;obtain⟨v,z⟩:=D3 n;clear n
   by_cases l:(Pg.Bc (Af p).recs i).size=0
   ·rw[if_pos l]
    rw[T9 l]at h;generalize Af p=x at g h;clear a l;go_enter Tryz.func83,Tryz.ntmps83
    go_wp2_with(first|(go_at_call 72;refine(g.out _).mono ?_;rintro e u ⟨A,c,rfl,d,b⟩)|(go_at_call 160;refine(j.out _).mono ?_;rintro e O ⟨rfl,rfl⟩)|(go_at_call 161;refine(h.out _ _ _ (d.cells.below ((Below.refl _ _).alloc (Nat.le_refl _) _))).mono ?_;rintro e Q ⟨rfl,f⟩;obtain⟨c0,c1,c2,c3,f0,f1,f2,f3⟩:=Ey (De f)))
    go_ret2;exact⟨rfl,andThen b (Bd f)⟩
   ·rw[if_neg l]
    obtain⟨B,C⟩:=Pg.J0 l;obtain⟨D,E⟩:=X6 l;clear l;obtain⟨k,rfl⟩:=Int.eq_ofNat_of_zero_le B;rw[show((k:Int)).toNat=k from rfl];have F:=a.fine.len;have G:=a.fine.sum;have H:=Pg.Kn (Af p).recs k r;have t:=Hq (fun A c W m=>Xu (Af p) A c k r (by omega) (by omega) W m);have I:=Hq (fun A c W m=>Xx (Be p (Pg.putAt (Af p).recs k r)) A c (E0 p _) (by show Pg.A4 (Pg.putAt _ _ _)≤_;omega) W m);change Hid (∀ A c W,Cells W A c (Af p).recs→Calls _ _ _ _ fun e w'=>∃ J K,e= .returned (F3 (Be p (Pg.putAt (Af p).recs k r)) J K)∧Bn _ w' J K (Be p (Pg.putAt (Af p).recs k r)).recs∧_)at t;clear H F G v z a C;generalize Be p (Pg.putAt (Af p).recs k r)=y at t I ⊢;generalize Pg.Ez y=o at I ⊢;generalize Pg.Bc (Af p).recs (k:Int)=q at h D E;generalize Af p=x at g h t;go_enter Tryz.func83,Tryz.ntmps83
    go_wp2_with(first|(go_at_call 72;refine(g.out _).mono ?_;rintro e u ⟨A,c,rfl,d,b⟩)|(go_at_call 160;refine(j.out _).mono ?_;rintro e O ⟨rfl,rfl⟩)|(go_at_call 161;refine(h.out _ _ _ (d.cells.below ((Below.refl _ _).alloc (Nat.le_refl _) _))).mono ?_;rintro e Q ⟨rfl,f⟩;obtain⟨c0,c1,c2,c3,f0,f1,f2,f3⟩:=Ey (De f))|(go_at_call 163;refine(t.out _ _ _ (d.cells.below (Bd f))).mono ?_;rintro e R ⟨J,K,rfl,L,M⟩)|(go_at_call 162;refine(I.out _ _ _ L.cells).mono ?_;rintro e S ⟨rfl,N⟩))
    go_ret2;exact⟨rfl,andThen (andThen (andThen b (Bd f)) M) N⟩
end Go.Proofs.YtmldoihahndcgaaGreatDoor
