import Derived.Test.YtmldoihahndcgaaGreatDoorHs00
import Derived.Test.YtmldoihahndcgaaGreatDoorHs05
import Derived.Test.YtmldoihahndcgaaGreatDoorHs03
import Derived.Test.YtmldoihahndcgaaGreatDoorHs01
import Derived.Lib.SliceRun
import Derived.Deep.RegionLaw
import Derived.Deep.MidRow
import Derived.Test.YtmldoihahndcgaaGreatDoorHs02
import Derived.Lib.AtoiAll
import Derived.Lib.ItoaMem
import Derived.Lib.ItoaLen
set_option maxRecDepth 100000
set_option maxHeartbeats 16000000
set_option linter.unusedSimpArgs false
namespace Lg
open Rc
def Gs (F N:Nat)(d:Dk):List UInt8:=flat ((d.sectors.drop F).take N)
theorem mT {F N:Nat}{d:Dk}(a:Whole d.sectors)(b:F+N≤d.sectors.length):(Gs F N d).length=N*128:=by
 unfold Gs;rw[Cc ((a.drop F).take N),List.length_take,List.length_drop]
 congr 1;omega
theorem mU {L:List ByteArray}{F N j:Nat}{b:ByteArray}(e:j<N):((L.set (F+j) b).drop F).take N=((L.drop F).take N).set j b:=by
 refine List.ext_getElem? fun i=>?_;simp only[List.getElem?_take,List.getElem?_drop,List.getElem?_set,List.length_take,List.length_drop]
 by_cases a:i<N
 ·by_cases d:i=j
  ·subst d
   simp only[if_pos a,if_pos]
   by_cases c:F+i<L.length
   ·rw[if_pos c,if_pos (by omega)]
   ·rw[if_neg c,if_neg (by omega)]
  ·simp only[if_pos a]
   rw[if_neg (by omega),if_neg (by omega)]
 ·rw[if_neg a]
  rw[if_neg (by omega),if_neg a]
theorem iD (n:Nat):∀ l:List UInt8,l.length≤n→flat (Nz l)=l++List.replicate ((Nz l).length*128-l.length) 0:=by
 induction n with
 |zero=>
  intro l e;rw[List.eq_nil_of_length_eq_zero (l:=l) (by omega),Hw];rfl
 |succ n ih=>
  intro l e
  by_cases h:l=[]
  ·rw[h,Hw];rfl
  ·have i:0<l.length:=by cases l with
    |nil=>contradiction
    |cons a l=>simp
   have f:(E2 (l.take 128)).data.toList=l.take 128++List.replicate (128-(l.take 128).length) 0:=(by unfold E2;rfl);rw[J2 h,Fk,f,ih _ (by rw[List.length_drop];omega),List.length_cons];have b:=P4 _ (l.drop 128) (Nat.le_refl _)
   by_cases d:l.length≤128
   ·have c:l.drop 128=[]:=List.drop_eq_nil_of_le d
    rw[c,Hw,List.take_of_length_le d]
    simp
   ·have c:(l.take 128).length=128:=by rw[List.length_take];omega
    rw[c,Nat.sub_self,List.replicate_zero,List.append_nil,← List.append_assoc,List.take_append_drop,List.length_drop];rw[List.length_drop]at b;have g:(Nz (l.drop 128)).length*128-(l.length-128)=((Nz (l.drop 128)).length+1)*128-l.length:=(by omega);rw[g]
theorem mV:flat [Cf]=List.replicate 128 0:=by
 have h:∀ l:List UInt8,flat [⟨l.toArray⟩]=l:=fun l=>by unfold flat;simp
 exact h _
theorem mW {L:List ByteArray}(h:Whole L)(i:Nat)(hi:i<L.length):(L[i]?.getD ⟨#[]⟩).data.toList=((flat L).drop (i*128)).take 128∧(L[i]?.getD ⟨#[]⟩).size=128:=by
 rw[List.getElem?_eq_getElem hi,Option.getD_some];refine⟨?_,h _ (List.getElem_mem hi)⟩;rw[← gX h,List.drop_eq_getElem_cons hi,Fk,List.take_left' (by have:=h _ (List.getElem_mem hi);simpa using this)]
structure Gn (F N:Nat) (d:Dk) (g:Lo) (r1 r2:List Rec):Prop where
 whole:Whole d.sectors
 room:F+N≤d.sectors.length
 hf:g.from_=(F:Int)
 hn:g.n=(N:Int)
 row:Row 0 (r1++r2)
 pre:(Gs F N d).take (bytes r1).length=bytes r1
 safe:g.safe=((bytes r1).length:Int)
 end_:g.end_=((bytes (r1++r2)).length:Int)
 tail:g.tail=⟨((bytes (r1++r2)).drop ((bytes r1).length-(bytes r1).length%128)).toArray⟩
 fit:(bytes (r1++r2)).length≤N*128
theorem I2 (a b:List Rec):(bytes (a++b)).length=(bytes a).length+(bytes b).length:=by rw[Kt,List.length_append]
theorem iE (r:Rec):bytes [r]=D8 r:=by unfold bytes;simp
theorem Jy {l:List Rec}(h:(bytes l).length=0):l=[]:=by
 cases l with
 |nil=>rfl
 |cons r l=>rw[Rx,List.length_append,Lk]at h;omega
theorem Gn.O5 {F N:Nat}{d:Dk}{g:Lo}{a b:List Rec}(h:Gn F N d g a b):(g.tail.size:Int)=g.end_-(((bytes a).length/128*128:Nat):Int):=by
 have c:=I2 a b;rw[h.tail,h.end_]
 show((((bytes (a++b)).drop ((bytes a).length-(bytes a).length%128)).toArray.size:Nat):Int)=_
 rw[List.size_toArray,List.length_drop];omega
theorem Gn.new {F N:Nat}{d:Dk}(a:Whole d.sectors)(b:F+N≤d.sectors.length):Gn F N d ⟨F,N,0,0,⟨#[]⟩⟩ [] []:=
 ⟨a,b,rfl,rfl,trivial,rfl,rfl,rfl,rfl,Nat.zero_le _⟩
theorem Gn.append {F N:Nat}{d:Dk}{g:Lo}{a b:List Rec}(h:Gn F N d g a b)(r:Rec):
 (Aw g r=(g,0,1))∨(Aw g r=(g,0,18))∨
 ((Aw g r).2=(g.end_+1,0)∧Gn F N d (Aw g r).1 a (b++[{r with lsn:=g.end_+1}])):=by
 by_cases c:Bs {r with lsn:=g.end_+1}
 ·by_cases j:g.n*128-((D8 {r with lsn:=g.end_+1}).length:Int)<g.end_
  ·refine .inr (.inl ?_)
   unfold Aw;simp only;rw[if_neg (fun f=>f c),if_pos j]
  ·refine .inr (.inr ?_)
   have e:Aw g r=({g with end_:=g.end_+((D8 {r with lsn:=g.end_+1}).length:Int),tail:=g.tail++⟨(D8 {r with lsn:=g.end_+1}).toArray⟩},g.end_+1,0):=by
    unfold Aw;simp only;rw[if_neg (fun f=>f c),if_neg j]
   rw[e];refine⟨rfl,?_⟩;have i:bytes (a++(b++[{r with lsn:=g.end_+1}]))=bytes (a++b)++D8 {r with lsn:=g.end_+1}:=by
    rw[← List.append_assoc,Kt (a++b),iE]
   refine⟨h.whole,h.room,h.hf,h.hn,?_,h.pre,h.safe,?_,?_,?_⟩
   ·rw[← List.append_assoc,bS]
    refine⟨h.row,c,?_,trivial⟩
    show g.end_+1=_
    rw[h.end_];simp
   ·show g.end_+_=_
    rw[i,List.length_append,h.end_];omega
   ·show g.tail++_=_
    have k:=I2 a b;rw[i,h.tail,List.drop_append_of_le_length (by omega)]
    apply ByteArray.ext
    rw[ByteArray.data_append]
    simp
   ·rw[i,List.length_append]
    have l:=h.hn;have m:=h.end_;omega
 ·refine .inl ?_
  unfold Aw;simp only;rw[if_pos c]
structure Lp (F N f:Nat) (s n t:List UInt8) (all:List ByteArray):Prop where
 whole:Whole all
 fits:f+all.length≤N
 some_:0<all.length
 flat_:n=s.take (f*128)++(flat all++s.drop ((f+all.length)*128))
 len:s.length=N*128
theorem Lp.mX {F N f:Nat}{s n t:List UInt8}{all:List ByteArray}(h:Lp F N f s n t all):n.length=N*128:=by
 have a:=h.fits;have b:=h.len;rw[h.flat_,List.length_append,List.length_append,Cc h.whole,List.length_take,List.length_drop];omega
theorem Lp.piece {F N f:Nat}{s n t:List UInt8}{all:List ByteArray}(h:Lp F N f s n t all)(i:Nat)(hi:i<all.length):(all[i]?.getD ⟨#[]⟩).data.toList=(n.drop ((f+i)*128)).take 128∧(all[i]?.getD ⟨#[]⟩).size=128:=by
 obtain⟨a,b⟩:=mW h.whole i hi;refine⟨?_,b⟩;have c:=h.fits;have d:=h.len;have e:=Cc h.whole;rw[a,h.flat_,show(f+i)*128=f*128+i*128 by omega,← List.drop_drop,List.drop_left' (by rw[List.length_take];omega),List.drop_append_of_le_length (by omega),List.take_append_of_le_length (by rw[List.length_drop];omega)]
theorem Lp.start {F N f:Nat}{s n t:List UInt8}{all:List ByteArray}(h:Lp F N f s n t all):mix s n ((f+all.length)*128)=s:=by
 have a:=h.fits;have b:=h.len;have c:=Cc h.whole;unfold mix;rw[h.flat_,← List.append_assoc,List.drop_left' (by rw[List.length_append,List.length_take];omega),List.take_append_drop]
theorem Lp.sV {F N f:Nat}{s n t:List UInt8}{all:List ByteArray}(h:Lp F N f s n t all):mix s n (f*128)=n:=by
 refine rM (by rw[h.len,h.mX]) fun i a=>?_;have b:=h.fits;have c:=h.len;rw[h.flat_,List.getElem?_append_left (by rw[List.length_take];omega),List.getElem?_take,if_pos a]
theorem cB {F N f:Nat}{s n t:List UInt8}{all:List ByteArray}(u:Lp F N f s n t all):∀ (i:Nat),i≤all.length→∀ d:Dk,Whole d.sectors→F+N≤d.sectors.length→d.down=false→-1≤d.left→Gs F N d=mix s n ((f+i)*128)→
 ((Cd ((F:Int)+f) all i d).2=0∧(Cd ((F:Int)+f) all i d).1.down=false∧-1≤(Cd ((F:Int)+f) all i d).1.left∧(d.left= -1→(Cd ((F:Int)+f) all i d).1.left= -1)∧Gs F N (Cd ((F:Int)+f) all i d).1=mix s n (f*128)∧Whole (Cd ((F:Int)+f) all i d).1.sectors∧(Cd ((F:Int)+f) all i d).1.sectors.length=d.sectors.length)∨
 ((Cd ((F:Int)+f) all i d).2=20∧d.left≠-1∧(∃ q,Gs F N (Cd ((F:Int)+f) all i d).1=mix s n q)∧Whole (Cd ((F:Int)+f) all i d).1.sectors∧(Cd ((F:Int)+f) all i d).1.sectors.length=d.sectors.length):=by
 intro i
 induction i with
 |zero=>
  intro _ d l E k B v;exact .inl ⟨rfl,k,B,fun h=>h,by unfold Cd;exact v,l,rfl⟩
 |succ i G=>
  intro J d l E k B v;obtain⟨w,c⟩:=u.piece i (by omega);have C:=u.fits;have j:F6 d ((F:Int)+f+(i:Int)):=⟨by omega,by omega⟩
  by_cases D:d.left=0
  ·have e:Bz d ((F:Int)+f+(i:Int)) (all[i]?.getD ⟨#[]⟩)=({d with down:=true},20):=by
    unfold Bz;rw[k,if_neg (by simp),if_neg (fun x=>x ⟨j,c⟩),if_pos D]
   have y:Cd ((F:Int)+f) all (i+1) d=({d with down:=true},20):=by
    unfold Cd;rw[e,if_neg (show ¬ (20:Int)=0 by decide)]
   rw[y];exact .inr ⟨rfl,by omega,⟨_,v⟩,l,rfl⟩
  ·obtain⟨d2,g⟩:=ex ({d with sectors:=d.sectors.set ((F:Int)+f+(i:Int)).toNat (all[i]?.getD ⟨#[]⟩),left:=if 0<d.left then d.left-1 else d.left}:Dk)
   have e:Bz d ((F:Int)+f+(i:Int)) (all[i]?.getD ⟨#[]⟩)=(d2,0):=by
    unfold Bz;rw[k,if_neg (by simp),if_neg (fun x=>x ⟨j,c⟩),if_neg D,g,← k]
   have y:Cd ((F:Int)+f) all (i+1) d=Cd ((F:Int)+f) all i d2:=by
    conv=>lhs;unfold Cd
    rw[e,if_pos rfl]
   rw[y];have m:((F:Int)+f+(i:Int)).toNat=F+(f+i):=(by omega);have a:d2.sectors=d.sectors.set (F+(f+i)) (all[i]?.getD ⟨#[]⟩):=(by rw[g,← m]);have b:d2.left=if 0<d.left then d.left-1 else d.left:=by rw[g]
   have hlen:d2.sectors.length=d.sectors.length:=(by rw[a,List.length_set]);have o:Gs F N d2=mix s n ((f+i)*128):=by
    unfold Gs;rw[a,mU (by omega)];refine mL ((l.drop F).take N) c (by rw[List.length_take,List.length_drop];omega) (by rw[u.len,u.mX]) ?_ w;have:(f+i+1)*128=(f+(i+1))*128:=(by omega);rw[this];exact v
   have z:Whole d2.sectors:=(by rw[a];exact l.set _ c);have H:=G (by omega) d2 z (by omega) (by rw[g];exact k) (by rw[b];split<;>omega) o;have p:d.left= -1→d2.left= -1:=fun r=>by rw[b,if_neg (by omega)];exact r
   rcases H with⟨A,a2,a3,a4,a5,I,K⟩|⟨A,a2,a3,a4,a5⟩
   ·exact .inl ⟨A,a2,a3,fun r=>a4 (p r),a5,I,by omega⟩
   ·exact .inr ⟨A,fun r=>a2 (p r),a3,a4,by omega⟩
theorem Gn.Fe {F N:Nat}{d:Dk}{g:Lo}{a b:List Rec}(h:Gn F N d g a b):Fe g=(((bytes a).length/128:Nat):Int):=by
 unfold Lg.Fe;have:=h.O5;rw[this];omega
theorem Gn.rA {F N:Nat}{d:Dk}{g:Lo}{a c:List Rec}(h:Gn F N d g a c)(A:c≠[]):
 ∃ n,Lp F N ((bytes a).length/128) (Gs F N d) n [] (F7 g)∧gW n (a++c):=by
 obtain⟨X,o⟩:=ex ((bytes a).length);obtain⟨Y,p⟩:=ex ((bytes (a++c)).length);have B:=I2 a c;have w:0<(bytes c).length:=Nat.pos_of_ne_zero fun m=>A (Jy m);have j:=h.fit;have q:=mT (N:=N) h.whole h.room;have f:g.tail.data.toList=(bytes (a++c)).drop (X-X%128):=by rw[h.tail,o]
 have r:g.tail.size=Y-(X-X%128):=by
  have:g.tail.data.toList.length=g.tail.size:=by simp
  rw[← this,f,List.length_drop,p]
 have C:=Hz g.tail;have k:flat (Hb g.tail)=(bytes (a++c)).drop (X-X%128)++List.replicate ((Hb g.tail).length*128-g.tail.size) 0:=by
  unfold Hb;rw[iD _ _ (Nat.le_refl _),f,List.length_drop,← f,r,← p]
 obtain⟨z,m,s,D⟩:∃ z,flat (F7 g)=(bytes (a++c)).drop (X-X%128)++List.replicate z 0∧(X/128+(F7 g).length≤N)∧(128≤z∨Y+z=N*128):=by
  unfold F7;rw[h.Fe,h.hn,← o]
  by_cases x:(((X/128:Nat):Int)+((Hb g.tail).length:Int))<(N:Int)
  ·rw[if_pos x]
   refine⟨(Hb g.tail).length*128-g.tail.size+128,?_,?_,.inl (by omega)⟩
   ·rw[P2,k,mV,List.append_assoc,List.replicate_append_replicate]
   ·rw[List.length_append];simp;omega
  ·rw[if_neg x]
   refine⟨(Hb g.tail).length*128-g.tail.size,k,?_,.inr ?_⟩
   ·omega
   ·omega
 have l:Whole (F7 g):=by
  unfold F7
  split
  ·intro b E
   rcases List.mem_append.1 E with h3|h3
   ·exact Md _ b h3
   ·rw[List.mem_singleton.1 h3];exact Ku
  ·exact Md _
 have t:0<(F7 g).length:=by
  have:(Hb g.tail).length≤(F7 g).length:=by unfold F7;split<;>simp
  omega
 have u:=Cc l;rw[m,List.length_append,List.length_drop,List.length_replicate,← p]at u;obtain⟨n,y⟩:=ex ((Gs F N d).take (X/128*128)++(flat (F7 g)++(Gs F N d).drop ((X/128+(F7 g).length)*128)));have v:Lp F N (X/128) (Gs F N d) n [] (F7 g):=⟨l,s,t,y,q⟩;have e:n=bytes (a++c)++(List.replicate z 0++(Gs F N d).drop ((X/128+(F7 g).length)*128)):=by
  have G:(Gs F N d).take (X/128*128)=(bytes (a++c)).take (X/128*128):=by
   have h3:=congrArg (List.take (X/128*128)) h.pre;rw[List.take_take,Nat.min_eq_left (by omega)]at h3;rw[h3,Kt,List.take_append_of_le_length (by omega)]
  rw[y,m,G,show X-X%128=X/128*128 by omega,List.append_assoc,← List.append_assoc,List.take_append_drop]
 refine⟨n,by rw[← o];exact v,h.row,?_,?_,?_⟩
 ·rw[e,List.take_left' rfl]
 ·rw[v.mX];exact j
 ·intro i h3 I H
  rw[v.mX]at H;rw[e,List.getElem?_append_right h3,List.getElem?_append_left (by rw[List.length_replicate];omega),List.getElem?_replicate,if_pos (by omega)]
theorem Gn.force {F N:Nat}{d:Dk}{g:Lo}{a b:List Rec}(h:Gn F N d g a b)(s:d.down=false)(t: -1≤d.left):
 ((Az d g).2.2=0∧Gn F N (Az d g).1 (Az d g).2.1 (a++b) []∧(Az d g).1.down=false∧-1≤(Az d g).1.left∧(d.left= -1→(Az d g).1.left= -1)∧(Az d g).1.sectors.length=d.sectors.length∧(Az d g).2.1.safe=(Az d g).2.1.end_∧(gW (Gs F N d) a∨b≠[]→gW (Gs F N (Az d g).1) (a++b)))∨
 ((Az d g).2.2=20∧b≠[]∧(Az d g).2.1=g∧d.left≠-1∧Whole (Az d g).1.sectors∧(Az d g).1.sectors.length=d.sectors.length∧∃ n q,gW n (a++b)∧n.length=N*128∧Gs F N (Az d g).1=mix (Gs F N d) n q):=by
 by_cases m:b=[]
 ·subst m
  have c:g.safe=g.end_:=by rw[h.safe,h.end_,List.append_nil]
  have e:Az d g=(d,g,0):=by unfold Az;rw[if_pos c]
  rw[e];refine .inl ⟨rfl,?_,s,t,fun hx=>hx,rfl,c,fun hx=>?_⟩
  ·have u:=h
   rw[← List.append_nil a]at u
   simpa using u
  ·rcases hx with hx|hx
   ·simpa using hx
   ·exact absurd rfl hx
 ·have c:¬ g.safe=g.end_:=by
   have v:0<(bytes b).length:=Nat.pos_of_ne_zero fun y=>m (Jy y);have p:=I2 a b;rw[h.safe,h.end_];omega
  obtain⟨n,j,r⟩:=h.rA m;have i:g.from_+Lg.Fe g=(F:Int)+(((bytes a).length/128:Nat):Int):=by rw[h.hf,h.Fe]
  have w:=cB j (F7 g).length (Nat.le_refl _) d h.whole h.room s t j.start.symm;rw[← i]at w;rcases w with⟨o,a2,a3,a4,a5,z,x⟩|⟨o,a2,a3,a4,a5⟩
  ·have e:Az d g=((Cd (g.from_+Lg.Fe g) (F7 g) (F7 g).length d).1,Il g,0):=by
    unfold Az;rw[if_neg c];simp only;rw[if_pos o]
   rw[e];refine .inl ⟨rfl,?_,a2,a3,a4,x,rfl,fun _=>by show gW (Gs F N _) _;rw[a5,j.sV];exact r⟩;have k:Gs F N (Cd (g.from_+Lg.Fe g) (F7 g) (F7 g).length d).1=n:=(by rw[a5,j.sV]);have A:=h.O5;have f:=h.end_;refine⟨z,by rw[x];exact h.room,h.hf,h.hn,by rw[List.append_nil];exact h.row,?_,?_,?_,?_,by rw[List.append_nil];exact h.fit⟩
   ·show(Gs F N (Cd (g.from_+Lg.Fe g) (F7 g) (F7 g).length d).1).take _=_
    rw[k];exact r.pre
   ·show g.end_=_
    exact f
   ·show g.end_=_
    rw[List.append_nil];exact f
   ·show g.tail.extract (g.tail.size-(g.end_%128).toNat) g.tail.size=_
    have p:=I2 a b;have l:g.tail.size=(bytes (a++b)).length-(bytes a).length/128*128:=(by omega);rw[List.append_nil,f]
    apply ByteArray.ext
    rw[ByteArray.data_extract,h.tail]
    apply Array.toList_inj.1
    rw[Array.toList_extract];simp only[List.extract_eq_drop_take'];rw[← h.tail,l];have B:(((((bytes (a++b)).length:Nat):Int)%128).toNat)=(bytes (a++b)).length%128:=(by omega);rw[B];rw[List.drop_take,List.drop_drop,List.take_of_length_le (by rw[List.length_drop];omega)]
    congr 1;omega
  ·have e:Az d g=((Cd (g.from_+Lg.Fe g) (F7 g) (F7 g).length d).1,g,20):=by
    unfold Az;rw[if_neg c];simp only;rw[if_neg (show ¬ _ by rw[o];decide),o]
   rw[e];obtain⟨q,C⟩:=a3;exact .inr ⟨rfl,m,rfl,a2,a4,a5,n,q,r,j.mX,C⟩
end Lg
namespace Tx
open Rc Lg
def Lq (r:Rec):Prop:=1≤r.txn∧1≤r.kind∧r.kind≤7
instance (r:Rec):Decidable (Lq r):=by unfold Lq;exact inferInstance
def P6 (r:Rec)(t:A9):A9:=⟨t.txn,r.lsn,if r.kind=1∨r.kind=2 then r.lsn else if r.kind=3∨r.kind=4 then r.next else t.next,if r.kind=5 then true else t.done⟩
def Dt:List A9→Int→Option Nat
 |[],_=>none
 |t::l,n=>if t.txn=n then some 0 else(Dt l n).map (·+1)
theorem Jh {l:List A9}{n:Int}{i:Nat}(h:Dt l n=some i):∃ hi:i<l.length,l[i].txn=n∧∀ j (hj:j<i),l[j].txn≠n:=by
 induction l generalizing i with
 |nil=>cases h
 |cons t l ih=>
  unfold Dt at h
  split at h
  ·rename_i a
   injection h with h;subst h
   exact⟨by simp,a,fun j hj=>absurd hj (by omega)⟩
  ·rename_i a
   cases b:Dt l n with
   |none=>rw[b]at h;cases h
   |some k=>
    rw[b]at h
    injection h with h
    have c:i=k+1:=h.symm;subst c;obtain⟨d,e,f⟩:=ih b;refine⟨by simpa using d,by simpa using e,fun j hj=>?_⟩
    cases j with
    |zero=>simpa using a
    |succ j=>simpa using f j (by omega)
theorem Y2 {l:List A9}{n:Int}(h:Dt l n=none):∀ t∈l,t.txn≠n:=by
 induction l with
 |nil=>intro t a;cases a
 |cons t l c=>
  unfold Dt at h
  split at h
  ·cases h
  ·rename_i a
   cases b:Dt l n with
   |some k=>rw[b]at h;cases h
   |none=>
    intro u d;rcases List.mem_cons.1 d with e|e
    ·rw[e];exact a
    ·exact c b u e
theorem iF {l:List A9}{n:Int}{i:Nat}(hi:i<l.length)(h:l[i].txn=n)(b:∀ j (hj:j<i),l[j].txn≠n):Dt l n=some i:=by
 cases a:Dt l n with
 |none=>exact absurd h (Y2 a _ (List.getElem_mem hi))
 |some k=>
  obtain⟨e,c,d⟩:=Jh a;rcases Nat.lt_trichotomy k i with h4|h4|h4
  ·exact absurd c (b k h4)
  ·rw[h4]
  ·exact absurd h (d i h4)
theorem iG {l:List A9}{n:Int}(h:∀ t∈l,t.txn≠n):Dt l n=none:=by
 cases a:Dt l n with
 |none=>rfl
 |some k=>obtain⟨b,c,_⟩:=Jh a;exact absurd c (h _ (List.getElem_mem b))
def E3 (l:List A9)(r:Rec):List A9:=
 if ¬ Lq r then l else
 match Dt l r.txn with
 |none=>if r.kind=7 then l else l++[P6 r ⟨r.txn,0,0,false⟩]
 |some i=>if r.kind=7 then l.take i++l.drop (i+1)else l.take i++P6 r (l[i]?.getD ⟨0,0,0,false⟩)::l.drop (i+1)
theorem iH (l:List A9)(r:Rec):(E3 l r).length≤l.length+1:=by
 unfold E3
 split
 ·omega
 ·cases a:Dt l r.txn with
  |none=>simp only;split<;>simp
  |some i=>
   obtain⟨b,_⟩:=Jh a;simp only
   split
   ·rw[List.length_append,List.length_take,List.length_drop];omega
   ·rw[List.length_append,List.length_take,List.length_cons,List.length_drop];omega
structure St where
 zlog:Int
 zpages:Int
 zframes:Int
 As:Dk
 log:Lo
 hand:Int
 txns:List A9
 next:Int
noncomputable def J4 (s:St) (r:Rec):St×Int:=
 if(Aw s.log r).2.2=0 then({s with log:=(Aw s.log r).1,txns:=E3 s.txns {r with lsn:=(Aw s.log r).2.1}},0)else(s,(Aw s.log r).2.2)
noncomputable def Js (s:St):St×Int×Int:=
 if(J4 s (bare 1 0 0 s.next)).2=0 then({(J4 s (bare 1 0 0 s.next)).1 with next:=s.next+1},s.next,0)else(s,0,(J4 s (bare 1 0 0 s.next)).2)
def fresh (n:Nat):St:=⟨n,0,0,K6 (n+1),⟨1,n,0,0,⟨#[]⟩⟩,0,[],1⟩
end Tx
namespace Lg
open Rc
theorem Y3 (n:Nat):Whole (K6 n).sectors:=fun b a=>by
 have:b=Cf:=by
  have h:=List.mem_replicate.1 a;exact h.2
 rw[this];exact Ku
theorem Gn.pM {N:Nat}{d:Dk}{g:Lo}{a b:List Rec}(h:Gn 1 N d g a b)(c:N≤4000):0≤g.end_∧g.end_≤512000∧(g.tail.size:Int)≤g.end_∧g.end_%128≤(g.tail.size:Int)∧g.from_=1∧g.n=(N:Int)∧0≤g.safe∧g.safe≤g.end_:=by
 have e:=h.end_;have f:=h.O5;have i:=h.fit;have j:=I2 a b;have k:=h.safe;exact⟨by omega,by omega,by omega,by omega,h.hf,h.hn,by omega,by omega⟩
end Lg
namespace Tx
open Rc Lg
def Good (N:Nat)(s:St):Prop:=∃ r1 r2,Gn 1 N s.As s.log r1 r2∧s.As.down=false∧s.As.left= -1∧s.As.sectors.length=N+1∧gW (Gs 1 N s.As) r1∧(r1++r2).foldl E3 []=s.txns
def Has (L:List Rec)(x:Int):Prop:=∃ r∈L,r.kind=5∧r.txn=x
end Tx
namespace Lg
open Rc
end Lg
namespace Tx
open Rc Lg
theorem pN {s:St}{r:Rec}{g:Lo}(h:Aw s.log r=(g,s.log.end_+1,0)):J4 s r=({s with log:=g,txns:=E3 s.txns {r with lsn:=s.log.end_+1}},0):=by
 unfold J4;rw[h];simp only;rw[if_pos trivial]
structure Y4 (s:St):Prop where
 e0:0≤s.log.end_
 e1:s.log.end_≤512000
 t0:(s.log.tail.size:Int)≤s.log.end_
 t1:s.log.end_%128≤(s.log.tail.size:Int)
 f:s.log.from_=1
 n0:0≤s.log.n
 n1:s.log.n≤4000
 s0:0≤s.log.safe
 s1:s.log.safe≤s.log.end_
theorem eK {N:Nat}{d:Dk}{s:St}{a b:List Rec}(h:Gn 1 N d s.log a b)(c:N≤4000):Y4 s:=by
 obtain⟨e,a2,a3,a4,a5,i,f,g⟩:=h.pM c;exact⟨e,a2,a3,a4,a5,by omega,by omega,f,g⟩
def R5:Option Nat→Int
 |none=> -1
 |some k=>(k:Int)
end Tx
namespace Go.Proofs.YtmldoihahndcgaaGreatDoor
open Go.RowKit
theorem iI (t:Rc.A9)(n:Int)(g:Nat)(w:World)(h:w.cell? ⟨g,0,none⟩=some (.int .i64 n)):
 Cr 303 #[tW t,.pointer (some ⟨g,0,none⟩)] w (.bool (decide (t.txn=n))):=by
 obtain⟨a,b,c,d⟩:=t;have f:g<w.heap.size:=by
  rcases Nat.lt_or_ge g w.heap.size with h1|h1
  ·exact h1
  ·unfold World.cell? at h
   rw[Array.getElem?_eq_none h1]at h
   cases h
 have j:(w.alloc (.cells #[a,b,c,d] 134)).cell? ⟨g,0,none⟩=some (.int .i64 n):=((Ab w _).cell (p:=⟨g,0,none⟩) f).trans h;simp only
 by_cases e:a=n
 ·subst e
  rw[decide_eq_true rfl];have i:(a==a)=true:=by simp
  go_enter Tryz.func303,Tryz.ntmps303;go_wp2_with fail;go_ret;exact⟨by simp,Ab _ _⟩
 ·rw[decide_eq_false e]
  have i:(a==n)=false:=by simpa using e
  clear e;go_enter Tryz.func303,Tryz.ntmps303;go_wp2_with fail;go_ret;exact⟨by simp[*],Ab _ _⟩
def Gt (o:Option Nat)(w:World)(e:Ending)(w':World):Prop:=e= .returned (.int .i64 (Tx.R5 o))∧Bw w w'
theorem cC (l:List Rc.A9)(n:Int)(Z:l.length≤140737488355328)(A:Option Addr)(c g:Nat)(w:World)(G:Wv w A c l)(H:w.cell? ⟨g,0,none⟩=some (.int .i64 n))(u:g<w.heap.size):
 Cq 176 #[.slice A l.length c,.func (.func 303) #[] #[.pointer (some ⟨g,0,none⟩)]] w (Gt (Tx.Dt l n) w):=by
 have L:=Hq G;have M:=Hq (fun t W (m:Bw w W)=>iI t n g W ((m.cell (p:=⟨g,0,none⟩) u).trans H));have I:=Hq (fun(k:Nat) w' (hk:k<l.length) (h1:l[k].txn=n) (B:∀ j (b:j<k),l[j].txn≠n) (m:Bw w w')=>show Gt (Tx.Dt l n) w (.returned (.int .i64 (k:Int))) w' from⟨by rw[Tx.iF hk h1 B];rfl,m⟩);have J:=Hq (fun w' (B:∀ j (b:j<l.length),l[j].txn≠n) (m:Bw w w')=>show Gt (Tx.Dt l n) w (.returned (.int .i64 (-1))) w' from⟨by
  rw[Tx.iG fun t N=>by
   obtain⟨j,b,rfl⟩:=List.getElem_of_mem N;exact B j b]
  rfl,m⟩)
 generalize Gt (Tx.Dt l n) w=Q at I J ⊢;clear G H u;go_enter Tryz.func176,Tryz.ntmps176;go_wp2_with fail
 go_loopw [8] (fun i wr=>∃ k:Nat,k≤l.length∧i= .int .i64 k∧(∀ j (b:j<l.length),j<k→l[j].txn≠n)∧Bw w wr) (fun i _=>l.length-(intOf i).toNat)
 case atStart=>exact⟨0,Nat.zero_le _,rfl,fun _ _ h=>absurd h (by omega),Below.refl _ _⟩
 case round=>
  obtain⟨k,hk,rfl,q,o⟩:=hrel;have C:=Hq q;have d:=Hq o;clear q
  by_cases v:k<l.length
  ·obtain⟨b',off,rfl,hc,O,a⟩:=Bu Dw (L.out.below o) v
   have K:=a 0 _ rfl;have P:=a 1 _ rfl;have R:=a 2 _ rfl;have S:=a 3 _ rfl;clear a o;simp only[Nat.add_zero]at K;have y:=Hq (show ¬ l[k].txn=n→∀ j (b:j<l.length),j<k+1→l[j].txn≠n from fun h j b D=>by
    rcases Nat.lt_or_eq_of_le (Nat.le_of_lt_succ D)with h1|h1
    ·exact C.out j b h1
    ·subst h1;exact h)
   have z:=Hq (show l[k].txn=n→∀ w',Bw w w'→Q (.returned (.int .i64 (k:Int))) w' from fun h w' m=>I.out k w' v h (fun j b=>C.out j (by omega) b) m);have f:=Hq (fun W m=>M.out l[k] W m);generalize l[k]=x at K P R S z y f;have T:IntKind.i64.wrap ((k:Int)+1)=(k:Int)+1:=IntWalk.i64_in _ (by omega)
   by_cases s:x.txn=n
   ·have E:=Hq (z.out s)
    rw[decide_eq_true s]at f;clear z y s;obtain⟨U,V,X,fd⟩:=x
    go_wp2_with((go_at_call 303;(with_reducible refine(f.out _ d.out).mono ?_);rintro e w' ⟨rfl,r⟩))
    exact E.out _ (Ad d.out r)
   ·have F:=Hq (y.out s)
    rw[decide_eq_false s]at f;clear z y s;obtain⟨U,V,X,fd⟩:=x
    go_wp2_with((go_at_call 303;(with_reducible refine(f.out _ d.out).mono ?_);rintro e w' ⟨rfl,r⟩))
    go_roundw
    case rel=>exact⟨k+1,by omega,by go_num,F.out,Ad d.out r⟩
    case measure=>simp[intOf];omega
  ·obtain rfl:k=l.length:=by omega
   have Y:=Hq (J.out wr (fun j b=>C.out j b b) d.out);clear o;go_wp2_with fail;exact Y.out
theorem cD (l:List Rc.A9)(n:Int)(g:l.length≤140737488355328)(A:Option Addr)(c:Nat)(w:World)(f:Wv w A c l):
 Cq 255 #[.slice A l.length c,n] w (Gt (Tx.Dt l n) w):=by
 have a:=Hq (cC l n g A c w.heap.size (w.alloc (.cells #[n] 3)) (f.below (Ab w _)) (by rw[World.cell?_alloc_new];rfl) (by simp));have b:=Hq (fun w' (d:Bw w w')=>show Gt (Tx.Dt l n) w (.returned (.int .i64 (Tx.R5 (Tx.Dt l n)))) w' from⟨rfl,d⟩);generalize Gt (Tx.Dt l n) w=Q at b ⊢;unfold Gt at a;generalize Tx.R5 (Tx.Dt l n)=r at a b;clear f;go_enter Tryz.func255,Tryz.ntmps255
 go_wp2_with((go_at_call 176;(with_reducible refine a.out.mono ?_);rintro e w' ⟨rfl,d⟩))
 exact b.out _ (Ad (Ab _ _) d)
theorem V2:(Tryz.prog.info? 134).map (fun i=>(i.zero,i.size,i.bytes))=some (some (.agg #[(),(),(),false]),4,32):=by kernel_rfl
theorem eL (t:Rc.A9):∀ u∈Fz t,u.oneCell'=true:=by
 intro u a;simp only[Fz,List.mem_cons,List.not_mem_nil,or_false]at a;rcases a with rfl|rfl|rfl|rfl<;>rfl
theorem Qp (l:List Rc.A9):∀ u∈l.flatMap Fz,u.oneCell'=true:=by
 intro u a;obtain⟨t,_,b⟩:=List.mem_flatMap.1 a;exact eL t u b
theorem mY {w:World}{B size n c g:Nat}{e:TypeId}{xs:List Value}(h:w.ownsRow B e size (.slice (some ⟨g,0,none⟩) n c) n xs)(j:Nat)(o:j<n*size):
 w.cell? ⟨g,j,none⟩=xs[j]?∧w.frozen? ⟨g,j,none⟩=false∧∀ x,(w.setCell ⟨g,j,none⟩ x).ownsRow B e size (.slice (some ⟨g,0,none⟩) n c) n (xs.set j x):=by
 obtain⟨q,r⟩:=h;rcases r with⟨s,_⟩|⟨z,cap,cur,t,u,f,p,d,k,a⟩
 ·cases s
 ·injection t with b v l
  injection b with b
  injection b with b _ _
  subst b l;have y:n*size≤c*size:=Nat.mul_le_mul_right _ p;refine⟨?_,Ap f j,fun x=>⟨by rw[List.length_set];exact q,.inr ⟨g,c,cur.setIfInBounds j x,rfl,u,Cb j f x,p,d,by rw[Array.size_setIfInBounds];exact k,?_⟩⟩⟩
  ·rw[Aa f j,← a,List.getElem?_take,if_pos o,Array.getElem?_toList]
  ·rw[← a]
   refine List.ext_getElem? fun i=>?_;rw[List.getElem?_set,List.getElem?_take,List.length_take,List.getElem?_take,Array.toList_setIfInBounds,List.getElem?_set];have A:cur.toList.length=cur.size:=by simp
   by_cases m:j=i
   ·subst m
    rw[if_pos rfl,if_pos rfl,if_pos o,if_pos (by omega),if_pos (by omega)]
   ·rw[if_neg m,if_neg m]
theorem Ry {α:Type}{enc:α→List Value}{k:Nat}(hk:∀ x,(enc x).length=k):∀ (l:List α) (j f:Nat) (y:α) (x:Value) (hj:j<l.length),f<k→enc y=(enc l[j]).set f x→(l.flatMap enc).set (j*k+f) x=(l.set j y).flatMap enc:=by
 intro l
 induction l with
 |nil=>intro j f y x hj;simp at hj
 |cons a l ih=>
  intro j f y x hj c b
  cases j with
  |zero=>
   simp only[List.getElem_cons_zero]at b;rw[List.flatMap_cons,List.set_cons_zero,List.flatMap_cons,b,Nat.zero_mul,Nat.zero_add,List.set_append_left _ _ (by rw[hk];exact c)]
  |succ j=>
   simp only[List.getElem_cons_succ]at b;rw[List.flatMap_cons,List.set_cons_succ,List.flatMap_cons,List.set_append_right _ _ (by rw[hk,Nat.succ_mul];omega)]
   congr 1
   rw[show(j+1)*k+f-(enc a).length=j*k+f by rw[hk,Nat.succ_mul];omega];exact ih j f y x (by simpa using hj) c b
theorem Kw {g:Nat}{T:TypeId}{fr:Nat×Nat}:∀ (vs:List Value) (o:Nat) (cs:Array Value) (w:World),w.heap[g]? =some (.cells cs T fr)→∃ cs':Array Value,(w.setCells g o vs).heap[g]? =some (.cells cs' T fr)∧cs'.size=cs.size∧∀ j,cs'[j]? =if o≤j∧j<o+vs.length∧j<cs.size then vs[j-o]? else cs[j]? :=by
 intro vs
 induction vs with
 |nil=>intro o cs w h;exact⟨cs,h,rfl,fun j=>by rw[if_neg (by simp;omega)]⟩
 |cons v vs ih=>
  intro o cs w h;obtain⟨cs',d,f,i⟩:=ih (o+1) _ _ (Cb o h v);refine⟨cs',d,by rw[f,Array.size_setIfInBounds],fun j=>?_⟩;rw[i,Array.size_setIfInBounds,Array.getElem?_setIfInBounds]
  by_cases b:j=o
  ·subst b
   rw[if_neg (by omega),if_pos rfl]
   by_cases a:j<cs.size
   ·rw[if_pos a,if_pos ⟨Nat.le_refl _,by simp,a⟩,Nat.sub_self];rfl
   ·rw[if_neg a,if_neg (by omega),Array.getElem?_eq_none (by omega)]
  ·by_cases c:o+1≤j∧j<o+1+vs.length∧j<cs.size
   ·rw[if_pos c,if_pos (by simp;omega)]
    obtain⟨m,rfl⟩:∃ m,j=o+1+m:=⟨j-(o+1),by omega⟩;rw[show o+1+m-(o+1)=m by omega,show o+1+m-o=m+1 by omega,List.getElem?_cons_succ]
   ·rw[if_neg c,if_neg (fun e=>b e.symm),if_neg (by simp;omega)]
theorem I3 {B g:Nat}(a:B≤g):∀ (vs:List Value) (o:Nat) (w:World),Below B w (w.setCells g o vs):=by
 intro vs
 induction vs with
 |nil=>intro o w;exact Below.refl _ _
 |cons v vs b=>
  intro o w;exact((Below.refl B w).setCell (p:=⟨g,o,none⟩) a v).trans (b (o+1) _)
theorem R6 (l:List Rc.A9)(q:l.length≤1000000)(A:Option Addr)(c:Nat)(w:World)(a:Wv w A c l):
 Cq 180 #[.slice A l.length c] w fun e w'=>∃ v,e= .returned v∧En Fz 4 134 w.heap.size w' v l∧Bw w w':=by
 obtain⟨i0,k,d,f,g⟩:=info_parts V2;have m:=Hq a
 cases A with
 |none=>
  have h:l=[]:=by
   rcases Nat.eq_zero_or_pos l.length with h0|h0
   ·exact List.eq_nil_of_length_eq_zero h0
   ·obtain⟨b,off,e,_⟩:=a h0
    cases e
  subst h;clear a m;have n:∀ w,(binOp .eql 34 (.slice none 0 c) (.slice none 0 0)).run Tryz.prog w= .ok (.bool true) w:=fun w=>Lib.run_eql_slice_nil w 34 134 none 0 c 0 0 cE;simp only[List.length_nil];go_enter Tryz.func180,Tryz.ntmps180;go_wp2_with fail;go_ret;exact⟨_,rfl,Q5 _ _ _ _,Below.refl _ _⟩
 |some ad=>
  have i:=Hq (a.below (Ab w (.cells #[] 134)));have n:∀ w,(binOp .eql 34 (.slice (some ad) l.length c) (.slice none 0 0)).run Tryz.prog w= .ok (.bool false) w:=fun w=>Lib.run_eql_slice_nil w 34 134 (some ad) l.length c 0 0 cE;clear a;go_enter Tryz.func180,Tryz.ntmps180
  go_wp2_with(at_builtin;refine Cw Kr fun K o=>Ki (w.alloc (.cells #[] 134)) (.tmp 5) (.tmp 6) 34 134 i0 (.agg #[(),(),(),false]) 4 32 cE k d f g rfl (by omega) rfl w.heap.size _ 0 [] rfl (Jt w 134 4) (some ad) l.length c (l.flatMap Fz) rfl i.out (by rw[Cc Dw]) (Qp l) (by omega) (by omega) (by simp) ?_;intro v2 r j s p;refine o _ _ ?_)
  go_ret;rw[List.nil_append,Nat.zero_add]at j;exact⟨_,rfl,j,(Ab w (.cells #[] 134)).trans p⟩
def rN (n:Nat):List Value:=(Builtin.zeroCells (Value.cells (.agg #[(),(),(),false])) n).toList
theorem eM (n:Nat):(rN n).length=n*4:=by simp[rN,Builtin.zeroCells,Value.cells]
theorem V3 (w:World)(b o n c:Nat)(l:0<n)(f:∀ j,j<n*4→(w.cell? ⟨b,o+j,none⟩).isSome=true)(g:∀ j,j<n*4→w.frozen? ⟨b,o+j,none⟩=false)(ty:TypeId):
 (Builtin.clear_ #[34] ty #[.slice (some ⟨b,o,none⟩) n c]).run Tryz.prog w= .ok (.tuple #[]) (w.setCells b o (rN n)):=by
 have h:∀ w,(zeroValue 134).run Tryz.prog w= .ok (.agg #[(),(),(),false]) w:=Tryz.zeroValue134;have a:=run_storeCells_cells (P:=Tryz.prog) b o (rN n) 0 w (by rw[eM];simpa using f) (by rw[eM];simpa using g) (by
  intro v d
  simp[rN,Builtin.zeroCells,Value.cells]at d
  obtain⟨i,_,rfl⟩:=d;have e:i%4<4:=Nat.mod_lt _ (by omega);generalize i%4=k at e;rcases k with _|_|_|_|k
  ·rfl
  ·rfl
  ·rfl
  ·rfl
  ·omega)
 simp only[Nat.add_zero]at a;unfold rN at a ⊢;obtain⟨m,rfl⟩:∃ m,n=m+1:=⟨n-1,by omega⟩
 simp[Builtin.clear_,run_underlying cE,h,a]
theorem Y5 (l:List Rc.A9)(hl:l.length≤1000000)(i:Nat)(hi:i<l.length)(B g c:Nat)(w:World)(ho:En Fz 4 134 B w (.slice (some ⟨g,0,none⟩) l.length c) l):
 Cq 256 #[.slice (some ⟨g,0,none⟩) l.length c,.int .i64 (i:Int),.int .i64 ((i:Int)+1)] w fun e w'=>∃ v,e= .returned v∧En Fz 4 134 B w' v (l.take i++l.drop (i+1))∧Below B w w':=by
 obtain⟨i0,N,aq,O,ar⟩:=info_parts V2;obtain⟨n,P⟩:=ex l.length;obtain⟨j,hj⟩:=ex (i+1);have x:((i:Int)+1)=(j:Int):=by omega
 rw[x];have HO:=Hq ho;obtain⟨y,h2⟩:=ho;rcases h2 with⟨Q,_⟩|⟨g',cap,cur,hv,p,hh,R,k,T,b⟩
 ·cases Q
 injection hv with f au U
 injection f with f
 injection f with f _ _
 subst f U;rw[← P]at R b y hl hi ⊢;have J:=Hq hh;have HT:=Hq b;have av:i≤j:=by omega
 have aw:j≤n:=by omega
 have ax:((i:Int)==(j:Int))=false:=by simp;omega
 have ag:(i:Int)≤(j:Int):=by omega
 have ah:(j:Int)≤(n:Int):=by omega
 have ai:(n:Int)≤(c:Int):=by omega
 have aj:(j:Int)≤(c:Int):=by omega
 have ak:(i:Int)≤(c:Int):=by omega
 have V:c≤maxLen:=k;have W:=Hq P;have X:=Hq hj;clear y hh b k HO P hj x;go_enter Tryz.func256,Tryz.ntmps256;obtain⟨news,a⟩:=ex ((l.drop j).flatMap Fz);have d:news.length=(n-j)*4:=by rw[a,Cc Dw,List.length_drop,W.out]
 have Y:=Hq a;have Z:=Hq (show ∀ u∈news,u.oneCell'=true from by rw[a];exact Qp _);obtain⟨M,a1,o⟩:∃ M:Addr,(if c=j then(some ⟨g,0,none⟩:Option Addr)else some ⟨g,j*4,none⟩)=some M∧∀ t u,news[t]? =some u→w.drew.cell? (M.add t)=some u:=by
  by_cases z:c=j
  ·refine⟨_,by rw[if_pos z],fun t u A=>?_⟩
   have Q:news.length=0:=(by rw[d];omega);rw[List.length_eq_zero_iff.1 Q]at A
   simp at A
  ·refine⟨_,by rw[if_neg z],fun t u A=>?_⟩
   have q:t<(n-j)*4:=(by rw[← d];exact(List.getElem?_eq_some_iff.1 A).1);rw[Addr.add_mid]
   show w.cell? ⟨g,j*4+t,none⟩=some u
   rw[Aa J.out,← A,a];have h5:(l.flatMap Fz)[j*4+t]? =((l.drop j).flatMap Fz)[t]? :=by
    have h6:l.flatMap Fz=(l.take j).flatMap Fz++(l.drop j).flatMap Fz:=(by rw[← List.flatMap_append,List.take_append_drop]);have h7:((l.take j).flatMap Fz).length=j*4:=(by rw[Cc Dw,List.length_take];have:=W.out;omega);rw[h6,List.getElem?_append_right (by omega),h7,Nat.add_sub_cancel_left]
   rw[← h5,← HT.out,List.getElem?_take,if_pos (by omega),Array.getElem?_toList]
 have C:=Hq o;have a6:=Hq (show ∀ t,t<news.length→(w.drew.cell? ⟨g,0+i*4+t,none⟩).isSome=true∧w.drew.frozen? ⟨g,0+i*4+t,none⟩=false from fun t q=>by
  rw[d]at q;refine⟨?_,Ap (show w.drew.heap[g]? =_ from J.out) _⟩
  show(w.cell? ⟨g,0+i*4+t,none⟩).isSome=true
  rw[Aa J.out,Array.getElem?_eq_getElem (by omega)]
  rfl)
 obtain⟨m,hm⟩:=ex (i+(n-j));have a7:m<n:=by have:=X.out;omega
 have D:m+1=n:=by have:=X.out;omega
 obtain⟨W1,r⟩:=ex (w.drew.setCells g (0+i*4) news);obtain⟨E,F,k2,k3⟩:=Kw news (0+i*4) cur w.drew J.out;rw[← r]at F;have ay:=fun ty=>V3 W1 g (m*4) (n-m) (c-m) (by omega) (fun t q=>by rw[Aa F,Array.getElem?_eq_getElem (by omega)];rfl) (fun t q=>Ap F _) ty;have a8:=Hq F;have aa:=Hq k2;have ad:=Hq k3;have G:=Hq r;have HM:=Hq hm;have H:=Hq d;have s:i+(n-j)≤c:=by omega
 have az:(m:Int)≤(n:Int):=by omega
 have an:(m:Int)≤(c:Int):=by omega
 have ao:¬ c=m:=by omega
 clear a o hm D r F k2 k3 d a7;go_upto_region 5 with fail;refine Gd (S:=(fun _=>True)) (fun h=>?_) (by trivial);refine Au 0 ?_;refine Au 1 ?_;refine Au 2 ?_;refine Au 3 ?_;refine Au 4 ?_;refine Au 5 ?_;refine Ch 6 fun K hK=>?_
 try rw[a1]
 refine step_append_room rfl (.tmp 22) (.tmp 25) 34 rfl 134 i0 4 cE N O g 0 i c rfl M (n-j) (c-j) news rfl H.out C.out Z.out s a6.out ?_;rw[← G.out,← HM.out];refine Bq hK (fun h=>?_) (by trivial);clear hK K;refine Au 7 ?_
 try simp only[Act.put,List.setIfInBounds_toArray,List.set_cons_zero]
 refine wpAnyH_done Kr ?_ _;clear h;go_wp2_with fail;go_ret;obtain⟨I,q1,q2,q3⟩:=Kw (rN (n-m)) (m*4) E W1 a8.out;have b0:=W.out;have ae:=X.out;have b1:=HM.out;have af:=aa.out;refine⟨_,rfl,?_,?_⟩
 ·have hlen:(l.take i++l.drop (i+1)).length=m:=by rw[List.length_append,List.length_take,List.length_drop];omega
  show World.ownsRow _ B 134 4 _ (l.take i++l.drop (i+1)).length ((l.take i++l.drop (i+1)).flatMap Fz)
  rw[hlen];refine⟨by rw[Cc Dw,hlen],.inr ⟨g,c,I,rfl,p,q1,by omega,V,by rw[q2,af];exact T,?_⟩⟩;have e1:((l.take i).flatMap Fz).length=i*4:=by rw[Cc Dw,List.length_take];omega
  have e2:l.flatMap Fz=(l.take i).flatMap Fz++(l.drop i).flatMap Fz:=by rw[← List.flatMap_append,List.take_append_drop]
  refine List.ext_getElem? fun t=>?_;rw[List.getElem?_take]
  by_cases q:t<m*4
  ·rw[if_pos q,Array.getElem?_toList,q3,if_neg (by omega),ad.out,List.flatMap_append]
   by_cases b2:t<i*4
   ·rw[if_neg (by omega),List.getElem?_append_left (by omega)]
    have h8:=congrArg (fun L=>L[t]?) HT.out;simp only[List.getElem?_take]at h8;rw[if_pos (by omega),Array.getElem?_toList,e2,List.getElem?_append_left (by omega)]at h8;exact h8
   ·have d:=H.out
    rw[if_pos (by omega),List.getElem?_append_right (by omega),e1,Y.out,ae]
    congr 1
    omega
  ·rw[if_neg q,List.getElem?_eq_none (by rw[Cc Dw,hlen];omega)]
 ·rw[G.out]
  exact(((Below.refl B w).drew).trans (I3 p _ _ _)).trans (I3 p _ _ _)
end Go.Proofs.YtmldoihahndcgaaGreatDoor
namespace Tx
open Rc
theorem mZ {l:List A9}{r:Rec}(h:¬ Lq r):E3 l r=l:=by unfold E3;rw[if_pos h]
theorem cF {l:List A9}{r:Rec}(h:Lq r)(a:Dt l r.txn=none)(hk:r.kind=7):E3 l r=l:=by unfold E3;rw[if_neg (fun b=>b h),a];simp only;rw[if_pos hk]
theorem iJ {l:List A9}{r:Rec}(h:Lq r)(a:Dt l r.txn=none)(hk:¬ r.kind=7):E3 l r=(l++[(⟨r.txn,0,0,false⟩:A9)]).set l.length (P6 r ⟨r.txn,0,0,false⟩):=by
 unfold E3;rw[if_neg (fun b=>b h),a];simp only;rw[if_neg hk,List.set_append_right _ _ (Nat.le_refl _),Nat.sub_self];rfl
theorem iK {l:List A9}{r:Rec}{i:Nat}(h:Lq r)(a:Dt l r.txn=some i)(hk:r.kind=7):E3 l r=l.take i++l.drop (i+1):=by unfold E3;rw[if_neg (fun b=>b h),a];simp only;rw[if_pos hk]
theorem iL {l:List A9}{r:Rec}{i:Nat}(h:Lq r)(a:Dt l r.txn=some i)(hk:¬ r.kind=7)(hi:i<l.length):E3 l r=l.set i (P6 r l[i]):=by
 unfold E3;rw[if_neg (fun b=>b h),a];simp only;rw[if_neg hk,List.getElem?_eq_getElem hi,Option.getD_some,List.set_eq_take_append_cons_drop,if_pos hi]
end Tx
namespace Go.Proofs.YtmldoihahndcgaaGreatDoor
open Go.RowKit
theorem Ff {w:World}{B g N c:Nat}{M:List Rc.A9}(h:w.ownsRow B 134 4 (.slice (some ⟨g,0,none⟩) N c) N (M.flatMap Fz))(j:M.length=N)(k:Nat)(hk:k<M.length)(f:Nat)(a:f<4)(x:Value)(y:Rc.A9)(b:Fz y=(Fz M[k]).set f x):
 w.cell? ⟨g,k*4+f,none⟩=(Fz M[k])[f]?∧w.frozen? ⟨g,k*4+f,none⟩=false∧(w.setCell ⟨g,k*4+f,none⟩ x).ownsRow B 134 4 (.slice (some ⟨g,0,none⟩) N c) N ((M.set k y).flatMap Fz):=by
 obtain⟨d,e,i⟩:=mY h (k*4+f) (by omega);refine⟨by rw[d,Ih Dw M k f hk a],e,?_⟩;rw[← Ry Dw M k f y x hk a b];exact i x
theorem Ji {w:World}{B size n:Nat}{e:TypeId}{v:Value}{xs:List Value}(h:w.ownsRow B e size v n xs)(d:0<n):∃ g c,v= .slice (some ⟨g,0,none⟩) n c∧B≤g:=by
 rcases h.2 with⟨_,f⟩|⟨g,cap,cur,a,b,_⟩
 ·omega
 ·exact⟨g,cap,a,b⟩
def Mf (l:List Rc.A9)(A:Option Addr)(w:World)(e:Ending)(w':World):Prop:=
 ∃ A' c',e= .returned (.slice A' l.length c')∧Wv w' A' c' l∧(A'=A∨Cp w.heap.size w' 134 A')∧Bw w w'
theorem nA {l:List Rc.A9}{A:Option Addr}{w w':World}{g N c B:Nat}(h:w'.ownsRow B 134 4 (.slice (some ⟨g,0,none⟩) N c) N (l.flatMap Fz))(a:l.length=N)(b:w.heap.size≤B)(d:Bw w w'):Mf l A w (.returned (.slice (some ⟨g,0,none⟩) N c)) w':=by
 subst a;exact⟨_,_,rfl,Dr h,.inr ((Cp.own h).mono b),d⟩
theorem iM (l:List Rc.A9)(hl:l.length≤900000)(A:Option Addr)(c:Nat)(r:Rc.Rec)(AT AD:Option Addr)(n1 c1 m1 d1:Nat)(w:World)(hr:Wv w A c l):
 Cq 202 #[.slice A l.length c,D7 r (.slice AT n1 c1) (.slice AD m1 d1)] w (Mf (Tx.E3 l r) A w):=by
 have HR:=Hq hr;have o:=Hq (fun w' (h:Tx.E3 l r=l) (hb:Bw w w')=>show Mf (Tx.E3 l r) A w (.returned (.slice A l.length c)) w' from by rw[h];exact⟨A,c,rfl,hr.below hb,.inl rfl,hb⟩);have K:=Hq (fun(M:List Rc.A9) (g N c B:Nat) w' (h:Tx.E3 l r=M) (ho:w'.ownsRow B 134 4 (.slice (some ⟨g,0,none⟩) N c) N (M.flatMap Fz)) (hN:M.length=N) (hB:w.heap.size≤B) (hb:Bw w w')=>show Mf (Tx.E3 l r) A w (.returned (.slice (some ⟨g,0,none⟩) N c)) w' from by rw[h];exact nA ho hN hB hb);have Y:=Hq (fun(M:List Rc.A9) (v:Value) (B:Nat) w' (h:Tx.E3 l r=M) (ho:En Fz 4 134 B w' v M) (hB:w.heap.size≤B) (hb:Bw w w')=>show Mf (Tx.E3 l r) A w (.returned v) w' from by
  rw[h];obtain⟨A2,c2,rfl⟩:=Kh ho;exact⟨_,_,rfl,Dr ho,.inr ((Cp.own ho).mono hB),hb⟩)
 have N0:=Hq (@Tx.mZ l r);have N1:=Hq (@Tx.cF l r);have N2:=Hq (@Tx.iJ l r);have N3:=Hq (fun i=> @Tx.iK l r i);have N4:=Hq (fun i=> @Tx.iL l r i);have ae:=Hq (fun n W (hb:Bw w W)=>cD l n (by omega) A c W (hr.below hb));have a1:=Hq (fun W (hb:Bw w W)=>R6 l (by omega) A c W (hr.below hb));generalize Tx.E3 l r=R at*;generalize Mf R A w=Q at o K Y ⊢;clear hr;obtain⟨a,prev,u,kind,Ac,next,nu,⟨ok,os,oo,on⟩,S,root,⟨ek,ep,es⟩,ts,ds⟩:=r;dsimp only[D7,Dz];obtain⟨W0,x⟩:=ex (w.alloc (.cells (Ct a prev u kind Ac next nu ok os oo on S root ek ep es (.slice AT n1 c1) (.slice AD m1 d1)) 88));have H0:=Hq (show W0.heap[w.heap.size]? =some (.cells (Ct a prev u kind Ac next nu ok os oo on S root ek ep es (.slice AT n1 c1) (.slice AD m1 d1)) 88 (0,0))from by rw[x];exact heap_alloc_new _ _);have B0:=Hq (show Bw w W0 from by rw[x];exact Ab _ _);have au:=Aa H0.out
 by_cases T:Tx.Lq ⟨a,prev,u,kind,Ac,next,nu,⟨ok,os,oo,on⟩,S,root,⟨ek,ep,es⟩,ts,ds⟩
 rotate_left
 ·have HS:=Hq (N0.out T)
  unfold Tx.Lq at T;simp only at T;clear N0 N1 N2 N3 N4 ae a1 K Y HR
  by_cases h1:u<1
  ·go_enter Tryz.func202,Tryz.ntmps202
   go_upto_region 1 with fail;rw[← x];clear x;go_wp2_with fail;exact o.out _ HS.out B0.out
  by_cases h2:kind<1
  ·go_enter Tryz.func202,Tryz.ntmps202
   go_upto_region 1 with fail;rw[← x];clear x;go_wp2_with fail;exact o.out _ HS.out B0.out
  by_cases h3:kind=8
  ·have b1:(kind==8)=true:=by simpa using h3
   clear T h3;go_enter Tryz.func202,Tryz.ntmps202;go_upto_region 1 with fail;rw[← x];clear x;go_wp2_with fail;exact o.out _ HS.out B0.out
  ·have b1:(kind==8)=false:=by simpa using h3
   have h4:9≤kind:=(by omega);clear T h3;go_enter Tryz.func202,Tryz.ntmps202;go_upto_region 1 with fail;rw[← x];clear x;go_wp2_with fail;exact o.out _ HS.out B0.out
 have af:=Hq T;unfold Tx.Lq at T;simp only at T;have h1:¬ u<1:=by omega
 have h2:¬ kind<1:=by omega
 have h3:(kind==8)=false:=by simp;omega
 have h4:¬ 9≤kind:=by omega
 have av:=Hq (show 1≤kind∧kind≤7 from T.2);have C:=ae.out u W0 B0.out;unfold Gt at C;clear N0 T
 cases hp:Tx.Dt l u with
 |none=>
  rw[hp]at C;simp only[Tx.R5]at C
  by_cases I:kind=7
  ·have HS:=Hq (N1.out af.out hp I)
   have ag:(kind==7)=true:=(by simpa using I);clear N1 N2 N3 N4 ae a1 K Y HR hp I;go_enter Tryz.func202,Tryz.ntmps202;go_upto_region 1 with fail;rw[← x];clear x
   go_upto_region 4 with(go_at_call 255;(with_reducible refine C.mono ?_);rintro e w1 ⟨rfl,q⟩;have a6:=Aa (Ae H0.out q))
   have H1:=Hq (Ae H0.out q);have B1:=Hq (Ad B0.out q);clear q a6 au;have ah:=Aa H1.out;go_wp2_with fail;exact o.out _ HS.out B1.out
  ·have D:=Hq (N2.out af.out hp I)
   have ag:(kind==7)=false:=(by simpa using I);clear N1 N2 N3 N4 ae Y HR hp o;go_enter Tryz.func202,Tryz.ntmps202;go_upto_region 1 with fail;rw[← x];clear x
   go_upto_region 4 with(go_at_call 255;(with_reducible refine C.mono ?_);rintro e w1 ⟨rfl,q⟩;have a6:=Aa (Ae H0.out q))
   have H1:=Hq (Ae H0.out q);have B1:=Hq (Ad B0.out q);clear q a6 au;have ah:=Aa H1.out;have O:=a1.out w1 B1.out;clear a1;have b2:(l.length:Int)<((l.length+1:Nat):Int):=by omega
   go_upto_region 12 with(first
    |(go_at_call 180;(with_reducible refine O.mono ?_);rintro e w2 ⟨v2,rfl,U,V⟩;obtain⟨A2,c2,rfl⟩:=Kh U;have H2:=Hq (Ae H1.out V);have b3:=Aa H2.out;have b4:=V.size)
    |(at_builtin;refine Jc Kr (.tmp 48) (.tmp 52) 34 134 cE V2 rfl (by omega) (by omega) rfl w1.heap.size _ l.length (l.flatMap Fz) rfl (Db U (Ab w2 _)) w2.heap.size (Fz ⟨u,0,0,false⟩) 134 rfl (heap_alloc_new w2 _) rfl (eL _) (by omega) (by simp;omega) ?_;intro v3 w3 a7 b5 ai))
   have aj:w.heap.size+1≤w1.heap.size:=(by have:=By H1.out;omega);have HX:=Hq (show w3.heap[w.heap.size]? =some (.cells (Ct a prev u kind Ac next nu ok os oo on S root ek ep es (.slice AT n1 c1) (.slice AD m1 d1)) 88 (0,0))from(ai.block _ (by omega)).trans (Ae H2.out (Ab w2 _)));have HB:=Hq (show Bw w w3 from((B1.out.trans (V.mono (by omega))).trans ((Ab w2 _).mono (by omega))).trans (ai.mono (by omega)));obtain⟨g,cap,rfl,ak⟩:=Ji a7 (by omega);have ay:w.heap.size+1≤g:=(by omega);obtain⟨L,hL⟩:∃ L:List Rc.A9,L=l++[⟨u,0,0,false⟩]:=⟨_,rfl⟩;have az:l.flatMap Fz++Fz ⟨u,0,0,false⟩=L.flatMap Fz:=(by rw[hL,List.flatMap_append];simp);rw[az]at a7;obtain⟨N,hN⟩:=ex (l.length+1);rw[← hN]at a7;rw[← hN];obtain⟨k,hk⟩:=ex l.length;rw[← hk];have HO:=Hq (Nn a7 aj);have Z:=Hq (show L.length=N from by rw[hL,hN,List.length_append,List.length_singleton]);have an:k<L.length:=(by rw[hL,hk,List.length_append,List.length_singleton];omega);have P:=Hq (show R=L.set k (Tx.P6 ⟨a,prev,u,kind,Ac,next,nu,⟨ok,os,oo,on⟩,S,root,⟨ek,ep,es⟩,ts,ds⟩ L[k])from by
    have e:L[k]=⟨u,0,0,false⟩:=(by subst hL hk;simp);rw[e,hL,hk];exact D.out)
   clear D;have D:=P;clear P hL az hN hk a7 b5 ai U V b3 b4 ah H2 H1 B1 aj b2 ak B0 H0 O C;obtain⟨W,a8⟩:=ex w3;rw[← a8]at HX HB HO;rw[← a8];clear a8;obtain⟨t,ht⟩:=ex (L[k]);obtain⟨z,tl,X,E⟩:=t;obtain⟨s1,s2,s3⟩:=Ff HO.out Z.out k an 1 (by omega) (.int .i64 a) ⟨z,a,X,E⟩ (by rw[← ht];rfl);rw[← ht]at s1;simp only[Fz]at s1;have HT:=Hq ht;have F:=Hq s3;have aw:=Aa HX.out;have ao:w.heap.size≠g:=(by omega);have aq:=Z.out;rw[aq]at an;have b6:(k:Int)<(N:Int):=(by omega);have b7:(0:Int)≤(k:Int):=(by omega);clear ht s3 aq;go_upto_region 14 with fail;have ar:=Hq (show(W.setCell ⟨g,k*4+1,none⟩ (.int .i64 a)).heap[w.heap.size]? =some (.cells (Ct a prev u kind Ac next nu ok os oo on S root ek ep es (.slice AT n1 c1) (.slice AD m1 d1)) 88 (0,0))from(Below.heap_setCell _ _ _ _ ao).trans HX.out);have G:=Hq (HB.out.trans ((Below.refl w.heap.size W).setCell (p:=⟨g,k*4+1,none⟩) (by show w.heap.size≤g;omega) (.int .i64 a)));obtain⟨W2,aa⟩:=ex (W.setCell ⟨g,k*4+1,none⟩ (.int .i64 a));rw[← aa]at ar G F;rw[← aa];clear aa HX HB HO aw s1 s2;have b0:=Aa ar.out;have j:=Hq (show(L.set k ⟨z,a,X,E⟩).length=N from by rw[List.length_set];exact Z.out);have J:=Hq (show k<(L.set k ⟨z,a,X,E⟩).length from by have:=j.out;omega);have b:∀ y,(L.set k ⟨z,a,X,E⟩).set k y=L.set k y:=fun y=>List.set_set ..;have f:=Hq (show(L.set k ⟨z,a,X,E⟩)[k]'J.out=⟨z,a,X,E⟩from by simp);have m:=Hq (fun y w' (hy:y=Tx.P6 ⟨a,prev,u,kind,Ac,next,nu,⟨ok,os,oo,on⟩,S,root,⟨ek,ep,es⟩,ts,ds⟩ ⟨z,tl,X,E⟩) (ho:w'.ownsRow (w.heap.size+1) 134 4 (.slice (some ⟨g,0,none⟩) N cap) N ((L.set k y).flatMap Fz)) (hb:Bw w w')=>K.out (L.set k y) g N cap (w.heap.size+1) w' (by rw[hy,HT.out];exact D.out) ho (by rw[List.length_set];exact Z.out) (by omega) hb);clear D K HT;have ax:kind=1∨kind=2∨kind=3∨kind=4∨kind=5∨kind=6:=(by have:=av.out;omega);clear av h2 h3 h4 I af;rcases ax with rfl|rfl|rfl|rfl|rfl|rfl
   ·obtain⟨H,u2,s⟩:=Ff F.out j.out k J.out 2 (by omega) (.int .i64 a) ⟨z,a,a,E⟩ (by rw[f.out];rfl)
    rw[f.out]at H;simp only[Fz]at H;rw[b]at s;have d:=Hq (m.out ⟨z,a,a,E⟩ _ rfl s (G.out.trans ((Below.refl w.heap.size W2).setCell (p:=⟨g,k*4+2,none⟩) (by show w.heap.size≤g;omega) (.int .i64 a))));clear s b;go_wp2_with fail;exact d.out
   ·obtain⟨H,u2,s⟩:=Ff F.out j.out k J.out 2 (by omega) (.int .i64 a) ⟨z,a,a,E⟩ (by rw[f.out];rfl)
    rw[f.out]at H;simp only[Fz]at H;rw[b]at s;have d:=Hq (m.out ⟨z,a,a,E⟩ _ rfl s (G.out.trans ((Below.refl w.heap.size W2).setCell (p:=⟨g,k*4+2,none⟩) (by show w.heap.size≤g;omega) (.int .i64 a))));clear s b;go_wp2_with fail;exact d.out
   ·obtain⟨H,u2,s⟩:=Ff F.out j.out k J.out 2 (by omega) (.int .i64 next) ⟨z,a,next,E⟩ (by rw[f.out];rfl)
    rw[f.out]at H;simp only[Fz]at H;rw[b]at s;have d:=Hq (m.out ⟨z,a,next,E⟩ _ rfl s (G.out.trans ((Below.refl w.heap.size W2).setCell (p:=⟨g,k*4+2,none⟩) (by show w.heap.size≤g;omega) (.int .i64 next))));clear s b;go_wp2_with fail;exact d.out
   ·obtain⟨H,u2,s⟩:=Ff F.out j.out k J.out 2 (by omega) (.int .i64 next) ⟨z,a,next,E⟩ (by rw[f.out];rfl)
    rw[f.out]at H;simp only[Fz]at H;rw[b]at s;have d:=Hq (m.out ⟨z,a,next,E⟩ _ rfl s (G.out.trans ((Below.refl w.heap.size W2).setCell (p:=⟨g,k*4+2,none⟩) (by show w.heap.size≤g;omega) (.int .i64 next))));clear s b;go_wp2_with fail;exact d.out
   ·obtain⟨H,u2,s⟩:=Ff F.out j.out k J.out 3 (by omega) (.bool true) ⟨z,a,X,true⟩ (by rw[f.out];rfl)
    rw[f.out]at H;simp only[Fz]at H;rw[b]at s;have d:=Hq (m.out ⟨z,a,X,true⟩ _ rfl s (G.out.trans ((Below.refl w.heap.size W2).setCell (p:=⟨g,k*4+3,none⟩) (by show w.heap.size≤g;omega) (.bool true))));clear s b;go_wp2_with fail;exact d.out
   ·have d:=Hq (m.out ⟨z,a,X,E⟩ _ rfl F.out G.out)
    clear b;go_wp2_with fail;exact d.out
 |some i=>
  rw[hp]at C;simp only[Tx.R5]at C;obtain⟨hi,-⟩:=Tx.Jh hp;have b8:¬ (i:Int)<0:=by omega
  by_cases I:kind=7
  ·have HS:=Hq (N3.out i af.out hp I)
   have ag:(kind==7)=true:=(by simpa using I);clear N1 N2 N3 N4 ae K HR hp I o;go_enter Tryz.func202,Tryz.ntmps202;go_upto_region 1 with fail;rw[← x];clear x
   go_upto_region 4 with(go_at_call 255;(with_reducible refine C.mono ?_);rintro e w1 ⟨rfl,q⟩;have a6:=Aa (Ae H0.out q))
   have H1:=Hq (Ae H0.out q);have B1:=Hq (Ad B0.out q);clear q a6 au;have ah:=Aa H1.out;have O:=a1.out w1 B1.out;clear a1;have b9:IntKind.i64.wrap ((i:Int)+1)=(i:Int)+1:=IntWalk.i64_in _ (by omega)
   go_wp2_with(first
    |(go_at_call 180;(with_reducible refine O.mono ?_);rintro e w2 ⟨v2,rfl,U,V⟩;obtain⟨g,cap,rfl,ay⟩:=Ji U (by omega);have HD:=Hq (Y5 l (by omega) i hi w1.heap.size g cap w2 U))
    |(go_at_call 256;(with_reducible refine HD.out.mono ?_);rintro e w3 ⟨v3,rfl,a7,ai⟩))
   exact Y.out _ _ _ _ HS.out a7 B1.out.size ((B1.out.trans (V.mono B1.out.size)).trans (ai.mono B1.out.size))
  ·have D:=Hq (N4.out i af.out hp I hi)
   have ag:(kind==7)=false:=(by simpa using I);clear N1 N2 N3 N4 ae Y HR hp o;go_enter Tryz.func202,Tryz.ntmps202;go_upto_region 1 with fail;rw[← x];clear x
   go_upto_region 4 with(go_at_call 255;(with_reducible refine C.mono ?_);rintro e w1 ⟨rfl,q⟩;have a6:=Aa (Ae H0.out q))
   have H1:=Hq (Ae H0.out q);have B1:=Hq (Ad B0.out q);clear q a6 au;have ah:=Aa H1.out;have O:=a1.out w1 B1.out;clear a1
   go_upto_region 12 with(go_at_call 180;(with_reducible refine O.mono ?_);rintro e w2 ⟨v2,rfl,U,V⟩)
   have aj:w.heap.size+1≤w1.heap.size:=(by have:=By H1.out;omega);have HX:=Hq (Ae H1.out V);have HB:=Hq (show Bw w w2 from B1.out.trans (V.mono (by omega)));obtain⟨g,cap,rfl,ak⟩:=Ji U (by omega);have ay:w.heap.size+1≤g:=(by omega);have ad:=Nn U aj;obtain⟨L,hL⟩:∃ L:List Rc.A9,L=l:=⟨_,rfl⟩;obtain⟨N,hN⟩:=ex l.length;obtain⟨k,hk⟩:=ex i;rw[← hN]at ad;rw[← hN];rw[← hL]at ad;rw[← hk];have HO:=Hq ad;have Z:=Hq (show L.length=N from by rw[hL,hN]);have an:k<L.length:=(by rw[hL,hk];exact hi);have P:=Hq (show R=L.set k (Tx.P6 ⟨a,prev,u,kind,Ac,next,nu,⟨ok,os,oo,on⟩,S,root,⟨ek,ep,es⟩,ts,ds⟩ L[k])from by
    subst hL hk;exact D.out)
   clear D;have D:=P;clear P hL hN hk U ad V ah H1 B1 aj ak B0 H0 O C hi b8;obtain⟨W,a8⟩:=ex w2;rw[← a8]at HX HB HO;rw[← a8];clear a8;obtain⟨t,ht⟩:=ex (L[k]);obtain⟨z,tl,X,E⟩:=t;obtain⟨s1,s2,s3⟩:=Ff HO.out Z.out k an 1 (by omega) (.int .i64 a) ⟨z,a,X,E⟩ (by rw[← ht];rfl);rw[← ht]at s1;simp only[Fz]at s1;have HT:=Hq ht;have F:=Hq s3;have aw:=Aa HX.out;have ao:w.heap.size≠g:=(by omega);have aq:=Z.out;rw[aq]at an;have b6:(k:Int)<(N:Int):=(by omega);have b7:(0:Int)≤(k:Int):=(by omega);clear ht s3 aq;go_upto_region 14 with fail;have ar:=Hq (show(W.setCell ⟨g,k*4+1,none⟩ (.int .i64 a)).heap[w.heap.size]? =some (.cells (Ct a prev u kind Ac next nu ok os oo on S root ek ep es (.slice AT n1 c1) (.slice AD m1 d1)) 88 (0,0))from(Below.heap_setCell _ _ _ _ ao).trans HX.out);have G:=Hq (HB.out.trans ((Below.refl w.heap.size W).setCell (p:=⟨g,k*4+1,none⟩) (by show w.heap.size≤g;omega) (.int .i64 a)));obtain⟨W2,aa⟩:=ex (W.setCell ⟨g,k*4+1,none⟩ (.int .i64 a));rw[← aa]at ar G F;rw[← aa];clear aa HX HB HO aw s1 s2;have b0:=Aa ar.out;have j:=Hq (show(L.set k ⟨z,a,X,E⟩).length=N from by rw[List.length_set];exact Z.out);have J:=Hq (show k<(L.set k ⟨z,a,X,E⟩).length from by have:=j.out;omega);have b:∀ y,(L.set k ⟨z,a,X,E⟩).set k y=L.set k y:=fun y=>List.set_set ..;have f:=Hq (show(L.set k ⟨z,a,X,E⟩)[k]'J.out=⟨z,a,X,E⟩from by simp);have m:=Hq (fun y w' (hy:y=Tx.P6 ⟨a,prev,u,kind,Ac,next,nu,⟨ok,os,oo,on⟩,S,root,⟨ek,ep,es⟩,ts,ds⟩ ⟨z,tl,X,E⟩) (ho:w'.ownsRow (w.heap.size+1) 134 4 (.slice (some ⟨g,0,none⟩) N cap) N ((L.set k y).flatMap Fz)) (hb:Bw w w')=>K.out (L.set k y) g N cap (w.heap.size+1) w' (by rw[hy,HT.out];exact D.out) ho (by rw[List.length_set];exact Z.out) (by omega) hb);clear D K HT;have ax:kind=1∨kind=2∨kind=3∨kind=4∨kind=5∨kind=6:=(by have:=av.out;omega);clear av h2 h3 h4 I af;rcases ax with rfl|rfl|rfl|rfl|rfl|rfl
   ·obtain⟨H,u2,s⟩:=Ff F.out j.out k J.out 2 (by omega) (.int .i64 a) ⟨z,a,a,E⟩ (by rw[f.out];rfl)
    rw[f.out]at H;simp only[Fz]at H;rw[b]at s;have d:=Hq (m.out ⟨z,a,a,E⟩ _ rfl s (G.out.trans ((Below.refl w.heap.size W2).setCell (p:=⟨g,k*4+2,none⟩) (by show w.heap.size≤g;omega) (.int .i64 a))));clear s b;go_wp2_with fail;exact d.out
   ·obtain⟨H,u2,s⟩:=Ff F.out j.out k J.out 2 (by omega) (.int .i64 a) ⟨z,a,a,E⟩ (by rw[f.out];rfl)
    rw[f.out]at H;simp only[Fz]at H;rw[b]at s;have d:=Hq (m.out ⟨z,a,a,E⟩ _ rfl s (G.out.trans ((Below.refl w.heap.size W2).setCell (p:=⟨g,k*4+2,none⟩) (by show w.heap.size≤g;omega) (.int .i64 a))));clear s b;go_wp2_with fail;exact d.out
   ·obtain⟨H,u2,s⟩:=Ff F.out j.out k J.out 2 (by omega) (.int .i64 next) ⟨z,a,next,E⟩ (by rw[f.out];rfl)
    rw[f.out]at H;simp only[Fz]at H;rw[b]at s;have d:=Hq (m.out ⟨z,a,next,E⟩ _ rfl s (G.out.trans ((Below.refl w.heap.size W2).setCell (p:=⟨g,k*4+2,none⟩) (by show w.heap.size≤g;omega) (.int .i64 next))));clear s b;go_wp2_with fail;exact d.out
   ·obtain⟨H,u2,s⟩:=Ff F.out j.out k J.out 2 (by omega) (.int .i64 next) ⟨z,a,next,E⟩ (by rw[f.out];rfl)
    rw[f.out]at H;simp only[Fz]at H;rw[b]at s;have d:=Hq (m.out ⟨z,a,next,E⟩ _ rfl s (G.out.trans ((Below.refl w.heap.size W2).setCell (p:=⟨g,k*4+2,none⟩) (by show w.heap.size≤g;omega) (.int .i64 next))));clear s b;go_wp2_with fail;exact d.out
   ·obtain⟨H,u2,s⟩:=Ff F.out j.out k J.out 3 (by omega) (.bool true) ⟨z,a,X,true⟩ (by rw[f.out];rfl)
    rw[f.out]at H;simp only[Fz]at H;rw[b]at s;have d:=Hq (m.out ⟨z,a,X,true⟩ _ rfl s (G.out.trans ((Below.refl w.heap.size W2).setCell (p:=⟨g,k*4+3,none⟩) (by show w.heap.size≤g;omega) (.bool true))));clear s b;go_wp2_with fail;exact d.out
   ·have d:=Hq (m.out ⟨z,a,X,E⟩ _ rfl F.out G.out)
    clear b;go_wp2_with fail;exact d.out
end Go.Proofs.YtmldoihahndcgaaGreatDoor
namespace Tx
end Tx
namespace Go.Proofs.YtmldoihahndcgaaGreatDoor
open Go.RowKit
theorem nB {P:Program}{ops:Array Oper}{rest:List Oper}{op:Oper}{a:Act}{w:World}{Q:Exit→Act→World→Prop}(e:Region.wanted op (yielded ops a.tmps)=true)(ty:TypeId)(x:Operand)(f:op.op= .load ty x)
 (b o:Nat) (g:a.eval x= .pointer (some ⟨b,o,none⟩)) (part cells:Array Value) (t:TypeId) (i:w.heap[b]? =some (.cells cells t (0,0))) (k:(cells.toList.drop o).take part.size=part.toList) (d:TypeDesc)
 (l:P.underlying ty=some d) (m:d.isRow=true) (hi:(P.info? ty).map (·.size)=some part.size)
 (h:wpList P ops Q rest (a.put op.dst (.agg part)) w):wpList P ops Q (op::rest) a w:=
 Cw e fun K n=>by
  refine wp_load_mid ty x f b o g part.toList d (fun j v c=>?_) l m (by simpa using hi) ?_
  ·rw[Aa i]
   have p:j<part.size:=(by have:=(List.getElem?_eq_some_iff.1 c).1;simpa using this);rw[← k,List.getElem?_take,if_pos p,List.getElem?_drop,Array.getElem?_toList]at c;exact c
  ·simpa using n _ _ h
theorem lP {P:Program}{ops:Array Oper}{rest:List Oper}{op:Oper}{a:Act}{w:World}{Q:Exit→Act→World→Prop}{ty:TypeId}{x:Operand}{b o:Nat}(part:Array Value){cells:Array Value}{t:TypeId}{d:TypeDesc}(c:w.heap[b]? =some (.cells cells t (0,0)))(e:P.underlying ty=some d)(h:wpList P ops Q rest (a.put op.dst (.agg part)) w)(f:op.op= .load ty x:=by exact rfl)(g:a.eval x= .pointer (some ⟨b,o,none⟩):=by with_unfolding_all exact rfl)(i:Region.wanted op (yielded ops a.tmps)=true:=by kernel_rfl)(j:(cells.toList.drop o).take part.size=part.toList:=by kernel_rfl)(k:d.isRow=true:=by kernel_rfl)(hi:(P.info? ty).map (·.size)=some part.size:=by kernel_rfl):wpList P ops Q (op::rest) a w:=nB i ty x f b o g part cells t c j d e k hi h
theorem pO {P:Program}{ops:Array Oper}{rest:List Oper}{op:Oper}{a:Act}{w:World}{Q:Exit→Act→World→Prop}(g:Region.wanted op (yielded ops a.tmps)=true)(ty:TypeId)(x y:Operand)(j:op.op= .store ty x y)
 (b o:Nat) (part cur res:Array Value) (t:TypeId) (k:a.eval x= .pointer (some ⟨b,o,none⟩)) (hy:a.eval y= .agg part) (l:w.heap[b]? =some (.cells cur t (0,0))) (m:res=(cur.toList.take o++part.toList++cur.toList.drop (o+part.toList.length)).toArray)
 (e:decide (o+part.toList.length≤cur.size)=true) (hi:(P.info? ty).map (·.size)=some part.size) (n:part.all (·.oneCell')=true) (h:wpList P ops Q rest (a.put op.dst undef) (w.setRow b res)):wpList P ops Q (op::rest) a w:=
 Cw g fun K p=>by
  have c:=run_storeCells_at P b o t part.toList 0 cur w l (by rw[Nat.add_zero];exact of_decide_eq_true e) (fun v q=>(Array.all_eq_true_iff_forall_mem.1 n) v (by simpa using q));rw[Nat.add_zero,← m]at c;have d:(storeVar ty ⟨b,o,none⟩ (.agg part)).run P w= .ok () (w.setRow b res):=by
   cases f:P.info? ty with
   |none=>simp[f]at hi
   |some i=>
    have r:part.size=i.size:=by simp[f]at hi;omega
    simp[storeVar,sizeOf,typeInfo,f,Value.cells,r,c]
  unfold Oper.wp execOp;simp only[j,k,hy,Instr.storeAt,Instr.sureAddr,Sem.run_bind,Sem.run_pure,Result.andThen_ok,d];exact p _ _ h
theorem lU {P:Program}{ops:Array Oper}{rest:List Oper}{op:Oper}{a:Act}{w:World}{Q:Exit→Act→World→Prop}{ty:TypeId}{x y:Operand}{b o:Nat}(part:Array Value){cur:Array Value}(res:Array Value){t:TypeId}(c:w.heap[b]? =some (.cells cur t (0,0)))(h:wpList P ops Q rest (a.put op.dst undef) (w.setRow b res))(d:op.op= .store ty x y:=by exact rfl)(e:a.eval x= .pointer (some ⟨b,o,none⟩):=by with_unfolding_all exact rfl)(hy:a.eval y= .agg part:=by with_unfolding_all exact rfl)(f:Region.wanted op (yielded ops a.tmps)=true:=by kernel_rfl)(g:res=(cur.toList.take o++part.toList++cur.toList.drop (o+part.toList.length)).toArray:=by kernel_rfl)(i:decide (o+part.toList.length≤cur.size)=true:=by kernel_rfl)(hi:(P.info? ty).map (·.size)=some part.size:=by kernel_rfl)(j:part.all (·.oneCell')=true:=by kernel_rfl):wpList P ops Q (op::rest) a w:=pO f ty x y d b o part cur res t e hy c g i hi j h
structure SP where
 A:Option Addr
 c:Nat
 F:Option Addr
 fn:Nat
 fc:Nat
 T:Option Addr
 tc:Nat
abbrev Ag (s:Tx.St)(p:SP):Value:=.agg #[s.zlog,s.zpages,s.zframes,.slice p.A s.As.sectors.length p.c,s.As.left,s.As.down,s.log.from_,s.log.n,s.log.end_,s.log.safe,s.log.tail,.slice p.F p.fn p.fc,s.hand,.slice p.T s.txns.length p.tc,s.next]
structure Eu (w:World) (s:Tx.St) (p:SP):Prop where
 dk:Ca w s.As p.A p.c
 dt:Cp 0 w 9 p.A
 tx:Wv w p.T p.tc s.txns
 tt:Cp 0 w 134 p.T
theorem Eu.below {w w':World}{s:Tx.St}{p:SP}(h:Eu w s p)(a:Bw w w'):Eu w' s p:=⟨h.dk.below a,h.dt.below a,h.tx.below a,h.tt.below a⟩
theorem Eu.other {w:World}{s:Tx.St}{p:SP}(h:Eu w s p){b:Nat}{cur:Array Value}{t:TypeId}{fr:Nat×Nat}(a:w.heap[b]? =some (.cells cur t fr))(c:t≠9)(d:t≠134)(cs:Array Value):Eu (w.setRow b cs) s p:=
 ⟨⟨h.dt.Dx h.dk.secs a c cs,h.dk.small⟩,h.dt.row b cs,h.tt.Dx h.tx a d cs,h.tt.row b cs⟩
theorem Eu.set {w:World}{s:Tx.St}{p:SP}(h:Eu w s p){b:Nat}{cur:Array Value}{t:TypeId}{fr:Nat×Nat}(a:w.heap[b]? =some (.cells cur t fr))(c:t≠9)(d:t≠134)(j:Nat)(v:Value):Eu (w.setCell ⟨b,j,none⟩ v) s p:=by
 rw[setCell_eq_setRow w b j cur t fr v a];exact h.other a c d _
theorem R7 (r:Rc.Rec)(w:World)(a:r.txns=[])(b:r.dirty=[]):Hv w r none 0 none 0:=by
 refine⟨?_,?_,by rw[a,b];exact⟨Nat.zero_le _,Nat.zero_le _⟩⟩
 ·rw[a];exact Reads.none_ _ _ _ _
 ·rw[b];exact Reads.none_ _ _ _ _
end Go.Proofs.YtmldoihahndcgaaGreatDoor
namespace Lg
open Rc
structure Al (l:Lo):Prop where
 s0:0≤l.safe
 se:l.safe≤l.end_
 tl:l.end_-(l.tail.size:Int)=l.safe-l.safe%128
theorem Gn.al {F N:Nat}{d:Dk}{g:Lo}{a b:List Rec}(h:Gn F N d g a b):Al g:=by
 have c:=h.safe;have e:=h.end_;have i:=I2 a b;have f:g.tail.size=(bytes (a++b)).length-((bytes a).length-(bytes a).length%128):=by
  rw[h.tail]
  show((bytes (a++b)).drop _).toArray.size=_
  rw[List.size_toArray,List.length_drop]
 exact⟨by omega,by omega,by rw[f,e,c];omega⟩
theorem Al.first {l:Lo}(h:Al l):Fe l=l.safe/128:=by
 have b:=h.s0;have a:=h.tl;unfold Fe;rw[a];omega
theorem nC (n:Nat):∀ l:List UInt8,l.length≤n→∀ k,k*128<l.length→(Nz l)[k]? =some (E2 ((l.drop (k*128)).take 128)):=by
 induction n with
 |zero=>intro l a k hk;omega
 |succ n ih=>
  intro l a k hk;have h:l≠[]:=fun e=>by rw[e]at hk;simp at hk
  rw[J2 h]
  cases k with
  |zero=>simp
  |succ k=>
   rw[List.getElem?_cons_succ,ih _ (by rw[List.length_drop];omega) k (by rw[List.length_drop];omega),List.drop_drop]
   congr 4
   omega
theorem nD (s:ByteArray)(k:Nat)(hk:k*128<s.size):(Hb s)[k]? =some (E2 ((s.data.toList.drop (k*128)).take 128)):=nC _ _ (Nat.le_refl _) k (by simpa using hk)
theorem nE:E2 []=Cf:=by unfold E2 Cf;simp
end Lg
namespace Tx
open Rc Lg
theorem iN {l:Lo}(r:Rec)(h:Al l):Al (Aw l r).1:=by
 have d:=h.s0;have g:=h.se;have i:=h.tl
 by_cases a:Bs {r with lsn:=l.end_+1}
 ·by_cases c:l.n*128-((D8 {r with lsn:=l.end_+1}).length:Int)<l.end_
  ·unfold Aw
   simp only;rw[if_neg (fun b=>b a),if_pos c];exact h
  ·have e:(Aw l r).1={l with end_:=l.end_+((D8 {r with lsn:=l.end_+1}).length:Int),tail:=l.tail++⟨(D8 {r with lsn:=l.end_+1}).toArray⟩}:=by
    unfold Aw;simp only;rw[if_neg (fun b=>b a),if_neg c]
   rw[e];have f:(⟨(D8 {r with lsn:=l.end_+1}).toArray⟩:ByteArray).size=(D8 {r with lsn:=l.end_+1}).length:=(by show(D8 {r with lsn:=l.end_+1}).toArray.size=_;simp);refine⟨d,?_,?_⟩
   ·show l.safe≤l.end_+((D8 {r with lsn:=l.end_+1}).length:Int);omega
   ·show l.end_+((D8 {r with lsn:=l.end_+1}).length:Int)-((l.tail++⟨(D8 {r with lsn:=l.end_+1}).toArray⟩).size:Int)=l.safe-l.safe%128
    rw[ByteArray.size_append,f];omega
 ·unfold Aw
  simp only;rw[if_pos a];exact h
end Tx
namespace Go.Proofs.YtmldoihahndcgaaGreatDoor
open Go.RowKit
abbrev Aj (s:Tx.St)(p:SP):Array Value:=#[s.zlog,s.zpages,s.zframes,.slice p.A s.As.sectors.length p.c,s.As.left,s.As.down,s.log.from_,s.log.n,s.log.end_,s.log.safe,s.log.tail,.slice p.F p.fn p.fc,s.hand,.slice p.T s.txns.length p.tc,s.next]
structure Fr where
 Ac:Int
 bytes:ByteArray
 pins:Int
 mark:Bool
 rc:Int
def Ib (f:Fr):List Value:=[.int .i64 f.Ac,.string f.bytes,.int .i64 f.pins,.bool f.mark,.int .i64 f.rc]
abbrev Er (f:Fr):Array Value:=#[f.Ac,f.bytes,f.pins,f.mark,f.rc]
theorem Dh (f:Fr):(Ib f).length=5:=rfl
theorem pP (f:Fr):∀ u∈Ib f,u.oneCell'=true:=by
 intro u a;simp only[Ib,List.mem_cons,List.not_mem_nil,or_false]at a;rcases a with rfl|rfl|rfl|rfl|rfl<;>rfl
theorem eN (l:List Fr):∀ u∈l.flatMap Ib,u.oneCell'=true:=by
 intro u a;obtain⟨v,_,h⟩:=List.mem_flatMap.1 a;exact pP v u h
theorem Qq:(Tryz.prog.info? 116).map (fun i=>(i.zero,i.size,i.bytes))=some (some (.agg #[(),"",(),false,()]),5,48):=by kernel_rfl
theorem Qr:(⟨#[]⟩:ByteArray).toList=[]:=by rw[ByteArray.toList_eq]
theorem cG {b:ByteArray}(h:b≠⟨#[]⟩):¬ b.toList=[]∧(b.toList==[])=false∧(b.toList==(⟨#[]⟩:ByteArray).toList)=false:=by
 have c:¬ b.toList=[]:=fun a=>h (by
  rw[ByteArray.toList_eq]at a;obtain⟨⟨l⟩⟩:=b;simp only at a;rw[a])
 have d:(b.toList==[])=false:=by simpa using c
 exact⟨c,d,by rw[Qr];exact d⟩
theorem Eu.rO {w:World}{s:Tx.St}{p:SP}(h:Eu w s p)(F:Option Addr)(n c:Nat):Eu w s {p with F:=F,fn:=n,fc:=c}:=⟨h.dk,h.dt,h.tx,h.tt⟩
structure Ao (w:World) (s:Tx.St) (p:SP) (fs:List Fr):Prop where
 st:Eu w s p
 fn:p.fn=fs.length
 fr:Reads w p.F p.fc fs.length (fs.flatMap Ib)
 ft:Cp 0 w 116 p.F
theorem Ao.below {w w':World}{s:Tx.St}{p:SP}{fs:List Fr}(h:Ao w s p fs)(a:Bw w w'):Ao w' s p fs:=⟨h.st.below a,h.fn,h.fr.below a,h.ft.below a⟩
theorem Ao.other {w:World}{s:Tx.St}{p:SP}{fs:List Fr}(h:Ao w s p fs){b:Nat}{cur:Array Value}{t:TypeId}{fr:Nat×Nat}(a:w.heap[b]? =some (.cells cur t fr))(c:t≠9)(d:t≠134)(e:t≠116)(cs:Array Value):Ao (w.setRow b cs) s p fs:=
 ⟨h.st.other a c d cs,h.fn,h.ft.Dx h.fr a e cs,h.ft.row b cs⟩
theorem E7 {B g:Nat}{w u:World}(b:B≤g)(a:Below B w u)(cs:Array Value):Below B w (u.setRow g cs):=
 ⟨a.os,a.tape,a.output,by show _≤(u.heap.modify _ _).size;have:=a.size;simpa using this,fun k hk=>by show(u.heap.modify _ _)[k]? =_;rw[Array.getElem?_modify,if_neg (by omega)];exact a.block k hk⟩
section
variable {α : Type} {enc : α → List Value} {k : Nat} {e : TypeId} {B g c : Nat} {w : World} {l : List α}
theorem Y6 (hk:∀ x,(enc x).length=k)(l:List α)(i:Nat)(hi:i<l.length)(x:α)(t:Nat):((l.set i x).flatMap enc)[t]? =if i*k≤t∧t<i*k+k then(enc x)[t-i*k]? else(l.flatMap enc)[t]? :=by
 have f:i*k+k≤l.length*k:=by have:=Nat.mul_le_mul_right k (show i+1≤l.length from hi);rwa[Nat.add_mul,Nat.one_mul]at this
 by_cases a:i*k≤t∧t<i*k+k
 ·rw[if_pos a]
  obtain⟨j,rfl⟩:∃ j,t=i*k+j:=⟨t-i*k,by omega⟩;rw[Ih hk (l.set i x) i j (by rw[List.length_set];exact hi) (by omega),List.getElem_set_self,Nat.add_sub_cancel_left]
 ·rw[if_neg a]
  by_cases g:t<l.length*k
  ·have b:0<k:=by rcases Nat.eq_zero_or_pos k with h|h;(· subst h;omega);(· exact h)
   have d:t/k<l.length:=(by rw[Nat.div_lt_iff_lt_mul b];exact g);have e:t%k<k:=Nat.mod_lt _ b;have m:t=t/k*k+t%k:=(by rw[Nat.mul_comm];exact(Nat.div_add_mod t k).symm);have c:i≠t/k:=fun h=>a (by rw[h];omega);rw[m,Ih hk (l.set i x) (t/k) (t%k) (by rw[List.length_set];exact d) e,Ih hk l (t/k) (t%k) d e,List.getElem_set_ne c]
  ·rw[List.getElem?_eq_none (by rw[Cc hk,List.length_set];omega),List.getElem?_eq_none (by rw[Cc hk];omega)]
theorem V4 (n:En enc k e B w (.slice (some ⟨g,0,none⟩) l.length c) l):∃ cur:Array Value,B≤g∧g<w.heap.size∧w.heap[g]? =some (.cells cur e (0,0))∧l.length≤c∧c≤maxLen∧cur.size=c*k∧∀ t,t<l.length*k→cur[t]? =(l.flatMap enc)[t]? :=by
 obtain⟨o,p⟩:=n;rcases p with⟨q,_⟩|⟨v,cap,cur,r,f,m,h,d,i,b⟩
 ·cases q
 injection r with a s j
 injection a with a
 injection a with a _ _
 subst a j;refine⟨cur,f,By m,m,h,d,i,fun t u=>?_⟩;rw[← b,List.getElem?_take,if_pos u,Array.getElem?_toList]
theorem nF {cur:Array Value}(hk:∀ x,(enc x).length=k)(b:B≤g)(d:w.heap[g]? =some (.cells cur e (0,0)))(f:l.length≤c)(i:c≤maxLen)(j:cur.size=c*k)(h:∀ t,t<l.length*k→cur[t]? =(l.flatMap enc)[t]?):En enc k e B w (.slice (some ⟨g,0,none⟩) l.length c) l:=by
 refine⟨Cc hk l,.inr ⟨g,c,cur,rfl,b,d,f,i,j,?_⟩⟩;refine List.ext_getElem? fun t=>?_;rw[List.getElem?_take]
 by_cases a:t<l.length*k
 ·rw[if_pos a,Array.getElem?_toList,h t a]
 ·rw[if_neg a,List.getElem?_eq_none (by rw[Cc hk];omega)]
theorem eO (hk:∀ x,(enc x).length=k)(n:En enc k e B w (.slice (some ⟨g,0,none⟩) l.length c) l)(i:Nat)(hi:i<l.length)(x:α):
 w.there g (i*k) k∧En enc k e B (w.setCells g (i*k) (enc x)) (.slice (some ⟨g,0,none⟩) (l.set i x).length c) (l.set i x)∧Below B w (w.setCells g (i*k) (enc x)):=by
 obtain⟨cur,d,z,b,f,o,p,q⟩:=V4 n;have r:i*k+k≤l.length*k:=by have:=Nat.mul_le_mul_right k (show i+1≤l.length from hi);rwa[Nat.add_mul,Nat.one_mul]at this
 have s:l.length*k≤c*k:=Nat.mul_le_mul_right _ f;obtain⟨m,u,v,y⟩:=Kw (enc x) (i*k) cur w b;refine⟨fun j A=>⟨by rw[Aa b,Array.getElem?_eq_getElem (by omega)];rfl,Ap b _⟩,nF hk d u (by rw[List.length_set];exact f) o (by rw[v];exact p) (fun t h=>?_),I3 d _ _ _⟩;rw[List.length_set]at h;rw[y,Y6 hk l i hi x t,hk]
 by_cases a:i*k≤t∧t<i*k+k
 ·rw[if_pos ⟨a.1,a.2,by omega⟩,if_pos a]
 ·rw[if_neg (fun h=>a ⟨h.1,h.2.1⟩),if_neg a,q t h]
end
theorem Y7 (s:Tx.St)(p:SP)(n:Int)(w:World):
 Cr 168 #[Ag s p,n] w (.bool (decide (0≤n∧n<s.zpages))):=by
 by_cases e:0≤n
 ·have a:decide (0≤n∧n<s.zpages)=decide (n<s.zpages):=by simp[e]
  rw[a];clear a;go_enter Tryz.func168,Tryz.ntmps168;go_upto_region 1 with fail;have c:=aI w (Aj s p) 36;obtain⟨d,b⟩:=Ee c;rw[← b]at c ⊢;clear b;have f:=show d.cell? ⟨w.heap.size,1,none⟩=some (.int .i64 s.zpages)from(by rw[Aa c.out.Ai];rfl);go_wp2_with fail;go_ret;exact⟨by simp,c.out.below⟩
 ·have a:decide (0≤n∧n<s.zpages)=false:=by simp[e]
  rw[a];clear a;go_enter Tryz.func168,Tryz.ntmps168;go_upto_region 1 with fail;have c:=aI w (Aj s p) 36;obtain⟨d,b⟩:=Ee c;rw[← b]at c ⊢;clear b;have f:=show d.cell? ⟨w.heap.size,1,none⟩=some (.int .i64 s.zpages)from(by rw[Aa c.out.Ai];rfl);go_wp2_with fail;go_ret;exact⟨by simp,c.out.below⟩
theorem R8 (s:Tx.St)(p:SP)(n:Int)(g:0≤s.zlog∧s.zlog≤3000)(h:0≤n∧n≤1000)(w:World):
 Cr 221 #[Ag s p,n] w (.int .i64 (1+s.zlog+4*n)):=by
 go_enter Tryz.func221,Tryz.ntmps221;go_upto_region 1 with fail;have b:=aI w (Aj s p) 36;obtain⟨c,a⟩:=Ee b;rw[← a]at b ⊢;clear a;have i:=show c.cell? ⟨w.heap.size,0,none⟩=some (.int .i64 s.zlog)from by rw[Aa b.out.Ai];rfl
 have d:IntKind.i64.wrap (1+s.zlog)=1+s.zlog:=IntWalk.i64_in _ (by omega);have e:IntKind.i64.wrap (4*n)=4*n:=IntWalk.i64_in _ (by omega);have f:IntKind.i64.wrap (1+s.zlog+4*n)=1+s.zlog+4*n:=IntWalk.i64_in _ (by omega);go_wp2_with fail;go_ret;exact⟨rfl,b.out.below⟩
theorem eP (s:Tx.St)(p:SP)(fs:List Fr)(r:p.fn=fs.length)(J:fs.length≤100)(n:Int)(w:World)(I:Reads w p.F p.fc fs.length (fs.flatMap Ib)):
 Cq 51 #[Ag s p,n] w fun e w'=>((e= .returned (.int .i64 (-1))∧∀ j (hj:j<fs.length),fs[j].bytes≠⟨#[]⟩→fs[j].Ac≠n)∨∃ (k:Nat) (hk:k<fs.length),e= .returned (.int .i64 k)∧fs[k].bytes≠⟨#[]⟩∧fs[k].Ac=n)∧Bw w w':=by
 have K:=Hq I;clear I;have A:=Hq r;clear r;go_enter Tryz.func51,Tryz.ntmps51;go_upto_region 1 with fail;have q:=aI w (Aj s p) 36;obtain⟨B,t⟩:=Ee q;rw[← t]at q ⊢;clear t;have C:=show B.cell? ⟨w.heap.size,11,none⟩=some (.slice p.F fs.length p.fc)from by rw[Aa q.out.Ai,← A.out];rfl
 have v:=Hq q.out.below;have L:=Hq (fun u (M:Bw B u)=>show u.cell? ⟨w.heap.size,11,none⟩=some (.slice p.F fs.length p.fc)from by rw[M.cell (p:=⟨w.heap.size,11,none⟩) (q.out.lt (i:=0) (by simp))];exact C);clear q;go_wp2_with fail
 go_loopw [5] (fun i wr=>∃ k:Nat,k≤fs.length∧i= .int .i64 k∧(∀ j (hj:j<fs.length),j<k→fs[j].bytes≠⟨#[]⟩→fs[j].Ac≠n)∧Bw B wr) (fun i _=>fs.length-(intOf i).toNat)
 case atStart=>exact⟨0,Nat.zero_le _,rfl,fun _ _ h=>absurd h (by omega),Below.refl _ _⟩
 case round=>
  obtain⟨k,hk,rfl,c,d⟩:=hrel;have D:=v.out.trans (d.mono v.out.size);have C:=L.out wr d;have N:(0:Int)≤(k:Int):=by omega
  by_cases x:k<fs.length
  ·have O:(k:Int)<(fs.length:Int):=by omega
   have P:IntKind.i64.wrap ((k:Int)+1)=(k:Int)+1:=IntWalk.i64_in _ (by omega);obtain⟨b,off,E,Q,R,a⟩:=Bu Dh (K.out.below D) x;have l:=a 0 _ rfl;have y:=a 1 _ rfl;simp only[Nat.add_zero]at l;clear a;generalize g:fs[k]=f at l y;obtain⟨G,S,X,Y,Z⟩:=f;simp only at l y;rw[E]at C
   by_cases m:S=⟨#[]⟩
   ·subst m
    have T:=Qr;go_wp2_with fail;go_roundw
    case rel=>exact⟨k+1,by omega,by go_num,fun j hj o=>by rcases Nat.lt_or_eq_of_le (Nat.le_of_lt_succ o)with h5|h5;(· exact c j hj h5);(· subst h5;rw[g];exact fun h=>absurd rfl h),d⟩
    case measure=>simp[intOf];omega
   ·obtain⟨U,V,W⟩:=cG m
    by_cases z:G=n
    ·have H:(G==n)=true:=beq_iff_eq.2 z
     go_wp2_with fail;go_ret;exact⟨.inr ⟨k,x,rfl,by rw[g];exact m,by rw[g];exact z⟩,D⟩
    ·have H:(G==n)=false:=beq_eq_false_iff_ne.2 z
     go_wp2_with fail;go_roundw
     case rel=>exact⟨k+1,by omega,by go_num,fun j hj o=>by rcases Nat.lt_or_eq_of_le (Nat.le_of_lt_succ o)with h5|h5;(· exact c j hj h5);(· subst h5;rw[g];exact fun _=>z),d⟩
     case measure=>simp[intOf];omega
  ·obtain rfl:k=fs.length:=by omega
   go_wp2_with fail;go_ret;exact⟨.inl ⟨rfl,fun j hj=>c j hj hj⟩,D⟩
theorem Hd (s:Tx.St)(p:SP)(fs:List Fr)(V:fs.length≤100)(k:Nat)(hk:k<fs.length)(f:Fr)(w:World)(h:Ao w s p fs):
 Cq 169 #[Ag s p,k,.agg (Er f)] w fun e w'=>∃ q,e= .returned (Ag s q)∧Ao w' s q (fs.set k f)∧Bw w w':=by
 obtain⟨i0,E,G,H,I⟩:=info_parts Qq;have Q:=Hq h;have J:=Hq h.fn;clear h;go_enter Tryz.func169,Tryz.ntmps169;go_upto_region 1 with fail;have j:=Q6 w (Aj s p) 36 (Er f) 116 #[(),(),(),'s',(),false,(),(),(),(),"",'s',(),'s',()] 36;obtain⟨b,o⟩:=Ee j;rw[← o]at j ⊢;clear o;have m:=Hq (Q.out.below j.out.below);have R:=show b.cell? ⟨w.heap.size,11,none⟩=some (.slice p.F fs.length p.fc)from by rw[Aa j.out.Ai,← J.out];rfl
 have a:=Ab b (.cells #[] 116);have L:(b.alloc (.cells #[] 116)).cell? ⟨w.heap.size,11,none⟩=some (.slice p.F fs.length p.fc):=by rw[a.cell (p:=⟨w.heap.size,11,none⟩) (j.out.lt (i:=0) (by simp))];exact R
 have r:=m.out.fr.below a
 go_upto_region 2 with(at_builtin;refine Cw Kr fun K W=>Ki (b.alloc (.cells #[] 116)) (.tmp 8) (.tmp 11) 31 116 i0 (.agg #[(),"",(),false,()]) 5 48 nG E G H I rfl (by omega) rfl b.heap.size _ 0 [] rfl (Jt b 116 5) p.F fs.length p.fc (fs.flatMap Ib) rfl r (by rw[Cc Dh]) (eN fs) (by omega) (by omega) a.size ?_;intro v2 M t X S;refine W _ _ ?_)
 rw[List.nil_append,Nat.zero_add]at t;have n:=a.trans S;obtain⟨g,fc,rfl⟩:∃ g c,v2= .slice (some ⟨g,0,none⟩) fs.length c:=by
  rcases t.2 with⟨_,h0⟩|⟨g,cap,cur,Y,_⟩
  ·omega
  ·exact⟨g,cap,Y⟩
 have N:=Hq (j.out.step n);have O:=Hq (m.out.below n);have T:(0:Int)≤(k:Int):=by omega
 have Z:(k:Int)<(fs.length:Int):=by omega
 obtain⟨u,v,x⟩:=eO Dh t k hk f;have l:M.there g (k*5) (Er f).size:=u;have a1:b.heap.size≤g:=by obtain⟨cur,h1,_⟩:=V4 t;exact h1
 go_upto_region 3 with(first|with_reducible refine lL N.out.Am Fw ?_|with_reducible refine wpList_store_mid rfl 116 (.tmp 16) (.tmp 15) rfl g (k*5) (Er f) rfl rfl l Kr Kr ?_)
 have hM:w.heap.size+3≤b.heap.size:=j.out.lt (i:=2) (by simp);have D:=Hq (N.out.under hM x);have y:=show(M.setCells g (k*5) (Ib f)).cell? ⟨w.heap.size,11,none⟩=some (.slice p.F p.fn p.fc)from by rw[Aa D.out.Ai];rfl
 have z:=Ap D.out.Ai 11;have A:=Hq v;rw[show([.int .i64 f.Ac,.string f.bytes,.int .i64 f.pins,.bool f.mark,.int .i64 f.rc]:List Value)=Ib f from rfl];generalize M.setCells g (k*5) (Ib f)=w3 at D y z A ⊢
 try simp only[Act.put]
 clear u l v x R L a r t X S n j m N O;go_upto_region 4 with fail;have B:=Hq (show D6 w.heap.size w [((Aj s {p with F:=some ⟨g,0,none⟩,fn:=fs.length,fc:=fc}),36),(Er f,116),(#[(),(),(),'s',(),false,(),(),(),(),"",'s',(),'s',()],36)] (w3.setCell ⟨w.heap.size,11,none⟩ (.slice (some ⟨g,0,none⟩) fs.length fc))from D.out.set 0 11 (.slice (some ⟨g,0,none⟩) fs.length fc) _ rfl);have C:=Hq (Jm A.out ⟨w.heap.size,11,none⟩ (.slice (some ⟨g,0,none⟩) fs.length fc) (by show w.heap.size<b.heap.size;omega));generalize w3.setCell ⟨w.heap.size,11,none⟩ (.slice (some ⟨g,0,none⟩) fs.length fc)=w4 at B C ⊢;clear y z
 go_wp2_with(first|with_reducible refine lL B.out.Ai Ar ?_|with_reducible refine lS (Aj s {p with F:=some ⟨g,0,none⟩,fn:=fs.length,fc:=fc}) B.out.Cj ?_)
 have U:=Hq (B.out.row 2 (Aj s {p with F:=some ⟨g,0,none⟩,fn:=fs.length,fc:=fc}) _ rfl).below;refine rT1 B.out.Cj Ar ?_;have d:=Ew C.out (w.heap.size+2) (Aj s {p with F:=some ⟨g,0,none⟩,fn:=fs.length,fc:=fc}) (by omega);have P:(fs.set k f).length=fs.length:=List.length_set;refine⟨{p with F:=some ⟨g,0,none⟩,fn:=fs.length,fc:=fc},rfl,⟨(Q.out.st.below U.out).rO _ _ _,P.symm,?_,?_⟩,U.out⟩
 ·rw[P]at d ⊢
  exact Dr d
 ·rw[P]at d
  exact(Cp.own d).mono (Nat.zero_le _)
theorem iO (p:ByteArray)(i:Int)(r:ByteArray)(N:p.size≤140737488355328)(w:World):
 Cr 59 #[p,i,r] w (Mm (Jq p i r)):=by
 have j:=Hq (fun W=>Gj p N W);have l:=Hq (fun W=>Gq p i N W);have v:=Hq (fun W=>Xr r W);change Hid (∀ W,Calls _ _ _ _ fun e w'=>e= .returned (.bool (Ht r))∧_)at v;have d:=Dp p;unfold Jq
 cases E:Bk p with
 |false=>
  rw[if_pos rfl];rw[E]at j;generalize Pg.Bc (Af p).recs i=q at l;generalize (!decide (q.size=0))=b at l;generalize Af p=x at j;clear d E v;go_enter Tryz.func59,Tryz.ntmps59
  go_wp2_with(first|(go_at_call 135;refine(j.out _).mono ?_;rintro e t ⟨z,A,c,rfl,f,g⟩)|(go_at_call 98;refine(l.out _).mono ?_;rintro e u ⟨rfl,a⟩))
  go_ret2;exact⟨rfl,andThen g (Bd a)⟩
 |true=>
  rw[E]at j;rw[if_neg (by simp)];clear E
  by_cases F:i<0
  ·rw[if_pos F]
   generalize Pg.Bc (Af p).recs i=q at l;generalize (!decide (q.size=0))=b at l;generalize Af p=x at j;clear d v;go_enter Tryz.func59,Tryz.ntmps59
   go_wp2_with(first|(go_at_call 135;refine(j.out _).mono ?_;rintro e t ⟨z,A,c,rfl,f,g⟩;obtain⟨h,m⟩:=f rfl;clear f;subst h)|(go_at_call 98;refine(l.out _).mono ?_;rintro e u ⟨rfl,a⟩;obtain⟨c0,c1,c2,c3,f0,f1,f2,f3⟩:=Ey (De a);have s:t.heap.size<u.heap.size:=(by have:=a.size;simp at this;omega)))
   go_ret2;exact⟨rfl,andThen g (Bd a)⟩
  ·rw[if_neg F]
   obtain⟨k,rfl⟩:=Int.eq_ofNat_of_zero_le (show 0≤i by omega);have P:(0:Int)≤(k:Int):=(by omega);clear F;rw[show((k:Int)).toNat=k from rfl]
   by_cases y:(Pg.Bc (Af p).recs (k:Int)).size≠0
   ·rw[if_pos y]
    rw[decide_eq_false y]at l;clear y;generalize Pg.Bc (Af p).recs (k:Int)=q at l;generalize Af p=x at j;clear d v;go_enter Tryz.func59,Tryz.ntmps59
    go_wp2_with(first|(go_at_call 135;refine(j.out _).mono ?_;rintro e t ⟨z,A,c,rfl,f,g⟩;obtain⟨h,m⟩:=f rfl;clear f;subst h)|(go_at_call 98;refine(l.out _).mono ?_;rintro e u ⟨rfl,a⟩;obtain⟨c0,c1,c2,c3,f0,f1,f2,f3⟩:=Ey (De a);have s:t.heap.size<u.heap.size:=(by have:=a.size;simp at this;omega)))
    go_ret2;exact⟨rfl,andThen g (Bd a)⟩
   ·rw[if_neg y]
    rw[decide_eq_true (Decidable.not_not.1 y)]at l;clear y;generalize Pg.Bc (Af p).recs (k:Int)=q at l
    cases h:Ht r with
    |false=>
     rw[if_pos rfl];rw[h]at v;generalize Af p=x at j;clear d h;go_enter Tryz.func59,Tryz.ntmps59
     go_wp2_with(first|(go_at_call 135;refine(j.out _).mono ?_;rintro e t ⟨z,A,c,rfl,f,g⟩;obtain⟨h,m⟩:=f rfl;clear f;subst h)|(go_at_call 98;refine(l.out _).mono ?_;rintro e u ⟨rfl,a⟩;obtain⟨c0,c1,c2,c3,f0,f1,f2,f3⟩:=Ey (De a);have s:t.heap.size<u.heap.size:=(by have:=a.size;simp at this;omega))|(go_at_call 136;refine(v.out _).mono ?_;rintro e O ⟨rfl,rfl⟩))
     go_ret2;exact⟨rfl,andThen g (Bd a)⟩
    |true=>
     rw[if_neg (by simp)];rw[h]at v;obtain⟨Q,R⟩:=D3 h;clear h
     by_cases G:(512:Int)<(k:Int)
     ·rw[if_pos G]
      have B:=Hq (fun A c n W=>gJ A c n (k:Int) r G W);generalize Af p=x at j;clear d;go_enter Tryz.func59,Tryz.ntmps59
      go_wp2_with(first|(go_at_call 135;refine(j.out _).mono ?_;rintro e t ⟨z,A,c,rfl,f,g⟩;obtain⟨h,m⟩:=f rfl;clear f;subst h)|(go_at_call 98;refine(l.out _).mono ?_;rintro e u ⟨rfl,a⟩;obtain⟨c0,c1,c2,c3,f0,f1,f2,f3⟩:=Ey (De a);have s:t.heap.size<u.heap.size:=(by have:=a.size;simp at this;omega))|(go_at_call 136;refine(v.out _).mono ?_;rintro e O ⟨rfl,rfl⟩)|(go_at_call 137;refine(B.out _ _ _ _).mono ?_;rintro e S ⟨rfl,rfl⟩))
      go_ret2;exact⟨rfl,andThen g (Bd a)⟩
     ·rw[if_neg G]
      have H:=d.fine.len;have I:=d.fine.sum;have J:=Pg.Kn (Af p).recs k r;have B:=Hq (fun A c W K=>Rh (Af p).recs A c k r (by omega) (by omega) W K);have C:=Hq (fun A c W K=>Xy (Be p (Pg.putAt (Af p).recs k r)) A c (E0 p _) (by show Pg.A4 (Pg.putAt _ _ _)≤_;omega) (.inr ((Pg.Kk _).2 (Pg.Pz d.tight k (by omega)))) W K);generalize Pg.Ez (Be p (Pg.putAt (Af p).recs k r))=o at C ⊢;change Hid (∀ A c W,Cells W A c (Pg.putAt (Af p).recs k r)→Calls _ _ #[.agg #[.int .i64 (Af p).lsn,.int .i64 (Af p).kind,.int .i64 (Af p).link,.slice A (Pg.putAt (Af p).recs k r).length c]] _ _)at C;clear J H I d;generalize Pg.putAt (Af p).recs k r=rs at B C;generalize Af p=x at j B C;go_enter Tryz.func59,Tryz.ntmps59
      go_wp2_with(first|(go_at_call 135;refine(j.out _).mono ?_;rintro e t ⟨z,A,c,rfl,f,g⟩;obtain⟨h,m⟩:=f rfl;clear f;subst h)|(go_at_call 98;refine(l.out _).mono ?_;rintro e u ⟨rfl,a⟩;obtain⟨c0,c1,c2,c3,f0,f1,f2,f3⟩:=Ey (De a);have s:t.heap.size<u.heap.size:=(by have:=a.size;simp at this;omega))|(go_at_call 136;refine(v.out _).mono ?_;rintro e O ⟨rfl,rfl⟩)|(go_at_call 137;refine(B.out _ _ _ (m.cells.below (Bd a))).mono ?_;rintro e S ⟨T,U,rfl,L,D⟩;obtain⟨d0,d1,d2,d3,g0,g1,g2,g3⟩:=Ey (Fb (De a) D))|(go_at_call 138;refine(C.out _ _ _ (Bn.set L _ s _).cells).mono ?_;rintro e V ⟨rfl,M⟩))
      go_ret2;exact⟨rfl,andThen ((andThen (andThen g (Bd a)) D).setCell g.size _) M⟩
theorem iP (p:ByteArray)(i:Int)(r:ByteArray)(K:p.size≤140737488355328)(w:World):
 Cr 97 #[p,i,r] w (Mm (Hu p i r)):=by
 have h:=Hq (fun W=>Gj p K W);have j:=Hq (fun W=>Gq p i K W);have l:=Hq (fun W=>Xr r W);change Hid (∀ W,Calls _ _ _ _ fun e w'=>e= .returned (.bool (Ht r))∧_)at l;have a:=Dp p;unfold Hu
 cases y:Bk p with
 |false=>
  rw[if_pos rfl];rw[y]at h;generalize Af p=x at h;clear a y j l;go_enter Tryz.func97,Tryz.ntmps97
  go_wp2_with(first|(go_at_call 135;refine(h.out _).mono ?_;rintro e s ⟨z,A,c,rfl,b,f⟩))
  go_ret2;exact⟨rfl,Bb f⟩
 |true=>
  rw[y]at h;rw[if_neg (by simp)];clear y
  cases g:Ht r with
  |false=>
   rw[if_pos rfl];rw[g]at l;generalize Af p=x at h;clear a g j;go_enter Tryz.func97,Tryz.ntmps97
   go_wp2_with(first|(go_at_call 135;refine(h.out _).mono ?_;rintro e s ⟨z,A,c,rfl,b,f⟩;obtain⟨g,m⟩:=b rfl;clear b;subst g)|(go_at_call 136;refine(l.out _).mono ?_;rintro e L ⟨rfl,rfl⟩))
   go_ret2;exact⟨rfl,Bb f⟩
  |true=>
   rw[if_neg (by simp)];rw[g]at l;obtain⟨M,N⟩:=D3 g;clear g
   by_cases n:(Pg.Bc (Af p).recs i).size=0
   ·rw[if_pos n]
    rw[decide_eq_true n]at j;generalize Pg.Bc (Af p).recs i=q at j;generalize Af p=x at h;clear a n;go_enter Tryz.func97,Tryz.ntmps97
    go_wp2_with(first|(go_at_call 135;refine(h.out _).mono ?_;rintro e s ⟨z,A,c,rfl,b,f⟩;obtain⟨g,m⟩:=b rfl;clear b;subst g)|(go_at_call 136;refine(l.out _).mono ?_;rintro e L ⟨rfl,rfl⟩)|(go_at_call 98;refine(j.out _).mono ?_;rintro e B ⟨rfl,d⟩;obtain⟨c0,c1,c2,c3,f0,f1,f2,f3⟩:=Ey (De d);have t:s.heap.size<B.heap.size:=(by have:=d.size;simp at this;omega)))
    go_ret2;exact⟨rfl,andThen f (Bd d)⟩
   ·rw[if_neg n]
    obtain⟨C,O⟩:=Pg.J0 n;rw[decide_eq_false n]at j;clear n;generalize Pg.Bc (Af p).recs i=q at j;obtain⟨k,rfl⟩:=Int.eq_ofNat_of_zero_le C;rw[show((k:Int)).toNat=k from rfl];have D:=a.fine.len;have E:=a.fine.sum;have F:=Pg.Kn (Af p).recs k r;have G:=Hq (fun A c W H=>Rh (Af p).recs A c k r (by omega) (by omega) W H);have u:=Hq (fun A c W H=>Xy (Be p (Pg.putAt (Af p).recs k r)) A c (E0 p _) (by show Pg.A4 (Pg.putAt _ _ _)≤_;omega) (.inr ((Pg.Kk _).2 (Pg.Pz a.tight k (by omega)))) W H);generalize Pg.Ez (Be p (Pg.putAt (Af p).recs k r))=o at u ⊢;change Hid (∀ A c W,Cells W A c (Pg.putAt (Af p).recs k r)→Calls _ _ #[.agg #[.int .i64 (Af p).lsn,.int .i64 (Af p).kind,.int .i64 (Af p).link,.slice A (Pg.putAt (Af p).recs k r).length c]] _ _)at u;clear F D E a;generalize Pg.putAt (Af p).recs k r=rs at G u;generalize Af p=x at h G u;go_enter Tryz.func97,Tryz.ntmps97
    go_wp2_with(first|(go_at_call 135;refine(h.out _).mono ?_;rintro e s ⟨z,A,c,rfl,b,f⟩;obtain⟨g,m⟩:=b rfl;clear b;subst g)|(go_at_call 136;refine(l.out _).mono ?_;rintro e L ⟨rfl,rfl⟩)|(go_at_call 98;refine(j.out _).mono ?_;rintro e B ⟨rfl,d⟩;obtain⟨c0,c1,c2,c3,f0,f1,f2,f3⟩:=Ey (De d);have t:s.heap.size<B.heap.size:=(by have:=d.size;simp at this;omega))|(go_at_call 137;refine(G.out _ _ _ (m.cells.below (Bd d))).mono ?_;rintro e P ⟨Q,R,rfl,I,v⟩;obtain⟨d0,d1,d2,d3,g0,g1,g2,g3⟩:=Ey (Fb (De d) v))|(go_at_call 138;refine(u.out _ _ _ (Bn.set I _ t _).cells).mono ?_;rintro e S ⟨rfl,J⟩))
    go_ret2;exact⟨rfl,andThen ((andThen (andThen f (Bd d)) v).setCell f.size _) J⟩
def M9 (p:ByteArray)(i:Int)(r:ByteArray):ByteArray×Int:=
 if Bk p=false then(⟨#[]⟩,1)else if i<0 then(⟨#[]⟩,1)else if Ht r=false then(⟨#[]⟩,1)else if 512<i then(⟨#[]⟩,18)else Pg.Ez (Be p (Pg.Rj (Af p).recs i.toNat r))
def O6 (p:ByteArray)(i:Int):ByteArray×Int:=
 if Bk p=false then(⟨#[]⟩,1)else if(Pg.Bc (Af p).recs i).size=0 then(⟨#[]⟩,21)else Pg.Ez (Be p (Pg.Rk (Af p).recs i.toNat))
theorem pQ (l:List UInt8):(⟨l.toArray⟩:ByteArray).data.toList=l:=rfl
theorem eQ (p:ByteArray):(⟨p.data.toList.toArray⟩:ByteArray)=p:=by
 apply ByteArray.ext
 rw[Array.toArray_toList]
theorem Y8 {p q:ByteArray}(h:p.data.toList=q.data.toList):p=q:=ByteArray.ext (Array.toList_inj.1 h)
theorem eR {p:ByteArray}{x:Pg.Cx}(h:Pg.right p.data.toList=some x):Bk p=true∧Af p=x:=by
 unfold Bk Af Pg.Jo;rw[h];exact⟨rfl,rfl⟩
theorem Tp {p:ByteArray}(h:Bk p=true):Pg.right p.data.toList=some (Af p):=by
 unfold Bk at h;unfold Af Pg.Jo
 cases a:Pg.right p.data.toList with
 |none=>rw[a]at h;cases h
 |some x=>rfl
theorem Fl (p:ByteArray):p.data.toList.length=p.size:=by simp
def C8 (x:Pg.Cx):ByteArray:=⟨(Pg.C7 x).toArray⟩
theorem R9 (x:Pg.Cx):(C8 x).data.toList=Pg.C7 x:=rfl
theorem Sa {x:Pg.Cx}(a:Pg.A4 (Pg.trim x.recs)≤512):(C8 x).size=512:=by
 rw[← Fl,R9];exact Pg.Li a
theorem N7 {x:Pg.Cx}(a:Pg.Small x)(b:Pg.A4 (Pg.trim x.recs)≤512)(c:∀ r∈x.recs,r.size≤400):Bk (C8 x)=true∧Af (C8 x)={x with recs:=Pg.trim x.recs}:=
 eR (by rw[R9];exact Pg.aQ a b c)
theorem Lr {x:Pg.Cx}(a:Pg.A4 (Pg.trim x.recs)≤512):Pg.Ez x=(C8 x,0):=Pg.O0 a
theorem P7 (x:Pg.Cx):(Pg.A4 (Pg.trim x.recs)≤512∧Pg.Ez x=(C8 x,0))∨(512<Pg.A4 (Pg.trim x.recs)∧Pg.Ez x=(⟨#[]⟩,18)):=by
 rcases Nat.lt_or_ge 512 (Pg.A4 (Pg.trim x.recs))with h|h
 ·exact .inr ⟨h,Pg.Xw h⟩
 ·exact .inl ⟨h,Pg.O0 h⟩
theorem sX (n:Nat):(Oct.Ba (n:Int) 4).data.toList=Oct.Bi (Oct.word n) 4:=Oct.Bt _ 4 (by omega)
theorem Sb (t:ByteArray):(K4 t).data.toList=Oct.Bi (Oct.word (Oct.Gm t.data.toList)) 4++t.data.toList:=by
 unfold K4;rw[ByteArray.data_append,Array.toList_append,sX]
theorem Ls (p:ByteArray)(h:p.size=512):(p.extract 4 512).data.toList=p.data.toList.drop 4:=by
 rw[show 512=4+508 from rfl,extract_eq]
 show(p.data.toList.drop 4).take 508=_
 exact List.take_of_length_le (by rw[List.length_drop,Fl];omega)
theorem Gb {p:ByteArray}(h:Bk p=true):Bk (Dn p)=true∧Af (Dn p)=Af p∧Hn (Dn p)=true∧(Dn p).size=512:=by
 have e:=Gk h;have a:(Dn p).data.toList=Oct.Bi (Oct.word (Oct.Gm (p.data.toList.drop 4))) 4++p.data.toList.drop 4:=by
  unfold Dn;rw[if_pos h,Sb,Ls p e]
 have b:(Dn p).size=512:=by
  rw[← Fl,a,List.length_append,Oct.A5,List.length_drop,Fl];omega
 have c:(Dn p).data.toList.drop 4=p.data.toList.drop 4:=by rw[a];exact List.drop_left' (Oct.A5 _ 4)
 have f:=Pg.gC (q:=(Dn p).data.toList) (Tp h) (by rw[Fl];exact b) c;obtain⟨d,g⟩:=eR f;refine⟨d,g,?_,b⟩;unfold Hn;rw[d,Bool.true_and]
 apply decide_eq_true
 apply Y8
 rw[Sb,Ls _ b,c];exact a.symm
end Go.Proofs.YtmldoihahndcgaaGreatDoor
namespace Pg
def Dm (rs:List ByteArray)(j:Nat):ByteArray:=(rs[j]?).getD ⟨#[]⟩
theorem J5 {rs:List ByteArray}{j:Nat}(h:rs.length≤j):Dm rs j=⟨#[]⟩:=by
 unfold Dm;rw[List.getElem?_eq_none h];rfl
theorem cH {rs:List ByteArray}{j:Nat}(h:j<rs.length):Dm rs j=rs[j]:=by
 unfold Dm;rw[List.getElem?_eq_getElem h];rfl
theorem Df (rs:List ByteArray)(k:Nat):Bc rs (k:Int)=Dm rs k:=by
 unfold Bc Dm;rw[if_neg (by omega)];rfl
theorem nil_of_size {r:ByteArray}(h:r.size=0):r=⟨#[]⟩:=by
 apply ByteArray.ext
 exact Array.eq_empty_of_size_eq_zero h
theorem cI (rs:List ByteArray):∀ m j,Ea rs m≤j→j<m→(Dm rs j).size=0:=by
 intro m
 induction m with
 |zero=>intro j _ h;omega
 |succ m ih=>
  intro j a d;unfold Ea at a
  split at a
  ·rename_i b
   by_cases c:j=m
   ·rw[c];exact b
   ·exact ih j a (by omega)
  ·omega
theorem N8 (rs:List ByteArray)(j:Nat):Dm (trim rs) j=Dm rs j:=by
 have a:=Np rs rs.length
 by_cases h:j<Ea rs rs.length
 ·unfold Dm trim
  rw[List.getElem?_take_of_lt h]
 ·have b:Dm (trim rs) j=⟨#[]⟩:=J5 (by unfold trim;rw[List.length_take];omega)
  rw[b]
  by_cases c:j<rs.length
  ·exact(nil_of_size (cI rs rs.length j (by omega) c)).symm
  ·exact(J5 (by omega)).symm
theorem iQ {rs ss:List ByteArray}(g:Iz rs)(i:Iz ss)(h:∀ j,Dm rs j=Dm ss j):rs=ss:=by
 have key:∀ {a b:List ByteArray},Iz a→(∀ j,Dm a j=Dm b j)→a.length≤b.length:=by
  intro a b k c;rcases Ri k with h0|h0
  ·omega
  ·rcases Nat.lt_or_ge b.length a.length with l|hge
   ·exfalso
    apply h0
    have d:=c (a.length-1);have m:Dm b (a.length-1)=⟨#[]⟩:=J5 (by omega);rw[m]at d;unfold Dm at d;rw[d];rfl
   ·exact hge
 have n:rs.length=ss.length:=Nat.le_antisymm (key g h) (key i fun j=>(h j).symm)
 apply List.ext_getElem n
 intro j e f;have:=h j
 rwa[cH e,cH f]at this
theorem Y9 {rs ss:List ByteArray}(h:∀ j,Dm rs j=Dm ss j):trim rs=trim ss:=
 iQ (Ow rs) (Ow ss) fun j=>by rw[N8,N8,h]
theorem Eh (rs:List ByteArray)(k:Nat)(r:ByteArray)(j:Nat):Dm (putAt rs k r) j=if j=k then r else Dm rs j:=T6 rs k r j
theorem J6 (rs:List ByteArray)(k:Nat)(r:ByteArray)(j:Nat):Dm (Rj rs k r) j=if j<k then Dm rs j else if j=k then r else Dm rs (j-1):=by
 unfold Rj
 split
 ·rename_i h
  rw[Eh]
  by_cases a:j=k
  ·rw[if_pos a,if_neg (by omega),if_pos a]
  ·rw[if_neg a]
   by_cases b:j<k
   ·rw[if_pos b]
   ·rw[if_neg b,if_neg a,J5 (by omega),J5 (by omega)]
 ·rename_i h
  unfold Dm;rw[List.append_assoc,List.getElem?_append];have c:(rs.take k).length=k:=by rw[List.length_take];omega
  rw[c]
  by_cases b:j<k
  ·rw[if_pos b,if_pos b,List.getElem?_take_of_lt b]
  ·rw[if_neg b,if_neg b,List.singleton_append]
   by_cases a:j=k
   ·rw[if_pos a,a,Nat.sub_self];rfl
   ·rw[if_neg a]
    obtain⟨m,rfl⟩:∃ m,j=k+1+m:=⟨j-(k+1),by omega⟩;rw[show k+1+m-k=m+1 by omega,List.getElem?_cons_succ,List.getElem?_drop,show k+1+m-1=k+m by omega]
theorem O7 (rs:List ByteArray)(k:Nat)(h:k<rs.length)(j:Nat):Dm (Rk rs k) j=if j<k then Dm rs j else Dm rs (j+1):=by
 unfold Rk Dm;rw[List.getElem?_append];have b:(rs.take k).length=k:=by rw[List.length_take];omega
 rw[b]
 by_cases a:j<k
 ·rw[if_pos a,if_pos a,List.getElem?_take_of_lt a]
 ·rw[if_neg a,if_neg a,List.getElem?_drop,show k+1+(j-k)=j+1 by omega]
end Pg
namespace Go.Proofs.YtmldoihahndcgaaGreatDoor
open Go.RowKit
structure Made (p q:ByteArray) (rs:List ByteArray):Prop where
 Bk:Bk q=true
 size:q.size=512
 lsn:(Af q).lsn=(Af p).lsn
 kind:(Af q).kind=(Af p).kind
 link:(Af q).link=(Af p).link
 Dm:∀ j,Pg.Dm (Af q).recs j=Pg.Dm rs j
theorem It {p q:ByteArray}{rs:List ByteArray}{e:Int}(g:∀ r∈rs,r.size≤400)(h:Pg.Ez (Be p rs)=(q,e))(i:e=0):Made p q rs∧q=C8 (Be p rs):=by
 rcases P7 (Be p rs)with⟨b,c⟩|⟨b,c⟩
 ·rw[c]at h
  injection h with d _
  obtain⟨f,a⟩:=N7 (E0 p rs) b g;rw[d]at f a;refine⟨⟨f,by rw[← d];exact Sa b,by rw[a];rfl,by rw[a];rfl,by rw[a];rfl,fun j=>?_⟩,d.symm⟩;rw[a];exact Pg.N8 rs j
 ·rw[c]at h
  injection h with _ k
  omega
theorem Sd {p:ByteArray}(h:Bk p=true):Bg p ((Af p).lsn:Nat)=C8 (Af p):=by
 have a:=(Dp p).fine.small.1;unfold Bg;rw[if_neg (by rw[h];simp;omega)]
 rfl
theorem J7 {p q:ByteArray}{rs:List ByteArray}(c:Bk p=true)(d:(Af q).lsn=(Af p).lsn)(f:(Af q).kind=(Af p).kind)(g:(Af q).link=(Af p).link)(h:∀ j,Pg.Dm rs j=Pg.Dm (Af p).recs j):
 Pg.Ez (Be q rs)=(Bg p ((Af p).lsn:Nat),0):=by
 have a:=Dp p;have b:Pg.trim rs=(Af p).recs:=by rw[Pg.Y9 h];exact Pg.Ec a.tight
 have i:Pg.A4 (Pg.trim (Be q rs).recs)≤512:=by show Pg.A4 (Pg.trim rs)≤512;rw[b];exact a.fits
 rw[Sd c,Lr i];have e:Pg.C7 (Be q rs)=Pg.C7 (Af p):=by
  unfold Pg.C7;have k:(Be q rs).recs=rs:=rfl;rw[k,b,Pg.Ec a.tight];unfold Pg.Lb Pg.K3;rw[show(Be q rs).lsn=(Af p).lsn from d,show(Be q rs).kind=(Af p).kind from f,show(Be q rs).link=(Af p).link from g]
 unfold C8;rw[e]
theorem F8 {a b:ByteArray}{x y:Int}(h:(a,x)=(b,y)):a=b∧x=y:=by injection h with c d;exact⟨c,d⟩
theorem Fx {b:Bool}(h:¬ b=false):b=true:=by cases b;exact absurd rfl h;rfl
theorem E4 (p:ByteArray):∀ r∈(Af p).recs,r.size≤400:=(Dp p).fine.each
theorem V5 {p q r:ByteArray}{i:Int}(h:Jq p i r=(q,0)):∃ k:Nat,i=k∧Bk p=true∧(Pg.Dm (Af p).recs k).size=0∧Ht r=true∧k≤512∧Made p q (Pg.putAt (Af p).recs k r):=by
 unfold Jq at h
 split at h
 ·have:=(F8 h).2;omega
 ·rename_i b
  split at h
  ·have:=(F8 h).2;omega
  ·rename_i e
   obtain⟨k,rfl⟩:=Int.eq_ofNat_of_zero_le (show 0≤i by omega);rw[Pg.Df]at h
   split at h
   ·have:=(F8 h).2;omega
   ·rename_i c
    split at h
    ·have:=(F8 h).2;omega
    ·rename_i d
     split at h
     ·have:=(F8 h).2;omega
     ·rename_i f
      have a:Ht r=true:=(by simpa using d);refine⟨k,rfl,Fx b,by simpa using c,a,by omega,(It (Pg.G7 (E4 p) (D3 a).2) h rfl).1⟩
theorem V6 {p q:ByteArray}{i:Int}(h:O1 p i=(q,0)):∃ k:Nat,i=k∧Bk p=true∧(Pg.Dm (Af p).recs k).size≠0∧k<(Af p).recs.length∧Made p q (Pg.putAt (Af p).recs k ⟨#[]⟩):=by
 unfold O1 at h
 split at h
 ·have:=(F8 h).2;omega
 ·rename_i b
  split at h
  ·have:=(F8 h).2;omega
  ·rename_i a
   obtain⟨c,d⟩:=Pg.J0 a;obtain⟨k,rfl⟩:=Int.eq_ofNat_of_zero_le c;rw[Pg.Df]at a;exact⟨k,rfl,Fx b,a,by omega,(It (Pg.G7 (E4 p) (by show(0:Nat)≤400;omega)) h rfl).1⟩
theorem V7 {p q r:ByteArray}{i:Int}(h:Hu p i r=(q,0)):∃ k:Nat,i=k∧Bk p=true∧Ht r=true∧(Pg.Dm (Af p).recs k).size≠0∧k<(Af p).recs.length∧Made p q (Pg.putAt (Af p).recs k r):=by
 unfold Hu at h
 split at h
 ·have:=(F8 h).2;omega
 ·rename_i c
  split at h
  ·have:=(F8 h).2;omega
  ·rename_i d
   split at h
   ·have:=(F8 h).2;omega
   ·rename_i a
    have b:Ht r=true:=(by simpa using d);obtain⟨e,f⟩:=Pg.J0 a;obtain⟨k,rfl⟩:=Int.eq_ofNat_of_zero_le e;rw[Pg.Df]at a;exact⟨k,rfl,Fx c,b,a,by omega,(It (Pg.G7 (E4 p) (D3 b).2) h rfl).1⟩
theorem V8 {p q r:ByteArray}{i:Int}(h:M9 p i r=(q,0)):∃ k:Nat,i=k∧Bk p=true∧Ht r=true∧k≤512∧Made p q (Pg.Rj (Af p).recs k r):=by
 unfold M9 at h
 split at h
 ·have:=(F8 h).2;omega
 ·rename_i b
  split at h
  ·have:=(F8 h).2;omega
  ·rename_i d
   obtain⟨k,rfl⟩:=Int.eq_ofNat_of_zero_le (show 0≤i by omega)
   split at h
   ·have:=(F8 h).2;omega
   ·rename_i c
    split at h
    ·have:=(F8 h).2;omega
    ·have a:Ht r=true:=by simpa using c
     exact⟨k,rfl,Fx b,a,by omega,(It (Pg.T7 (E4 p) (D3 a).2) h rfl).1⟩
theorem V9 {p q:ByteArray}{i:Int}(h:O6 p i=(q,0)):∃ k:Nat,i=k∧Bk p=true∧(Pg.Dm (Af p).recs k).size≠0∧k<(Af p).recs.length∧Made p q (Pg.Rk (Af p).recs k):=by
 unfold O6 at h
 split at h
 ·have:=(F8 h).2;omega
 ·rename_i b
  split at h
  ·have:=(F8 h).2;omega
  ·rename_i a
   obtain⟨c,d⟩:=Pg.J0 a;obtain⟨k,rfl⟩:=Int.eq_ofNat_of_zero_le c;rw[Pg.Df]at a;exact⟨k,rfl,Fx b,a,by omega,(It (Pg.T8 (E4 p)) h rfl).1⟩
theorem nH {rs:List ByteArray}{k:Nat}(h:(Pg.Dm rs k).size≠0):k<rs.length:=by
 rcases Nat.lt_or_ge k rs.length with h1|h1
 ·exact h1
 ·rw[Pg.J5 h1]at h;exact absurd rfl h
theorem Wa {p:ByteArray}{k:Nat}(h:(Pg.Dm (Af p).recs k).size≠0):Ht (Pg.Dm (Af p).recs k)=true:=by
 unfold Ht
 apply decide_eq_true
 have a:=nH h;refine⟨by omega,?_⟩;rw[Pg.cH a];exact E4 p _ (List.getElem_mem a)
theorem eS {p r:ByteArray}{k:Nat}(a:Bk p=true)(c:(Pg.Dm (Af p).recs k).size=0)(b:Ht r=true)(d:k≤512):Jq p k r=Pg.Ez (Be p (Pg.putAt (Af p).recs k r)):=by
 unfold Jq;rw[if_neg (by rw[a];simp),if_neg (by omega),if_neg (by rw[Pg.Df];omega),if_neg (by rw[b];simp),if_neg (by omega)];rfl
theorem eT {p:ByteArray}{k:Nat}(a:Bk p=true)(b:(Pg.Dm (Af p).recs k).size≠0):O1 p k=Pg.Ez (Be p (Pg.putAt (Af p).recs k ⟨#[]⟩)):=by
 unfold O1;rw[if_neg (by rw[a];simp),if_neg (by rw[Pg.Df];exact b)];rfl
theorem eU {p r:ByteArray}{k:Nat}(a:Bk p=true)(b:Ht r=true)(c:(Pg.Dm (Af p).recs k).size≠0):Hu p k r=Pg.Ez (Be p (Pg.putAt (Af p).recs k r)):=by
 unfold Hu;rw[if_neg (by rw[a];simp),if_neg (by rw[b];simp),if_neg (by rw[Pg.Df];exact c)];rfl
theorem eV {p r:ByteArray}{k:Nat}(a:Bk p=true)(b:Ht r=true)(c:k≤512):M9 p k r=Pg.Ez (Be p (Pg.Rj (Af p).recs k r)):=by
 unfold M9;rw[if_neg (by rw[a];simp),if_neg (by omega),if_neg (by rw[b];simp),if_neg (by omega)];rfl
theorem eW {p:ByteArray}{k:Nat}(a:Bk p=true)(b:(Pg.Dm (Af p).recs k).size≠0):O6 p k=Pg.Ez (Be p (Pg.Rk (Af p).recs k)):=by
 unfold O6;rw[if_neg (by rw[a];simp),if_neg (by rw[Pg.Df];exact b)];rfl
def Mw (p:ByteArray):ByteArray:=Bg p ((Af p).lsn:Nat)
theorem sY {p q r:ByteArray}{i:Int}(h:Jq p i r=(q,0)):(Pg.Bc (Af p).recs i).size=0∧q.size=512∧O1 q i=(Mw p,0):=by
 obtain⟨k,rfl,c,b,d,hk,M⟩:=V5 h;have e:=D3 d;refine⟨by rw[Pg.Df];exact b,M.size,?_⟩;rw[eT M.Bk (by rw[M.Dm,Pg.Eh,if_pos rfl];omega)];refine J7 c M.lsn M.kind M.link fun j=>?_;rw[Pg.Eh,M.Dm,Pg.Eh]
 by_cases a:j=k
 ·rw[if_pos a,a,Pg.nil_of_size b]
 ·rw[if_neg a,if_neg a]
theorem sZ {p q:ByteArray}{i:Int}(h:O1 p i=(q,0)):(Pg.Bc (Af p).recs i).size≠0∧q.size=512∧Jq q i (Pg.Bc (Af p).recs i)=(Mw p,0):=by
 obtain⟨k,rfl,c,b,hk,M⟩:=V6 h;have d:=(Dp p).fine.len;rw[Pg.Df];refine⟨b,M.size,?_⟩;rw[eS M.Bk (by rw[M.Dm,Pg.Eh,if_pos rfl];rfl) (Wa b) (by omega)];refine J7 c M.lsn M.kind M.link fun j=>?_;rw[Pg.Eh,M.Dm,Pg.Eh]
 by_cases a:j=k
 ·rw[if_pos a,a]
 ·rw[if_neg a,if_neg a]
theorem tA {p q r:ByteArray}{i:Int}(h:Hu p i r=(q,0)):(Pg.Bc (Af p).recs i).size≠0∧q.size=512∧Hu q i (Pg.Bc (Af p).recs i)=(Mw p,0)∧(Af q).lsn=(Af p).lsn∧(Af q).kind=(Af p).kind∧(Af q).link=(Af p).link:=by
 obtain⟨k,rfl,c,d,b,hk,M⟩:=V7 h;have e:=D3 d;rw[Pg.Df];refine⟨b,M.size,?_,M.lsn,M.kind,M.link⟩;rw[eU M.Bk (Wa b) (by rw[M.Dm,Pg.Eh,if_pos rfl];omega)];refine J7 c M.lsn M.kind M.link fun j=>?_;rw[Pg.Eh,M.Dm,Pg.Eh]
 by_cases a:j=k
 ·rw[if_pos a,a]
 ·rw[if_neg a,if_neg a]
theorem tC {p q r:ByteArray}{i:Int}(h:M9 p i r=(q,0)):q.size=512∧O6 q i=(Mw p,0):=by
 obtain⟨k,rfl,c,d,hk,M⟩:=V8 h;have e:=D3 d;refine⟨M.size,?_⟩;have b:(Pg.Dm (Af q).recs k).size≠0:=by rw[M.Dm,Pg.J6,if_neg (by omega),if_pos rfl];omega
 rw[eW M.Bk b];refine J7 c M.lsn M.kind M.link fun j=>?_;rw[Pg.O7 _ _ (nH b)]
 by_cases a:j<k
 ·rw[if_pos a,M.Dm,Pg.J6,if_pos a]
 ·rw[if_neg a,M.Dm,Pg.J6,if_neg (by omega),if_neg (by omega),Nat.add_sub_cancel]
theorem tD {p q:ByteArray}{i:Int}(h:O6 p i=(q,0)):q.size=512∧M9 q i (Pg.Bc (Af p).recs i)=(Mw p,0):=by
 obtain⟨k,rfl,c,d,hk,M⟩:=V9 h;have e:=(Dp p).fine.len;rw[Pg.Df];refine⟨M.size,?_⟩;rw[eV M.Bk (Wa d) (by omega)];refine J7 c M.lsn M.kind M.link fun j=>?_;rw[Pg.J6,M.Dm,M.Dm,Pg.O7 _ _ hk,Pg.O7 _ _ hk]
 by_cases b:j<k
 ·rw[if_pos b,if_pos b]
 ·rw[if_neg b]
  by_cases a:j=k
  ·rw[if_pos a,a]
  ·rw[if_neg a,if_neg (by omega),show j-1+1=j by omega]
end Go.Proofs.YtmldoihahndcgaaGreatDoor
namespace NumPlain
def oR (n:Int):Bool:=decide (-1000000000000000≤n)&&decide (n≤1000000000000000)
theorem nI {n:Int}(h:oR n=true): -1000000000000000≤n∧n≤1000000000000000:=by
 simpa[oR]using h
theorem nJ {n:Int}(a: -1000000000000000≤n)(b:n≤1000000000000000):oR n=true:=by
 simp[oR,a,b]
def A4 (a:Int):Int:=if a<0 then -a else a
open Go.Lib
theorem Jj {d:Nat}(h:d<10):(UInt8.ofNat (48+d)).toNat=48+d:=by
 rw[UInt8.toNat_ofNat'];omega
theorem N9:∀ (u:Nat),u≤1000000000000000→parseUint10 0 (decDigits u)= .ok u:=by
 have key:∀ (u:Nat),u≤1000000000000000→∀ r,parseUint10 0 (decDigits u++r)=parseUint10 u r:=by
  intro u
  induction u using Nat.strongRecOn with
  |_ u b=>
   intro a r;rw[decDigits]
   by_cases h:u<10
   ·rw[dif_pos h]
    simp only[List.cons_append,List.nil_append,parseUint10,Jj h];rw[if_pos (by omega),if_neg (by omega),if_neg (by omega)]
    congr 1;omega
   ·rw[dif_neg h,List.append_assoc,b (u/10) (by omega) (by omega)]
    simp only[List.cons_append,List.nil_append,parseUint10,Jj (show u%10<10 by omega)];rw[if_pos (by omega),if_neg (by omega),if_neg (by omega)]
    congr 1;omega
 intro u a;have:=key u a []
 simpa[parseUint10]using this
theorem Wb (u:Nat):decDigits u≠[]:=by
 rw[decDigits];split<;>simp
theorem Se (u:Nat):∃ c r,decDigits u=c::r∧48≤c.toNat∧c.toNat≤57:=by
 induction u using Nat.strongRecOn with
 |_ u a=>
  rw[decDigits]
  by_cases h:u<10
  ·rw[dif_pos h]
   exact⟨_,_,rfl,by rw[Jj h];omega,by rw[Jj h];omega⟩
  ·rw[dif_neg h]
   obtain⟨c,r,e,b,d⟩:=a (u/10) (by omega);exact⟨c,r++[UInt8.ofNat (48+u%10)],by rw[e];rfl,b,d⟩
theorem Kx {v:Int}(b:oR v=true):atoiAll (itoa v)= .ok v:=by
 obtain⟨g,h⟩:=nI b
 by_cases i:v<0
 ·obtain⟨u,rfl⟩:∃ u:Nat,v= -(u:Int):=⟨v.natAbs,by omega⟩
  rw[itoa_neg u (by omega)];have a:parseMag (decDigits u)= .ok u:=by rw[parseMag,if_neg (Wb u),N9 u (by omega)]
  simp only[atoiAll];rw[if_pos (by decide),a];simp only[];rw[if_neg (by simp),if_neg (by omega),if_pos (by decide)]
 ·obtain⟨u,rfl⟩:∃ u:Nat,v=(u:Int):=⟨v.natAbs,by omega⟩
  rw[itoa_nonneg u];obtain⟨c,r,e,d,f⟩:=Se u;have a:=N9 u (by omega);rw[e]at a;simp only[e,atoiAll];rw[if_neg (by omega)];simp only[parseMag,if_neg (List.cons_ne_nil c r),a];rw[if_neg (by omega),if_neg (by omega),if_neg (by omega)]
def Fg (l:List UInt8):Int×Bool:=
 match atoiAll l with
 | .ok v=>if oR v&&decide (itoa v=l)then(v,true)else(0,false)
 |_=>(0,false)
theorem Za {v:Int}(a:oR v=true):Fg (itoa v)=(v,true):=by
 simp[Fg,Kx a,a]
theorem iR {l:List UInt8}{v:Int}(h:Fg l=(v,true)):oR v=true∧itoa v=l:=by
 unfold Fg at h
 split at h
 ·split at h
  ·rename_i a
   simp only[Bool.and_eq_true,decide_eq_true_eq]at a;simp only[Prod.mk.injEq,and_true]at h;subst h;exact a
  ·simp at h
 ·simp at h
theorem cJ {l:List UInt8}(h:(Fg l).2=true):oR (Fg l).1=true∧itoa (Fg l).1=l:=
 iR (v:=(Fg l).1) (by rw[← h])
end NumPlain
namespace Go.Proofs.YtmldoihahndcgaaGreatDoor
open Go.RowKit
structure J8 where
 kind:Int
 slot:Int
 Cs:ByteArray
 new:ByteArray
def P8 (n:Int):ByteArray:=⟨(Lib.itoa n).toArray⟩
def Du:ByteArray×Bool:=(⟨#[]⟩,false)
def okB (x:ByteArray×Int):ByteArray×Bool:=(x.1,decide (x.2=0))
def F5 (p:ByteArray)(o:J8):Bool:= !decide ((Pg.Bc (Af p).recs o.slot).size=0)&&decide (o.Cs=Pg.Bc (Af p).recs o.slot)
def Gc (p:ByteArray)(o:J8):ByteArray×Bool:=
 match Lib.atoiAll o.new.data.toList with
 | .ok n=>if P8 n=o.new∧o.Cs=P8 ((Af p).link:Nat)∧o.slot=0 then(F9 p n,!decide ((F9 p n).size=0))else Du
 |_=>Du
def Gf (p:ByteArray)(o:J8):ByteArray×Bool:=
 if o.slot=0∧o.Cs=Bg p 0∧¬ o.new.size=0∧Bg o.new 0=o.new then(Bg o.new ((Af p).lsn:Nat),!decide ((Bg o.new ((Af p).lsn:Nat)).size=0))else Du
def Dg (p:ByteArray)(o:J8):ByteArray×Bool:=
 if o.kind=1 then(if o.Cs.size=0 then okB (Jq p o.slot o.new)else Du)
 else if o.kind=2 then(if F5 p o&&decide (o.new.size=0)then okB (O1 p o.slot)else Du)
 else if o.kind=3 then(if F5 p o then okB (Hu p o.slot o.new)else Du)
 else if o.kind=4 then(if o.Cs.size=0 then okB (M9 p o.slot o.new)else Du)
 else if o.kind=5 then(if F5 p o&&decide (o.new.size=0)then okB (O6 p o.slot)else Du)
 else if o.kind=6 then Gc p o
 else if o.kind=7 then Gf p o
 else Du
def D9 (p:ByteArray)(o:J8):Bool:=Bk p&&(Dg p o).2
def aJ (p:ByteArray)(o:J8):ByteArray×Int:=if D9 p o then((Dg p o).1,0)else(⟨#[]⟩,1)
def tE (k:Int):Int:=if k=1 then 2 else if k=2 then 1 else if k=4 then 5 else if k=5 then 4 else k
def eX (o:J8):J8:=⟨tE o.kind,o.slot,o.new,o.Cs⟩
theorem Oa {x:ByteArray×Int}(h:(okB x).2=true):x=(x.1,0):=by
 obtain⟨a,e⟩:=x;have:e=0:=of_decide_eq_true h;rw[this]
theorem eY {p:ByteArray}{n:Int}(h:¬ (Bg p n).size=0):Bk p=true∧0≤n∧n<281474976710656:=by
 unfold Bg at h
 split at h
 ·exact absurd rfl h
 ·rename_i a
  cases b:Bk p with
  |false=>exact absurd (.inl b) a
  |true=>exact⟨rfl,by omega,by omega⟩
theorem Ob {p:ByteArray}{n:Int}(h:¬ (F9 p n).size=0):Bk p=true∧0≤n∧n<16777216:=by
 unfold F9 at h
 split at h
 ·exact absurd rfl h
 ·rename_i a
  cases b:Bk p with
  |false=>exact absurd (.inl b) a
  |true=>exact⟨rfl,by omega,by omega⟩
theorem eZ (p:ByteArray){l k:Nat}(d:l<281474976710656)(hk:k<16777216):Bk (C8 ⟨l,(Af p).kind,k,(Af p).recs⟩)=true∧Af (C8 ⟨l,(Af p).kind,k,(Af p).recs⟩)=⟨l,(Af p).kind,k,(Af p).recs⟩∧(C8 ⟨l,(Af p).kind,k,(Af p).recs⟩).size=512:=by
 have a:=Dp p;have b:=Pg.Ec a.tight;have c:Pg.A4 (Pg.trim (Af p).recs)≤512:=by rw[b];exact a.fits
 obtain⟨e,f⟩:=N7 (x:=⟨l,(Af p).kind,k,(Af p).recs⟩) ⟨d,a.fine.small.2.1,hk⟩ c a.fine.each;refine⟨e,?_,Sa c⟩;rw[f];simp only[b]
theorem Oc {p:ByteArray}(h:Bk p=true){l:Nat}(a:l<281474976710656):Bg p (l:Int)=C8 ⟨l,(Af p).kind,(Af p).link,(Af p).recs⟩:=by
 unfold Bg;rw[if_neg (by rw[h];simp;omega)]
 rfl
theorem O8 {p:ByteArray}(h:Bk p=true){k:Nat}(hk:k<16777216):F9 p (k:Int)=C8 ⟨(Af p).lsn,(Af p).kind,k,(Af p).recs⟩:=by
 unfold F9;rw[if_neg (by rw[h];simp;omega)]
 rfl
theorem Gl (p:ByteArray):(Af p).lsn<281474976710656:=(Dp p).fine.small.1
theorem Nb (p:ByteArray):(Af p).link<16777216:=(Dp p).fine.small.2.2
theorem Ia {p:ByteArray}(h:Bk p=true){l:Nat}(a:l<281474976710656):Bk (Bg p (l:Int))=true∧Af (Bg p (l:Int))=⟨l,(Af p).kind,(Af p).link,(Af p).recs⟩∧(Bg p (l:Int)).size=512:=by
 rw[Oc h a];exact eZ p a (Nb p)
theorem iS {p:ByteArray}(h:Bk p=true){k:Nat}(hk:k<16777216):Bk (F9 p (k:Int))=true∧Af (F9 p (k:Int))=⟨(Af p).lsn,(Af p).kind,k,(Af p).recs⟩∧(F9 p (k:Int)).size=512:=by
 rw[O8 h hk];exact eZ p (Gl p) hk
theorem Qs {p:ByteArray}(h:Bk p=true){l m:Nat}(b:l<281474976710656)(a:m<281474976710656):Bg (Bg p (l:Int)) (m:Int)=Bg p (m:Int):=by
 obtain⟨c,d,_⟩:=Ia h b;rw[Oc c a,Oc h a,d]
theorem Nc {p:ByteArray}(h:Bk p=true):Mw p=C8 (Af p):=Sd h
theorem Zb {p:ByteArray}(h:Bk p=true):Bk (Mw p)=true∧Af (Mw p)=Af p∧(Mw p).size=512:=Ia h (Gl p)
theorem iT (n:Nat)(h:n<16777216):Lib.atoiAll (P8 (n:Int)).data.toList= .ok (n:Int):=by
 show Lib.atoiAll (Lib.itoa (n:Int))=_
 exact NumPlain.Kx (NumPlain.nJ (by omega) (by omega))
structure rP (p q:ByteArray) (o:J8):Prop where
 Ac:Bk q=true
 size:q.size=512
 lsn:(Af q).lsn=(Af p).lsn
 norm:Mw q=q
 back:Dg q (eX o)=(Mw p,true)
theorem J9 {p q:ByteArray}{rs:List ByteArray}(b:∀ r∈rs,r.size≤400)(h:Pg.Ez (Be p rs)=(q,0)):Mw q=q:=by
 obtain⟨M,c⟩:=It b h rfl;rw[Nc M.Bk];have a:Pg.A4 (Pg.trim rs)≤512:=by
  rcases P7 (Be p rs)with⟨a,_⟩|⟨_,f⟩
  ·exact a
  ·rw[f]at h;injection h with _ h;omega
 obtain⟨_,d⟩:=N7 (E0 p rs) a b;rw[← c]at d;rw[d];have g:Pg.trim (Pg.trim rs)=Pg.trim rs:=Pg.Y9 fun j=>Pg.N8 rs j;have e:Pg.C7 {Be p rs with recs:=Pg.trim (Be p rs).recs}=Pg.C7 (Be p rs):=by
  unfold Pg.C7
  show Pg.Lb _ (Pg.trim (Pg.trim rs))=Pg.Lb _ (Pg.trim rs)
  rw[g]
  rfl
 rw[c];unfold C8;rw[e]
theorem iU {p q r:ByteArray}{i:Int}(h:Jq p i r=(q,0)):Mw q=q:=by
 obtain⟨k,rfl,b,c,a,hk,_⟩:=V5 h;rw[eS b c a hk]at h;exact J9 (Pg.G7 (E4 p) (D3 a).2) h
theorem iV {p q:ByteArray}{i:Int}(h:O1 p i=(q,0)):Mw q=q:=by
 obtain⟨k,rfl,a,b,hk,_⟩:=V6 h;rw[eT a b]at h;exact J9 (Pg.G7 (E4 p) (by show 0≤400;omega)) h
theorem iW {p q r:ByteArray}{i:Int}(h:Hu p i r=(q,0)):Mw q=q:=by
 obtain⟨k,rfl,b,a,c,hk,_⟩:=V7 h;rw[eU b a c]at h;exact J9 (Pg.G7 (E4 p) (D3 a).2) h
theorem iX {p q r:ByteArray}{i:Int}(h:M9 p i r=(q,0)):Mw q=q:=by
 obtain⟨k,rfl,b,a,hk,_⟩:=V8 h;rw[eV b a hk]at h;exact J9 (Pg.T7 (E4 p) (D3 a).2) h
theorem iY {p q:ByteArray}{i:Int}(h:O6 p i=(q,0)):Mw q=q:=by
 obtain⟨k,rfl,a,b,hk,_⟩:=V9 h;rw[eW a b]at h;exact J9 (Pg.T8 (E4 p)) h
theorem O9 {p:ByteArray}{o:J8}(h:F5 p o=true):(Pg.Bc (Af p).recs o.slot).size≠0∧o.Cs=Pg.Bc (Af p).recs o.slot:=by
 unfold F5 at h;rw[Bool.and_eq_true]at h;exact⟨by simpa using h.1,of_decide_eq_true h.2⟩
theorem Sf {p:ByteArray}{o:J8}(h:o.Cs.size≠0)(a:Pg.Bc (Af p).recs o.slot=o.Cs):F5 p o=true:=by
 unfold F5;rw[a]
 simp[h]
theorem rQ {p:ByteArray}{o:J8}(h:D9 p o=true):rP p (Dg p o).1 o:=by
 unfold D9 at h;rw[Bool.and_eq_true]at h;obtain⟨q,a⟩:=h;obtain⟨kind,slot,Cs,new⟩:=o
 by_cases v:kind=1
 ·subst v
  have e:Dg p ⟨1,slot,Cs,new⟩=if Cs.size=0 then okB (Jq p slot new)else Du:=if_pos rfl
  rw[e]at a ⊢
  split at a
  ·rename_i d
   rw[if_pos d];have b:=Oa a;obtain⟨k,hk,_,r,f,_,M⟩:=V5 b;obtain⟨_,c,g⟩:=sY b;have w:=D3 f;have hold:Pg.Bc (Af (Jq p slot new).1).recs slot=new:=(by subst hk;rw[Pg.Df,M.Dm,Pg.Eh,if_pos rfl]);refine⟨M.Bk,c,M.lsn,iU b,?_⟩
   show(if F5 (Jq p slot new).1 ⟨2,slot,new,Cs⟩&&decide (Cs.size=0)then okB (O1 (Jq p slot new).1 slot)else Du)=_
   rw[Sf (by show new.size≠0;omega) hold,decide_eq_true d,g]
   rfl
  ·cases a
 by_cases x:kind=2
 ·subst x
  have e:Dg p ⟨2,slot,Cs,new⟩=if F5 p ⟨2,slot,Cs,new⟩&&decide (new.size=0)then okB (O1 p slot)else Du:=rfl
  rw[e]at a ⊢
  split at a
  ·rename_i d
   rw[if_pos d];rw[Bool.and_eq_true]at d;obtain⟨s,i⟩:=O9 d.1;have j:=of_decide_eq_true d.2;have b:=Oa a;obtain⟨k,hk,_,r,_,M⟩:=V6 b;obtain⟨_,c,g⟩:=sZ b;refine⟨M.Bk,c,M.lsn,iV b,?_⟩
   show(if new.size=0 then okB (Jq (O1 p slot).1 slot Cs)else Du)=_
   rw[if_pos j,show Cs=Pg.Bc (Af p).recs slot from i,g]
   rfl
  ·cases a
 by_cases y:kind=3
 ·subst y
  have e:Dg p ⟨3,slot,Cs,new⟩=if F5 p ⟨3,slot,Cs,new⟩then okB (Hu p slot new)else Du:=rfl
  rw[e]at a ⊢
  split at a
  ·rename_i d
   rw[if_pos d];obtain⟨s,i⟩:=O9 d;have b:=Oa a;obtain⟨k,hk,_,f,r,_,M⟩:=V7 b;obtain⟨_,c,g,I,_⟩:=tA b;have w:=D3 f;have hold:Pg.Bc (Af (Hu p slot new).1).recs slot=new:=(by subst hk;rw[Pg.Df,M.Dm,Pg.Eh,if_pos rfl]);refine⟨M.Bk,c,M.lsn,iW b,?_⟩
   show(if F5 (Hu p slot new).1 ⟨3,slot,new,Cs⟩then okB (Hu (Hu p slot new).1 slot Cs)else Du)=_
   rw[if_pos (Sf (by show new.size≠0;omega) hold),show Cs=Pg.Bc (Af p).recs slot from i,g]
   rfl
  ·cases a
 by_cases z:kind=4
 ·subst z
  have e:Dg p ⟨4,slot,Cs,new⟩=if Cs.size=0 then okB (M9 p slot new)else Du:=rfl
  rw[e]at a ⊢
  split at a
  ·rename_i d
   rw[if_pos d];have b:=Oa a;obtain⟨k,hk,_,f,_,M⟩:=V8 b;obtain⟨c,g⟩:=tC b;have w:=D3 f;have hold:Pg.Bc (Af (M9 p slot new).1).recs slot=new:=(by subst hk;rw[Pg.Df,M.Dm,Pg.J6,if_neg (by omega),if_pos rfl]);refine⟨M.Bk,c,M.lsn,iX b,?_⟩
   show(if F5 (M9 p slot new).1 ⟨5,slot,new,Cs⟩&&decide (Cs.size=0)then okB (O6 (M9 p slot new).1 slot)else Du)=_
   rw[Sf (by show new.size≠0;omega) hold,decide_eq_true d,g]
   rfl
  ·cases a
 by_cases A:kind=5
 ·subst A
  have e:Dg p ⟨5,slot,Cs,new⟩=if F5 p ⟨5,slot,Cs,new⟩&&decide (new.size=0)then okB (O6 p slot)else Du:=rfl
  rw[e]at a ⊢
  split at a
  ·rename_i d
   rw[if_pos d];rw[Bool.and_eq_true]at d;obtain⟨s,i⟩:=O9 d.1;have j:=of_decide_eq_true d.2;have b:=Oa a;obtain⟨k,hk,_,r,_,M⟩:=V9 b;obtain⟨c,g⟩:=tD b;refine⟨M.Bk,c,M.lsn,iY b,?_⟩
   show(if new.size=0 then okB (M9 (O6 p slot).1 slot Cs)else Du)=_
   rw[if_pos j,show Cs=Pg.Bc (Af p).recs slot from i,g]
   rfl
  ·cases a
 by_cases B:kind=6
 ·subst B
  have e:Dg p ⟨6,slot,Cs,new⟩=Gc p ⟨6,slot,Cs,new⟩:=rfl;rw[e]at a ⊢;unfold Gc at a ⊢;simp only at a ⊢;obtain⟨n,j⟩:∃ n,Lib.atoiAll new.data.toList= .ok n:=by
   cases j:Lib.atoiAll new.data.toList with
   |ok n=>exact⟨n,rfl⟩
   |_=>rw[j]at a;cases a
  rw[j]at a ⊢;simp only at a ⊢
  ·split at a
   ·rename_i g
    rw[if_pos g];obtain⟨c1,c2,c3⟩:=g;have r:¬ (F9 p n).size=0:=(by simpa using a);obtain⟨_,D,J⟩:=Ob r;obtain⟨m,rfl⟩:=Int.eq_ofNat_of_zero_le D;have t:m<16777216:=(by omega);obtain⟨g1,g2,g3⟩:=iS q t;have E:F9 (F9 p (m:Int)) ((Af p).link:Nat)=Mw p:=by
     rw[O8 g1 (Nb p),g2,Nc q]
    refine⟨g1,g3,by rw[g2],?_,?_⟩
    ·rw[Nc g1,g2,O8 q t]
    ·show Gc (F9 p (m:Int)) ⟨6,slot,new,Cs⟩=_
     unfold Gc;simp only;rw[c2,iT _ (Nb p)];simp only;rw[g2];simp only;simp only[true_and]at*;rw[if_pos (by first|exact⟨rfl,c1.symm,c3⟩|exact⟨trivial,c1.symm,c3⟩|exact⟨c1.symm,c3⟩),E];have:=(Zb q).2.2;rw[this]
     rfl
   ·cases a
 by_cases C:kind=7
 ·subst C
  have e:Dg p ⟨7,slot,Cs,new⟩=Gf p ⟨7,slot,Cs,new⟩:=rfl;rw[e]at a ⊢;unfold Gf at a ⊢;simp only at a ⊢
  split at a
  ·rename_i g
   rw[if_pos g];obtain⟨c1,c2,c3,c4⟩:=g;have r:¬ (Bg new ((Af p).lsn:Nat)).size=0:=(by simpa using a);obtain⟨j,_,_⟩:=eY r;obtain⟨g1,g2,g3⟩:=Ia j (Gl p);obtain⟨i1,i2,i3⟩:=Ia q (l:=0) (by omega);refine⟨g1,g3,by rw[g2],?_,?_⟩
   ·rw[Nc g1,g2,Oc j (Gl p)]
   ·show Gf (Bg new ((Af p).lsn:Nat)) ⟨7,slot,new,Cs⟩=_
    unfold Gf;simp only;have F:Bg (Bg new ((Af p).lsn:Nat)) 0=new:=by
     have:=Qs j (Gl p) (m:=0) (by omega);exact this.trans c4
    have G:Bg (Bg p 0) 0=Bg p 0:=Qs q (l:=0) (m:=0) (by omega) (by omega);have H:Bg (Bg p 0) ((Af p).lsn:Nat)=Mw p:=Qs q (l:=0) (by omega) (Gl p);have u:(Bg p 0).size=512:=i3;rw[c2,g2];simp only;rw[if_pos ⟨c1,F.symm,by rw[u];omega,G⟩,H];have:=(Zb q).2.2;rw[this]
    rfl
  ·cases a
 ·have e:Dg p ⟨kind,slot,Cs,new⟩=Du:=by
   unfold Dg;simp only;rw[if_neg v,if_neg x,if_neg y,if_neg z,if_neg A,if_neg B,if_neg C]
  rw[e]at a
  cases a
theorem pR {p:ByteArray}{o:J8}(h:D9 p o=true):aJ p o=((Dg p o).1,0)∧D9 (Dg p o).1 (eX o)=true∧aJ (Dg p o).1 (eX o)=(Mw p,0):=by
 have U:=rQ h;have a:D9 (Dg p o).1 (eX o)=true:=by unfold D9;rw[U.Ac,U.back];rfl
 refine⟨by unfold aJ;rw[if_pos h],a,?_⟩;unfold aJ;rw[if_pos a,U.back]
structure Mo (p:ByteArray):Prop where
 is:Bk p=true
 pl:Mw p=p
theorem Mo.eq {p:ByteArray}(h:Mo p):C8 (Af p)=p:=(Nc h.is).symm.trans h.pl
theorem Mo.size {p:ByteArray}(h:Mo p):p.size=512:=Gk h.is
theorem Sg {x:Pg.Cx}(d:Pg.Small x)(e:Pg.A4 x.recs≤512)(f:∀ r∈x.recs,r.size≤400)(a:Pg.trim x.recs=x.recs):Mo (C8 x)∧Af (C8 x)=x:=by
 obtain⟨b,g⟩:=N7 d (by rw[a];exact e) f;have c:Af (C8 x)=x:=by rw[g,a]
 exact⟨⟨b,by rw[Nc b,c]⟩,c⟩
theorem Mg {p:ByteArray}(h:Bk p=true){l:Nat}(a:l<281474976710656):Mo (Bg p (l:Int))∧Af (Bg p (l:Int))=⟨l,(Af p).kind,(Af p).link,(Af p).recs⟩:=by
 obtain⟨c,b,_⟩:=Ia h a;refine⟨⟨c,?_⟩,b⟩;unfold Mw;rw[b];exact Qs h a a
theorem rR {p:ByteArray}(h:Bk p=true):Mo (Mw p)∧Af (Mw p)=Af p:=Mg h (Gl p)
theorem fA {p:ByteArray}(h:Mo p):Mw (Dn p)=p:=by
 obtain⟨a,b,_⟩:=Gb h.is;rw[Nc a,b,h.eq]
def I4:ByteArray:=⟨(List.replicate 512 0).toArray⟩
theorem iZ:Bk I4=false:=by
 have h:Pg.right I4.data.toList=none:=by
  have e:I4.data.toList=List.replicate 512 0:=rfl;rw[e]
  decide+kernel
 unfold Bk;rw[h];rfl
theorem Ug {p:ByteArray}(h:Bk p=true):Dn p≠I4:=fun e=>by
 have a:=(Gb h).1;rw[e,iZ]at a
 cases a
theorem Im (k:Nat)(hk:k≤4):Mo (E6 k)∧Af (E6 k)=⟨0,k,0,[]⟩:=by
 have e:E6 (k:Int)=C8 ⟨0,k,0,[]⟩:=by unfold E6;rw[if_neg (by omega)];rfl
 rw[e];exact Sg ⟨by show 0<281474976710656;omega,hk,by show 0<16777216;omega⟩ (by show 19≤512;omega) (fun r h=>by cases h) (Pg.Ec fun r h=>by cases h)
theorem jA {p q:ByteArray}(_hp:Bk p=true)(a:Bk q=true):Mo (Bg q ((Af p).lsn:Nat))∧Af (Bg q ((Af p).lsn:Nat))=⟨(Af p).lsn,(Af q).kind,(Af q).link,(Af q).recs⟩:=Mg a (Gl p)
theorem pU {p r b:ByteArray}(h:Mo p)(f:(Af p).recs=[b])(i:b.size≠0)(j:r.size≠0)(k:r.size≤400):
 Hu p 0 r=(C8 {Af p with recs:=[r]},0)∧Mo (C8 {Af p with recs:=[r]})∧Af (C8 {Af p with recs:=[r]})={Af p with recs:=[r]}:=by
 have l:=Dp p;have d:Pg.Bc (Af p).recs 0=b:=by rw[f];rfl
 have g:Pg.trim [r]=[r]:=Pg.Ec fun x a=>by simp at a;rw[← a];exact j
 have c:Pg.A4 [r]≤512:=by unfold Pg.A4 Pg.Aq Pg.Aq;simp;omega
 have m:=Sg (x:={Af p with recs:=[r]}) l.fine.small c (fun x a=>by simp at a;rw[a];exact k) g;refine⟨?_,m⟩;unfold Hu;rw[if_neg (by rw[h.is];decide),if_neg (by unfold Ht;rw[decide_eq_true (by omega)];decide),d,if_neg i];have e:Pg.putAt (Af p).recs (0:Int).toNat r=[r]:=by rw[f];rfl
 rw[e];exact Lr (x:=Be p [r]) (by show Pg.A4 (Pg.trim [r])≤512;rw[g];exact c)
end Go.Proofs.YtmldoihahndcgaaGreatDoor
namespace Ck
open Lg
open Rc
theorem nK {N:Nat}{l:List ByteArray}{i:Nat}(hi:i=0∨1+N≤i)(b:ByteArray)(a:Int)(dn:Bool)(d:Dk)(c:d.sectors=l):Gs 1 N ⟨l.set i b,a,dn⟩=Gs 1 N d:=by
 unfold Gs;simp only;rw[c]
 congr 1
 apply List.ext_getElem?
 intro j;rw[List.getElem?_take,List.getElem?_take]
 split
 ·rw[List.getElem?_drop,List.getElem?_drop,List.getElem?_set_ne (by omega)]
 ·rfl
theorem jB {l:List ByteArray}(h:Whole l)(i:Nat){b:ByteArray}(a:b.size=128):Whole (l.set i b):=fun x c=>by
 rcases List.mem_or_eq_of_mem_set c with h1|h1
 ·exact h x h1
 ·rw[h1];exact a
theorem Wc (d:Dk)(a:Int)(b:ByteArray):Bz d a b=(d,20)∧d.down=true∨d.down=false∧(Bz d a b=(d,1)∨(F6 d a∧b.size=128∧((d.left=0∧Bz d a b=({d with down:=true},20))∨(d.left≠0∧Bz d a b=(⟨d.sectors.set a.toNat b,if 0<d.left then d.left-1 else d.left,false⟩,0))))):=by
 unfold Bz
 cases f:d.down with
 |true=>exact .inl ⟨by simp,rfl⟩
 |false=>
  refine .inr ⟨rfl,?_⟩
  by_cases c:F6 d a∧b.size=128
  ·refine .inr ⟨c.1,c.2,?_⟩
   by_cases e:d.left=0
   ·exact .inl ⟨e,by simp[c,e]⟩
   ·exact .inr ⟨e,by simp[c,e]⟩
  ·exact .inl (by simp[c])
theorem Gn.out {N:Nat}{d a:Dk}{g:Lo}{b r2:List Rec}(h:Gn 1 N d g b r2)(c:Whole a.sectors)(e:a.sectors.length=d.sectors.length)(f:Gs 1 N a=Gs 1 N d):Gn 1 N a g b r2:=
 ⟨c,by rw[e];exact h.room,h.hf,h.hn,h.row,by rw[f];exact h.pre,h.safe,h.end_,h.tail,h.fit⟩
structure Br (N:Nat) (d:Dk) (g:Lo):Prop where
 whole:Whole d.sectors
 len:d.sectors.length=N+17
 up:d.down=false
 left:d.left= -1
 inv:∃ r1 r2,Gn 1 N d g r1 r2
theorem Br.force {N:Nat}{d:Dk}{g:Lo}{a b:List Rec}(h:Gn 1 N d g a b)(e:d.down=false)(c:d.left= -1):
 (Az d g).2.2=0∧Gn 1 N (Az d g).1 (Az d g).2.1 (a++b) []∧(Az d g).1.down=false∧(Az d g).1.left= -1∧(Az d g).1.sectors.length=d.sectors.length:=by
 rcases h.force e (by omega)with⟨f,a2,a3,_,a5,i,_,_⟩|⟨_,_,_,a4,_⟩
 ·exact⟨f,a2,a3,a5 c,i⟩
 ·exact absurd c a4
theorem cK (base:Int)(all:List ByteArray)(j:Nat):∀ (i:Nat) (d:Dk),0≤base→base+(i:Int)≤(j:Int)→(Cd base all i d).1.sectors[j]? =d.sectors[j]? :=by
 intro i
 induction i with
 |zero=>intro d _ _;rfl
 |succ i ih=>
  intro d c f;have a:∀ b,(Bz d (base+(i:Int)) b).1.sectors[j]? =d.sectors[j]? :=fun b=>by
   rcases Wc d (base+(i:Int)) b with⟨e,_⟩|⟨_,e|⟨_,_,⟨_,e⟩|⟨_,e⟩⟩⟩<;>rw[e]
   show(d.sectors.set (base+(i:Int)).toNat b)[j]? =_
   rw[List.getElem?_set_ne (by omega)]
  unfold Cd
  split
  ·rw[ih _ c (by omega)];exact a _
  ·exact a _
theorem jC {N:Nat}{d:Dk}{g:Lo}{c a:List Rec}(h:Gn 1 N d g c a)(j:Nat)(k:1+N≤j):(Az d g).1.sectors[j]? =d.sectors[j]? :=by
 by_cases b:a=[]
 ·have e:Az d g=(d,g,0):=by unfold Az;rw[if_pos (by rw[h.safe,h.end_,b,List.append_nil])]
  rw[e]
 ·obtain⟨n,f,_⟩:=h.rA b
  have l:=f.fits;have m:=h.Fe;have i:=h.hf;unfold Az
  split
  ·rfl
  ·simp only
   split<;>exact cK _ _ _ _ _ (by omega) (by omega)
end Ck
namespace Sc
open Rc Lg Ck
structure Pw (N M:Nat) (d:Dk) (g:Lo):Prop where
 whole:Whole d.sectors
 len:d.sectors.length=M
 room:1+N≤M
 up:d.down=false
 left:d.left= -1
 inv:∃ r1 r2,Gn 1 N d g r1 r2
theorem rS (N M:Nat)(h:1+N≤M):Pw N M (K6 M) ⟨1,N,0,0,⟨#[]⟩⟩:=by
 have b:(K6 M).sectors.length=M:=by show(List.replicate M Cf).length=_;rw[List.length_replicate]
 have a:Whole (K6 M).sectors:=Y3 _;exact⟨a,b,h,rfl,rfl,[],[],Gn.new (F:=1) a (by omega)⟩
theorem Pw.tF {N M:Nat}{d:Dk}{g:Lo}(h:Pw N M d g):0≤g.end_∧g.end_≤(N:Int)*128:=by
 obtain⟨_,_,_,_,_,b,c,a⟩:=h;have e:=a.end_;have f:=a.fit;omega
theorem Pw.put {N M:Nat}{d:Dk}{g:Lo}(h:Pw N M d g)(r:Rec)(c:Bs {r with lsn:=g.end_+1})(p:g.end_+((D8 {r with lsn:=g.end_+1}).length:Int)≤(N:Int)*128):
 ∃ g2,Aw g r=(g2,g.end_+1,0)∧Pw N M d g2∧g2.end_=g.end_+((D8 {r with lsn:=g.end_+1}).length:Int):=by
 obtain⟨f,i,j,k,l,q,s,b⟩:=h;have t:=b.hn;have m:=b.append r;have e:Aw g r=((Aw g r).1,g.end_+1,0)∧(Aw g r).1.end_=g.end_+((D8 {r with lsn:=g.end_+1}).length:Int):=by
  unfold Aw;simp only;rw[if_neg (fun n=>n c),if_neg (by omega)];exact⟨rfl,rfl⟩
 rcases m with e1|e1|⟨_,o⟩
 ·have a:=e.1;rw[e1]at a;have:=congrArg (fun x=>x.2.2) a;simp at this
 ·have a:=e.1;rw[e1]at a;have:=congrArg (fun x=>x.2.2) a;simp at this
 ·exact⟨_,e.1,⟨f,i,j,k,l,_,_,o⟩,e.2⟩
theorem Pw.force {N M:Nat}{d:Dk}{g:Lo}(h:Pw N M d g):∃ d2 g2,Az d g=(d2,g2,0)∧Pw N M d2 g2∧g2.end_=g.end_∧∀ j,1+N≤j→d2.sectors[j]? =d.sectors[j]? :=by
 obtain⟨l,c,e,f,i,m,n,b⟩:=h;obtain⟨k,a2,a3,a4,a5⟩:=Br.force b f i;have a:=jC b;refine⟨_,_,by rw[← k],⟨a2.whole,a5.trans c,e,a3,a4,_,_,a2⟩,?_,a⟩;rw[a2.end_,b.end_,List.append_nil]
theorem Pw.write {N M:Nat}{d:Dk}{g:Lo}(h:Pw N M d g){i:Nat}{b:ByteArray}(c:b.size=128)(hi:1+N≤i)(k:i<M):
 Bz d (i:Int) b=({d with sectors:=d.sectors.set i b},0)∧Pw N M {d with sectors:=d.sectors.set i b} g:=by
 obtain⟨l,e,m,f,a,n,o,p⟩:=h;have q:F6 d (i:Int):=⟨by omega,by rw[e];omega⟩;refine⟨?_,?_⟩
 ·unfold Bz
  rw[if_neg (by rw[f];decide),if_neg (fun r=>r ⟨q,c⟩),if_neg (by rw[a];decide)];rw[show(if 0<d.left then d.left-1 else d.left)=d.left from by rw[a];rfl]
  rfl
 ·have s:Gs 1 N ⟨d.sectors.set i b,d.left,d.down⟩=Gs 1 N d:=nK (.inr hi) b _ _ d rfl
  have j:=jB l i c;exact⟨j,by show(d.sectors.set i b).length=M;rw[List.length_set];exact e,m,f,a,n,o,Gn.out p j (by show(d.sectors.set _ _).length=_;rw[List.length_set]) s⟩
def F1 (d:Dk)(a:Nat):ByteArray:=⟨(flat ((d.sectors.drop a).take 4)).toArray⟩
theorem Pb {d b:Dk}{a:Nat}(h:∀ j,a≤j→j<a+4→b.sectors[j]? =d.sectors[j]?):F1 b a=F1 d a:=by
 have e:(b.sectors.drop a).take 4=(d.sectors.drop a).take 4:=by
  apply List.ext_getElem?
  intro j;rw[List.getElem?_take,List.getElem?_take]
  split
  ·rw[List.getElem?_drop,List.getElem?_drop];exact h _ (by omega) (by omega)
  ·rfl
 unfold F1;rw[e]
theorem jD (b:ByteArray)(i n:Nat):(b.extract i (i+n)).data.toList=(b.data.toList.drop i).take n:=by
 rw[ByteArray.data_extract,Array.toList_extract,List.extract_eq_take_drop]
 congr 1
 omega
def Fh (b:ByteArray)(i:Nat):ByteArray:=b.extract (i*128) (i*128+128)
theorem Fm {b:ByteArray}(a:b.size=512){i:Nat}(hi:i<4):(Fh b i).size=128:=by
 unfold Fh;rw[ByteArray.size_extract];omega
def Mp (d:Dk)(a:Nat)(b:ByteArray):Dk:={d with sectors:=(((d.sectors.set a (Fh b 0)).set (a+1) (Fh b 1)).set (a+2) (Fh b 2)).set (a+3) (Fh b 3)}
theorem nL (d:Dk)(a:Nat)(b:ByteArray)(j:Nat)(h:j<a∨a+4≤j):(Mp d a b).sectors[j]? =d.sectors[j]? :=by
 unfold Mp;rw[List.getElem?_set_ne (by omega),List.getElem?_set_ne (by omega),List.getElem?_set_ne (by omega),List.getElem?_set_ne (by omega)]
theorem Zc (d:Dk)(a c:Nat)(b:ByteArray)(h:c+4≤a∨a+4≤c):F1 (Mp d a b) c=F1 d c:=Pb fun j e f=>nL d a b j (by omega)
theorem fB {d:Dk}{a:Nat}{b:ByteArray}(c:b.size=512)(m:a+4≤d.sectors.length):F1 (Mp d a b) a=b:=by
 have e:((Mp d a b).sectors.drop a).take 4=[Fh b 0,Fh b 1,Fh b 2,Fh b 3]:=by
  apply List.ext_getElem?
  intro j;rw[List.getElem?_take]
  split
  ·rename_i n
   rw[List.getElem?_drop];unfold Mp;have:j=0∨j=1∨j=2∨j=3:=(by omega);rcases this with rfl|rfl|rfl|rfl
   ·rw[List.getElem?_set_ne (by omega),List.getElem?_set_ne (by omega),List.getElem?_set_ne (by omega),Nat.add_zero,List.getElem?_set_self (by omega)];rfl
   ·rw[List.getElem?_set_ne (by omega),List.getElem?_set_ne (by omega),List.getElem?_set_self (by rw[List.length_set];omega)];rfl
   ·rw[List.getElem?_set_ne (by omega),List.getElem?_set_self (by rw[List.length_set,List.length_set];omega)];rfl
   ·rw[List.getElem?_set_self (by rw[List.length_set,List.length_set,List.length_set];omega)];rfl
  ·rw[List.getElem?_eq_none (by simp;omega)]
 unfold F1;rw[e];have f:b.data.toList.length=512:=by simpa using c
 apply ByteArray.ext
 apply Array.toList_inj.1
 show flat [Fh b 0,Fh b 1,Fh b 2,Fh b 3]=b.data.toList
 unfold flat Fh;simp only[List.flatMap_cons,List.flatMap_nil,List.append_nil,jD];generalize b.data.toList=l at f;have g:l=l.take 128++l.drop 128:=(List.take_append_drop 128 l).symm;have h:l.drop 128=(l.drop 128).take 128++l.drop 256:=by
  have:=(List.take_append_drop 128 (l.drop 128)).symm
  rwa[List.drop_drop]at this
 have i:l.drop 256=(l.drop 256).take 128++l.drop 384:=by
  have:=(List.take_append_drop 128 (l.drop 256)).symm
  rwa[List.drop_drop]at this
 have k:l.drop 384=(l.drop 384).take 128:=(List.take_of_length_le (by rw[List.length_drop];omega)).symm
 show l.take 128++((l.drop 128).take 128++((l.drop 256).take 128++(l.drop 384).take 128))=l
 rw[← k,← i,← h,← g]
theorem Pw.Ac {N M:Nat}{d:Dk}{g:Lo}(h:Pw N M d g){a:Nat}{b:ByteArray}(c:b.size=512)(e:1+N≤a)(f:a+4≤M):Pw N M (Mp d a b) g:=by
 have j:=(h.write (Fm c (i:=0) (by omega)) e (by omega)).2;have k:=(j.write (Fm c (i:=1) (by omega)) (i:=a+1) (by omega) (by omega)).2;have l:=(k.write (Fm c (i:=2) (by omega)) (i:=a+2) (by omega) (by omega)).2;exact(l.write (Fm c (i:=3) (by omega)) (i:=a+3) (by omega) (by omega)).2
theorem Uh {d:Dk}{a:Nat}(b:a+4≤d.sectors.length):F1 d a=((d.sectors[a]++d.sectors[a+1])++d.sectors[a+2])++d.sectors[a+3]:=by
 have e:(d.sectors.drop a).take 4=[d.sectors[a],d.sectors[a+1],d.sectors[a+2],d.sectors[a+3]]:=by
  apply List.ext_getElem?
  intro j;rw[List.getElem?_take]
  split
  ·rw[List.getElem?_drop]
   have:j=0∨j=1∨j=2∨j=3:=(by omega);rcases this with rfl|rfl|rfl|rfl<;>rw[List.getElem?_eq_getElem (by omega)]<;>rfl
  ·rw[List.getElem?_eq_none (by simp;omega)]
 unfold F1;rw[e]
 apply ByteArray.ext
 apply Array.toList_inj.1
 unfold flat
 simp
end Sc
namespace Go.Proofs.YtmldoihahndcgaaGreatDoor
open Go.RowKit Sc
theorem rT:Rc.num 0:=⟨by decide,by decide⟩
abbrev Full (f:Fr):Prop:=f.bytes≠⟨#[]⟩
structure rU (n:Nat) (fs:List Fr) (C:Nat→ByteArray):Prop where
 at_:∀ i (hi:i<fs.length),Full fs[i]→∃ p:Nat,p<n∧fs[i].Ac=(p:Int)∧fs[i].bytes=C p
 ds:∀ i j (hi:i<fs.length) (hj:j<fs.length),i≠j→Full fs[i]→Full fs[j]→fs[i].Ac≠fs[j].Ac
 pin:∀ i (hi:i<fs.length),fs[i].pins=0
 rc:∀ i (hi:i<fs.length),Rc.num fs[i].rc
 sz:∀ i (hi:i<fs.length),fs[i].bytes.size≤512
def Pc (fs:List Fr)(p:Nat):Prop:=∃ i,∃ h:i<fs.length,Full fs[i]∧fs[i].Ac=(p:Int)∧fs[i].rc≠0
theorem Gu (fs:List Fr)(k:Nat)(f:Fr)(i:Nat)(hi:i<(fs.set k f).length):(i=k∧(fs.set k f)[i]=f)∨(i≠k∧∃ hi':i<fs.length,(fs.set k f)[i]=fs[i]):=by
 rw[List.getElem_set]
 by_cases e:k=i
 ·rw[if_pos e];exact .inl ⟨e.symm,rfl⟩
 ·rw[if_neg e];exact .inr ⟨fun h=>e h.symm,by simpa using hi,rfl⟩
theorem rU.set {n:Nat}{fs:List Fr}{C C':Nat→ByteArray}(h:rU n fs C)(k:Nat)(f:Fr)(t:f.pins=0)(u:Rc.num f.rc)(v:f.bytes.size≤512)
 (w:Full f→∃ p:Nat,p<n∧f.Ac=(p:Int)∧f.bytes=C' p) (r:Full f→∀ j (hj:j<fs.length),j≠k→Full fs[j]→f.Ac≠fs[j].Ac)
 (hC:∀ j (hj:j<fs.length) (p:Nat),j≠k→Full fs[j]→fs[j].Ac=(p:Int)→C' p=C p):rU n (fs.set k f) C':=by
 refine⟨fun i c b=>?_,fun i j c hj l b g=>?_,fun i c=>?_,fun i c=>?_,fun i c=>?_⟩
 ·rcases Gu fs k f i c with⟨_,e⟩|⟨x,a,e⟩
  ·rw[e]at b ⊢;exact w b
  ·rw[e]at b ⊢
   obtain⟨p,y,s,z⟩:=h.at_ i a b;exact⟨p,y,s,by rw[z,hC i a p x b s]⟩
 ·rcases Gu fs k f i c with⟨o,e⟩|⟨o,a,e⟩<;>rcases Gu fs k f j hj with⟨q,d⟩|⟨q,m,d⟩
  ·exact absurd (o.trans q.symm) l
  ·rw[e,d];rw[e]at b;rw[d]at g;exact r b j m q g
  ·rw[e,d];rw[e]at b;rw[d]at g;exact fun A=>r g i a o b A.symm
  ·rw[e,d];rw[e]at b;rw[d]at g;exact h.ds i j a m l b g
 ·rcases Gu fs k f i c with⟨_,e⟩|⟨_,a,e⟩
  ·rw[e];exact t
  ·rw[e];exact h.pin i a
 ·rcases Gu fs k f i c with⟨_,e⟩|⟨_,a,e⟩
  ·rw[e];exact u
  ·rw[e];exact h.rc i a
 ·rcases Gu fs k f i c with⟨_,e⟩|⟨_,a,e⟩
  ·rw[e];exact v
  ·rw[e];exact h.sz i a
theorem Pc.set {fs:List Fr}{k:Nat}{f:Fr}{p:Nat}(hk:k<fs.length)(h:Pc fs p)(d:Full fs[k]→fs[k].Ac=(p:Int)→fs[k].rc≠0→Full f∧f.Ac=(p:Int)∧f.rc≠0):Pc (fs.set k f) p:=by
 obtain⟨i,g,a,b,c⟩:=h;refine⟨i,by rw[List.length_set];exact g,?_⟩;rw[List.getElem_set]
 split
 ·rename_i e;subst e;exact d a b c
 ·exact⟨a,b,c⟩
def Lay (N:Nat)(d:Lg.Dk)(p:Nat)(b:ByteArray):Prop:=F1 d (1+N+4*p)=Dn b∨(F1 d (1+N+4*p)=I4∧b=E6 (0:Nat))
structure PI (N n:Nat) (s:Tx.St) (fs:List Fr) (C:Nat→ByteArray):Prop where
 zl:s.zlog=(N:Int)
 zp:s.zpages=(n:Int)
 n1:1≤n∧n≤60∧N≤3000
 pw:Pw N (1+N+4*n) s.As s.log
 nf:1≤fs.length∧fs.length≤64
 hd:0≤s.hand∧s.hand≤64
 fr:rU n fs C
 nm:∀ p,p<n→Mo (C p)
 dk:∀ p,p<n→¬ Pc fs p→Lay N s.As p (C p)
theorem PI.mark {N n:Nat}{s:Tx.St}{fs:List Fr}{C:Nat→ByteArray}(h:PI N n s fs C){k:Nat}(hk:k<fs.length)(m:Bool):PI N n s (fs.set k {fs[k]with mark:=m}) C:=
 ⟨h.zl,h.zp,h.n1,h.pw,by rw[List.length_set];exact h.nf,h.hd,
   h.fr.set k _ (h.fr.pin k hk) (h.fr.rc k hk) (h.fr.sz k hk) (fun d=>h.fr.at_ k hk d) (fun g j i f d=>h.fr.ds k j hk i (fun e=>f e.symm) g d) (fun _ _ _ _ _ _=>rfl),
   h.nm,fun p l o=>h.dk p l fun q=>o (q.set hk fun a b c=>⟨a,b,c⟩)⟩
theorem PI.hand {N n:Nat}{s:Tx.St}{fs:List Fr}{C:Nat→ByteArray}(h:PI N n s fs C)(x:Int)(a:0≤x∧x≤64):PI N n {s with hand:=x} fs C:=
 ⟨h.zl,h.zp,h.n1,h.pw,h.nf,a,h.fr,h.nm,h.dk⟩
theorem PI.load {N n:Nat}{s:Tx.St}{fs:List Fr}{C:Nat→ByteArray}(h:PI N n s fs C){k:Nat}(hk:k<fs.length){p:Nat}(d:p<n)(f:Full fs[k]→fs[k].rc=0)(b:∀ j (hj:j<fs.length),Full fs[j]→fs[j].Ac≠(p:Int)):PI N n s (fs.set k ⟨(p:Int),C p,0,true,0⟩) C:=
 ⟨h.zl,h.zp,h.n1,h.pw,by rw[List.length_set];exact h.nf,h.hd,
   h.fr.set k _ rfl rT (Nat.le_of_eq (h.nm p d).size) (fun _=>⟨p,d,rfl,rfl⟩) (fun _ j hj _ g e=>b j hj g e.symm) (fun _ _ _ _ _ _=>rfl),
   h.nm,fun q i l=>h.dk q i fun m=>l (m.set hk fun a _ c=>absurd (f a) c)⟩
theorem PI.force {N n:Nat}{s:Tx.St}{fs:List Fr}{C:Nat→ByteArray}(h:PI N n s fs C):∃ d2 g2,Lg.Az s.As s.log=(d2,g2,0)∧PI N n {s with As:=d2,log:=g2} fs C∧g2.end_=s.log.end_:=by
 obtain⟨d2,g2,e,c,d,f⟩:=h.pw.force;refine⟨d2,g2,e,⟨h.zl,h.zp,h.n1,c,h.nf,h.hd,h.fr,h.nm,fun p g i=>?_⟩,d⟩;have b:F1 d2 (1+N+4*p)=F1 s.As (1+N+4*p):=Pb fun j l _=>f j (by omega);rcases h.dk p g i with a|⟨a,k⟩
 ·exact .inl (b.trans a)
 ·exact .inr ⟨b.trans a,k⟩
theorem PI.flush {N n:Nat}{s:Tx.St}{fs:List Fr}{C:Nat→ByteArray}(h:PI N n s fs C){k:Nat}(hk:k<fs.length){p:Nat}(m:p<n)(_hf:Full fs[k])(c:fs[k].Ac=(p:Int)):
 PI N n {s with As:=Mp s.As (1+N+4*p) (Dn (C p))} (fs.set k {fs[k]with rc:=0}) C:=by
 have i:=(Gb (h.nm p m).is).2.2.2;have o:=h.pw.len;refine⟨h.zl,h.zp,h.n1,h.pw.Ac i (by omega) (by omega),by rw[List.length_set];exact h.nf,h.hd,
  h.fr.set k _ (h.fr.pin k hk) rT (h.fr.sz k hk) (fun d=>h.fr.at_ k hk d) (fun r j t f d=>h.fr.ds k j hk t (fun e=>f e.symm) r d) (fun _ _ _ _ _ _=>rfl),
  h.nm,fun q u v=>?_⟩
 by_cases a:q=p
 ·subst a
  exact .inl (fB i (by rw[o];omega))
 ·have l:=Zc s.As (1+N+4*p) (1+N+4*q) (Dn (C p)) (by omega)
  have w:¬ Pc fs q:=fun x=>v (x.set hk fun _ b _=>absurd (Int.ofNat.inj (b.symm.trans c)) a);rcases h.dk q u w with g|⟨g,y⟩
  ·exact .inl (l.trans g)
  ·exact .inr ⟨l.trans g,y⟩
theorem PI.change {N n:Nat}{s s':Tx.St}{fs:List Fr}{C:Nat→ByteArray}(h:PI N n s fs C){k:Nat}(hk:k<fs.length){p:Nat}(y:p<n)(u:Full fs[k])(a:fs[k].Ac=(p:Int)){b:ByteArray}(i:Mo b){x:Int}(l:Rc.num x)(m:x≠0)
 (z:s'.zlog=s.zlog) (A:s'.zpages=s.zpages) (v:s'.As=s.As) (B:s'.hand=s.hand) (o:Pw N (1+N+4*n) s.As s'.log):
 PI N n s' (fs.set k ⟨(p:Int),b,0,true,x⟩) (fun q=>if q=p then b else C q):=by
 have r:b≠⟨#[]⟩:=fun e=>by have:=i.size;rw[e]at this;exact absurd this (by decide)
 refine⟨z.trans h.zl,A.trans h.zp,h.n1,by rw[v];exact o,by rw[List.length_set];exact h.nf,by rw[B];exact h.hd,
  h.fr.set k _ rfl l (Nat.le_of_eq i.size) (fun _=>⟨p,y,rfl,by rw[if_pos rfl]⟩) (fun _ j t c d=>by rw[show(⟨(p:Int),b,0,true,x⟩:Fr).Ac=fs[k].Ac from a.symm];exact h.fr.ds k j hk t (fun e=>c e.symm) u d) (fun j t q c d f=>if_neg fun e=>by
   subst e;exact h.fr.ds k j hk t (fun e=>c e.symm) u d (a.trans f.symm)),fun q f=>?_,fun q f w=>?_⟩
 ·by_cases e:q=p
  ·rw[if_pos e];exact i
  ·rw[if_neg e];exact h.nm q f
 ·have g:q≠p:=fun e=>w (by
   subst e;exact⟨k,by rw[List.length_set];exact hk,by rw[List.getElem_set_self];exact⟨r,rfl,m⟩⟩)
  rw[if_neg g,v];exact h.dk q f fun l=>w (l.set hk fun _ b _=>absurd (Int.ofNat.inj (b.symm.trans a)) g)
structure Qt (fs fs':List Fr):Prop where
 len:fs'.length=fs.length
 at_:∀ i (h:i<fs.length) (h':i<fs'.length),fs'[i]={fs[i]with mark:=fs'[i].mark}
theorem Qt.refl (fs:List Fr):Qt fs fs:=⟨rfl,fun _ _ _=>rfl⟩
theorem Qt.set {fs a:List Fr}(h:Qt fs a){k:Nat}(hk:k<a.length)(m:Bool):Qt fs (a.set k {a[k]with mark:=m}):=by
 refine⟨by rw[List.length_set];exact h.len,fun i d b=>?_⟩;have g:=h.len;rcases Gu a k {a[k]with mark:=m} i b with⟨e,c⟩|⟨_,f,c⟩
 ·subst e
  rw[c,h.at_ i d hk]
 ·rw[c];exact h.at_ i d f
theorem Pc.marks {fs a:List Fr}(h:Qt fs a){p:Nat}(b:Pc fs p):Pc a p:=by
 obtain⟨i,c,d,f,g⟩:=b;have j:=h.len;have e:=h.at_ i c (by omega);exact⟨i,by omega,by rw[e];exact d,by rw[e];exact f,by rw[e];exact g⟩
theorem rU.marks {n:Nat}{fs c:List Fr}{C:Nat→ByteArray}(h:rU n fs C)(b:Qt fs c):rU n c C:=by
 have m:=b.len;refine⟨fun i a d=>?_,fun i j a k f d g=>?_,fun i a=>?_,fun i a=>?_,fun i a=>?_⟩
 ·have e:=b.at_ i (by omega) a
  rw[e]at d ⊢;exact h.at_ i (by omega) d
 ·have e:=b.at_ i (by omega) a
  have l:=b.at_ j (by omega) k;rw[e]at d ⊢;rw[l]at g ⊢;exact h.ds i j (by omega) (by omega) f d g
 ·rw[b.at_ i (by omega) a];exact h.pin i (by omega)
 ·rw[b.at_ i (by omega) a];exact h.rc i (by omega)
 ·rw[b.at_ i (by omega) a];exact h.sz i (by omega)
theorem PI.marks {N n:Nat}{s:Tx.St}{fs a:List Fr}{C:Nat→ByteArray}(h:PI N n s fs C)(b:Qt fs a):PI N n s a C:=
 ⟨h.zl,h.zp,h.n1,h.pw,by rw[b.len];exact h.nf,h.hd,h.fr.marks b,h.nm,fun p c d=>h.dk p c fun e=>d (e.marks b)⟩
structure pV (a j:Nat) (fs fs':List Fr):Prop where
 mr:Qt fs fs'
 off:∀ i,i<j→∀ h:(a+i)%fs'.length<fs'.length,fs'[(a+i)%fs'.length].mark=false
theorem pW (a:Nat)(fs:List Fr):pV a 0 fs fs:=⟨Qt.refl fs,fun _ h=>absurd h (by omega)⟩
theorem pV.step {a j:Nat}{fs b:List Fr}(h:pV a j fs b)(hk:(a+j)%b.length<b.length):pV a (j+1) fs (b.set ((a+j)%b.length) {b[(a+j)%b.length]with mark:=false}):=by
 refine⟨h.mr.set hk false,fun i e d=>?_⟩;have f:(b.set ((a+j)%b.length) {b[(a+j)%b.length]with mark:=false}).length=b.length:=List.length_set;have key:∀ m,m=b.length→∀ d:(a+i)%m<(b.set ((a+j)%b.length) {b[(a+j)%b.length]with mark:=false}).length,(b.set ((a+j)%b.length) {b[(a+j)%b.length]with mark:=false})[(a+i)%m].mark=false:=by
  intro m g k;subst g;rw[List.getElem_set]
  split
  ·rfl
  ·rename_i c
   exact h.off i (by
    rcases Nat.lt_or_eq_of_le (Nat.le_of_lt_succ e)with h1|h1
    ·exact h1
    ·exact absurd (by rw[h1]) c) (by omega)
 exact key _ f d
theorem pV.round {a:Nat}{fs b:List Fr}(h:pV a b.length fs b)(c:0<b.length)(hk:(a+b.length)%b.length<b.length):b[(a+b.length)%b.length].mark=false:=by
 have e:(a+b.length)%b.length=(a+0)%b.length:=by rw[Nat.add_mod_right,Nat.add_zero]
 have d:=h.off 0 c (by rw[← e];exact hk);have key:∀ q,(a+0)%b.length=q→∀ f:q<b.length,b[q].mark=false:=fun q g f=>by subst g;exact d
 exact key _ e.symm hk
theorem pV.rV {a k:Nat}{fs b:List Fr}(h:pV a k fs b)(f:0<b.length)(d:fs.length=b.length)(e:k=fs.length)(hk:(a+k)%b.length<b.length):b[(a+k)%b.length].mark=false:=by
 subst e;rw[d]at h;have c:=hk;rw[d]at c;have g:=h.round f c;have key:∀ m,m=b.length→∀ i:(a+m)%b.length<b.length,b[(a+m)%b.length].mark=false:=fun m e i=>by subst e;exact g
 exact key _ d hk
theorem nM (a j m:Nat):((a+j)%m+1)%m=(a+(j+1))%m:=by
 rw[show a+(j+1)=(a+j)+1 by omega,Nat.add_mod (a+j) 1 m,Nat.add_mod ((a+j)%m) 1 m,Nat.mod_mod]
structure Tj (M:Nat) (d:Lg.Dk):Prop where
 sz:∀ x∈d.sectors,x.size=128
 lb: -9223372036854775808≤d.left∧d.left≤9223372036854775807
 len:d.sectors.length=M
theorem Tj.write {M:Nat}{d:Lg.Dk}(h:Tj M d)(a:Int)(b:ByteArray):Tj M (Lg.Bz d a b).1:=by
 unfold Lg.Bz
 split
 ·exact h
 ·split
  ·exact h
  ·rename_i e
   split
   ·exact⟨h.sz,h.lb,h.len⟩
   ·refine⟨fun x f=>?_,?_,by show(d.sectors.set _ _).length=M;rw[List.length_set];exact h.len⟩
    ·rcases List.mem_or_eq_of_mem_set f with h1|h1
     ·exact h.sz x h1
     ·rw[h1]
      by_cases c:b.size=128
      ·exact c
      ·exact absurd (fun g=>c g.2) e
    ·have:=h.lb
     show _≤(if 0<d.left then d.left-1 else d.left)∧(if 0<d.left then d.left-1 else d.left)≤_
     split<;>omega
theorem Tj.Cd {M:Nat}(base:Int)(all:List ByteArray):∀ (i:Nat) (d:Lg.Dk),Tj M d→Tj M (Lg.Cd base all i d).1
 |0,_,h=>h
 |i+1,d,h=>by
  have h1:=h.write (base+(i:Int)) (all[i]?.getD ⟨#[]⟩);unfold Lg.Cd
  split
  ·exact Tj.Cd base all i _ h1
  ·exact h1
theorem Tj.force {M:Nat}{d:Lg.Dk}(h:Tj M d)(l:Lg.Lo):Tj M (Lg.Az d l).1:=by
 unfold Lg.Az
 split
 ·exact h
 ·simp only
  split
  ·exact Tj.Cd _ _ _ _ h
  ·exact Tj.Cd _ _ _ _ h
def Gy (d:Lg.Dk)(a:Nat)(b:ByteArray):Nat→Lg.Dk×Int
 |0=>(d,0)
 |k+1=>if(Gy d a b k).2=0 then Lg.Bz (Gy d a b k).1 ((a:Int)+(k:Int)) (Fh b k)else Gy d a b k
theorem Mh {d:Lg.Dk}{a:Nat}{b:ByteArray}{k:Nat}(h:¬ (Gy d a b k).2=0):∀ j,Gy d a b (k+j)=Gy d a b k
 |0=>rfl
 |j+1=>by
  have ih:=Mh h j
  show(if(Gy d a b (k+j)).2=0 then _ else Gy d a b (k+j))=_
  rw[ih,if_neg h]
theorem I5 {d:Lg.Dk}{a:Nat}{b:ByteArray}{k:Nat}(h:(Gy d a b k).2=0):Gy d a b (k+1)=Lg.Bz (Gy d a b k).1 ((a:Int)+(k:Int)) (Fh b k):=by
 show(if(Gy d a b k).2=0 then _ else _)=_
 rw[if_pos h]
theorem Tj.Gy {M:Nat}{d:Lg.Dk}(h:Tj M d)(a:Nat)(b:ByteArray):∀ k,Tj M (Gy d a b k).1
 |0=>h
 |k+1=>by
  have ih:=Tj.Gy h a b k
  by_cases h0:(Go.Proofs.YtmldoihahndcgaaGreatDoor.Gy d a b k).2=0
  ·rw[I5 h0];exact ih.write _ _
  ·rw[Mh h0 1];exact ih
theorem pX {b:ByteArray}(k:Nat):b.extract (k*128) ((k+1)*128)=Fh b k:=by unfold Fh;rw[show(k+1)*128=k*128+128 by omega]
structure Px where
 s:Tx.St
 fs:List Fr
 e:Int
def uQ:Fr:=⟨0,⟨#[]⟩,0,false,0⟩
def Dc (fs:List Fr)(k:Nat):Fr:=fs[k]?.getD uQ
theorem Cg {fs:List Fr}{k:Nat}(h:k<fs.length):Dc fs k=fs[k]:=by unfold Dc;rw[List.getElem?_eq_getElem h];rfl
def Ef (s:Tx.St)(p:Int):Nat:=(1+s.zlog+4*p).toNat
def Es (s:Tx.St)(p:Int):ByteArray×Int:=
 if s.As.down=true then(⟨#[]⟩,20)else
 if F1 s.As (Ef s p)=I4 then(E6 0,0)else
 if Hn (F1 s.As (Ef s p))=true then(Mw (F1 s.As (Ef s p)),0)else(⟨#[]⟩,19)
def Fu (n:Nat):Nat→Nat→List Fr→Option (Nat×List Fr)
 |0,_,_=>none
 |j+1,a,fs=>if 0<(Dc fs a).pins then Fu n j ((a+1)%n) fs else if(Dc fs a).mark=true then Fu n j ((a+1)%n) (fs.set a {Dc fs a with mark:=false})else some (a,fs)
def C6 (s:Tx.St)(fs:List Fr)(k:Nat):Px:=
 if(Dc fs k).rc=0 then⟨s,fs,0⟩else
 if ¬ (Lg.Az s.As s.log).2.2=0 then⟨{s with As:=(Lg.Az s.As s.log).1,log:=(Lg.Az s.As s.log).2.1},fs,(Lg.Az s.As s.log).2.2⟩else
 if ¬ (Gy (Lg.Az s.As s.log).1 (Ef s (Dc fs k).Ac) (Dn (Dc fs k).bytes) 4).2=0 then
  ⟨{s with As:=(Gy (Lg.Az s.As s.log).1 (Ef s (Dc fs k).Ac) (Dn (Dc fs k).bytes) 4).1,log:=(Lg.Az s.As s.log).2.1},fs,(Gy (Lg.Az s.As s.log).1 (Ef s (Dc fs k).Ac) (Dn (Dc fs k).bytes) 4).2⟩
 else⟨{s with As:=(Gy (Lg.Az s.As s.log).1 (Ef s (Dc fs k).Ac) (Dn (Dc fs k).bytes) 4).1,log:=(Lg.Az s.As s.log).2.1},fs.set k {Dc fs k with rc:=0},0⟩
noncomputable def Ww (fs:List Fr) (p:Int):Option Nat:=by
 classical exact fs.findIdx? fun f=>decide (Full f∧f.Ac=p)
noncomputable def Lt (fs:List Fr):Option Nat:=by
 classical exact fs.findIdx? fun f=>decide (¬ Full f)
theorem Sh {α:Type}{P:α→Bool}{l:List α}(h:∀ x∈l,P x=false):l.findIdx? P=none:=List.findIdx?_eq_none_iff.2 h
theorem Si {α:Type}{P:α→Bool}{l:List α}{k:Nat}(hk:k<l.length)(a:P l[k]=true)(b:∀ j (hj:j<l.length),j<k→P l[j]=false):l.findIdx? P=some k:=by
 rw[List.findIdx?_eq_some_iff_getElem];refine⟨hk,a,fun j hj=>?_⟩;rw[b j (by omega) hj]
 decide
theorem nN {fs:List Fr}{p:Int}(h:∀ x∈fs,¬ (Full x∧x.Ac=p)):Ww fs p=none:=by
 unfold Ww;exact Sh fun x a=>by simpa using h x a
theorem nO {fs:List Fr}{p:Int}{k:Nat}(hk:k<fs.length)(b:Full fs[k]∧fs[k].Ac=p)(c:∀ j (hj:j<fs.length),j<k→¬ (Full fs[j]∧fs[j].Ac=p)):Ww fs p=some k:=by
 unfold Ww;exact Si hk (by simpa using b) fun j hj a=>by simpa using c j hj a
theorem cL {fs:List Fr}(h:∀ x∈fs,¬ ¬ Full x):Lt fs=none:=by
 unfold Lt;exact Sh fun x a=>by simpa using h x a
theorem cM {fs:List Fr}{k:Nat}(hk:k<fs.length)(b:¬ Full fs[k])(c:∀ j (hj:j<fs.length),j<k→¬ ¬ Full fs[j]):Lt fs=some k:=by
 unfold Lt;exact Si hk (by simpa using b) fun j hj a=>by simpa using c j hj a
noncomputable def Bl (s:Tx.St) (fs:List Fr):Px×Nat:=
 match Lt fs with
 |some k=>(⟨s,fs,0⟩,k)
 |none=>match Fu fs.length (2*fs.length) (s.hand.toNat%fs.length) fs with
  |none=>(⟨s,fs,18⟩,0)
  |some (k,fs')=>(C6 {s with hand:=(((k+1)%fs.length:Nat):Int)} fs' k,k)
def Gz (s:Tx.St)(fs:List Fr)(x:Px):Px:=if x.e=0∨x.e=20 then x else⟨s,fs,x.e⟩
def Nd (s:Tx.St)(p:Int):Prop:=0≤p∧p<s.zpages
instance (s:Tx.St) (p:Int):Decidable (Nd s p):=by unfold Nd;exact inferInstance
noncomputable def Bf (s:Tx.St) (fs:List Fr) (p:Int):Px×Nat:=
 if ¬ Nd s p then(⟨s,fs,1⟩,0)else
 match Ww fs p with
 |some k=>(⟨s,fs.set k {Dc fs k with mark:=true},0⟩,k)
 |none=>if ¬ (Es s p).2=0 then(⟨s,fs,(Es s p).2⟩,0)else
  if(Bl s fs).1.e=0 then(⟨(Bl s fs).1.s,(Bl s fs).1.fs.set (Bl s fs).2 ⟨p,(Es s p).1,0,true,0⟩,0⟩,(Bl s fs).2)
  else(Gz s fs (Bl s fs).1,0)
noncomputable def Mq (s:Tx.St) (fs:List Fr) (p:Int):Px×ByteArray:=
 ((Bf s fs p).1,if(Bf s fs p).1.e=0 then(Dc (Bf s fs p).1.fs (Bf s fs p).2).bytes else⟨#[]⟩)
def Od (p:Int)(b:ByteArray):Rc.Rec:=⟨0,0,0,8,p,0,0,⟨7,0,⟨#[]⟩,b⟩,0,0,Rc.Cm,[],[]⟩
noncomputable def Fp (s:Tx.St) (f:Fr) (p:Int):Lg.Lo×Int×Int:=if f.rc=0 then Lg.Aw s.log (Od p f.bytes)else(s.log,f.rc,0)
def Fq (ts:List Rc.A9)(i:Nat):Rc.A9:=ts[i]?.getD ⟨0,0,0,false⟩
noncomputable def Tq (x:Px) (k i:Nat) (s:Tx.St) (fs:List Fr) (r:Rc.Rec) (b:ByteArray):Px:=
 let m:=Fp x.s (Dc x.fs k) r.Ac
 if ¬ m.2.2=0 then⟨s,fs,m.2.2⟩else
 let a:=Lg.Aw m.1 {r with prev:=(Fq x.s.txns i).last}
 if ¬ a.2.2=0 then⟨s,fs,a.2.2⟩else
 ⟨{x.s with log:=a.1,txns:=x.s.txns.set i {Fq x.s.txns i with last:=a.2.1,next:=if r.kind=3 then r.next else a.2.1}},x.fs.set k ⟨(Dc x.fs k).Ac,Bg b a.2.1,(Dc x.fs k).pins,true,m.2.1⟩,0⟩
noncomputable def Cn (s:Tx.St) (fs:List Fr) (r:Rc.Rec) (D:ByteArray→ByteArray×Int):Px:=
 if ¬ ((r.kind=2∨r.kind=3)∧Nd s r.Ac)then⟨s,fs,1⟩else
 match s.txns.findIdx? fun a=>decide (a.txn=r.txn)with
 |none=>⟨s,fs,21⟩
 |some i=>if ¬ (Bf s fs r.Ac).1.e=0 then(Bf s fs r.Ac).1 else
  if ¬ (D (Dc (Bf s fs r.Ac).1.fs (Bf s fs r.Ac).2).bytes).2=0 then⟨s,fs,(D (Dc (Bf s fs r.Ac).1.fs (Bf s fs r.Ac).2).bytes).2⟩else
  Tq (Bf s fs r.Ac).1 (Bf s fs r.Ac).2 i s fs r (D (Dc (Bf s fs r.Ac).1.fs (Bf s fs r.Ac).2).bytes).1
end Go.Proofs.YtmldoihahndcgaaGreatDoor
namespace Rc
theorem uU:sl 0:=⟨by decide,by decide⟩
theorem rB:num 0:=⟨by decide,by decide⟩
theorem jE {r:Rec}(h:Bs r)(hk:r.kind≠9):(Lg.D8 r).length≤1262:=by
 rw[Lg.Lk];unfold Dj;rw[List.length_append,Ud]
 cases h with
 |small kind a prev b q d f g=>
  have k:F4 (bare kind a prev b)=[]:=by
   unfold F4 bare;simp only;rw[if_neg (by omega),if_neg (by omega),if_neg (by omega),if_neg (by omega),if_neg (by omega)]
  rw[k];simp
 |change a prev b Ac op i root e d f g l c m=>
  rw[Ny rfl];have p:=Mb c;have t:(Mt ⟨a,prev,b,2,Ac,0,0,op,i,root,e,[],[]⟩).length≤200:=by
   unfold Mt;rcases m with⟨j,_⟩|⟨j,u,v,s,o⟩
   ·simp only at j;subst j;simp
   ·simp only at j o
    rw[if_neg (show ¬ i=1 by omega)];simp only[List.length_append,A6,Rw];omega
  simp only[List.length_append,A6];omega
 |clr a prev b Ac op next d f g l c m=>
  rw[Ql rfl];have p:=Mb c;simp only[List.length_append,A6];omega
 |nest a prev b next d f g m=>
  rw[Vu rfl];simp only[A6];omega
 |image a prev b Ac op d f g l c=>
  rw[Qm rfl];have p:=Mb c;simp only[List.length_append,A6];omega
 |check a prev b n ts ds d f g l c=>exact absurd rfl hk
end Rc
namespace Go.Proofs.YtmldoihahndcgaaGreatDoor
open Go.RowKit Sc
theorem PI.log {N n:Nat}{s:Tx.St}{fs:List Fr}{C:Nat→ByteArray}(h:PI N n s fs C)(r:Rc.Rec)(a:Rc.Bs {r with lsn:=s.log.end_+1})(hk:r.kind≠9)(c:s.log.end_+1262≤(N:Int)*128):
 ∃ g2,Lg.Aw s.log r=(g2,s.log.end_+1,0)∧PI N n {s with log:=g2} fs C∧s.log.end_<g2.end_∧g2.end_≤s.log.end_+1262:=by
 have d:=Rc.jE a hk;have f:8≤(Lg.D8 {r with lsn:=s.log.end_+1}).length:=by rw[Lg.Lk];omega
 obtain⟨g2,e,b,g⟩:=h.pw.put r a (by omega);exact⟨g2,e,⟨h.zl,h.zp,h.n1,b,h.nf,h.hd,h.fr,h.nm,h.dk⟩,by omega,by omega⟩
theorem PI.num {N n:Nat}{s:Tx.St}{fs:List Fr}{C:Nat→ByteArray}(h:PI N n s fs C):Rc.num (s.log.end_+1)∧s.log.end_+1≠0∧0≤s.log.end_∧s.log.end_≤384000:=by
 have a:=h.pw.tF;have b:=h.n1.2.2;exact⟨⟨by omega,by omega⟩,by omega,a.1,by omega⟩
theorem Ui {l p:Int}{b:ByteArray}(a:Rc.num l)(c:0≤p∧p<60)(d:b.size≤512):Rc.Bs ⟨l,0,0,8,p,0,0,⟨7,0,⟨#[]⟩,b⟩,0,0,Rc.Cm,[],[]⟩:=
 .image _ _ _ _ _ a Rc.rB Rc.rB ⟨c.1,by omega⟩ ⟨(by decide:(1:Int)≤7),(by decide:(7:Int)≤7),Rc.uU,(by decide:0≤512),d⟩
theorem jF {l v t p:Int}{k:Int}{o b:ByteArray}(a:Rc.num l)(c:Rc.num v)(d:Rc.num t)(e:0≤p∧p<60)(hk:1≤k∧k≤7)(f:o.size≤512)(g:b.size≤512):Rc.Bs ⟨l,v,t,2,p,0,0,⟨k,0,o,b⟩,1,0,Rc.Cm,[],[]⟩:=
 .change _ _ _ _ _ _ _ _ a c d ⟨e.1,by omega⟩ ⟨hk.1,hk.2,Rc.uU,f,g⟩ (.inl ⟨rfl,rfl,rfl⟩)
structure Hk (s s':Tx.St) (fs fs':List Fr):Prop where
 tx:s'.txns=s.txns
 nx:s'.next=s.next
 en:s'.log.end_=s.log.end_
 zf:s'.zframes=s.zframes
 ln:fs'.length=fs.length
theorem Hk.refl (s:Tx.St)(fs:List Fr):Hk s s fs fs:=⟨rfl,rfl,rfl,rfl,rfl⟩
theorem Hk.trans {s s' s2:Tx.St}{fs a fs2:List Fr}(h:Hk s s' fs a)(k:Hk s' s2 a fs2):Hk s s2 fs fs2:=⟨k.tx.trans h.tx,k.nx.trans h.nx,k.en.trans h.en,k.zf.trans h.zf,k.ln.trans h.ln⟩
def Mi (fs fs':List Fr):Prop:=∀ j (h:j<fs.length) (h':j<fs'.length),fs'[j].Ac=fs[j].Ac∧fs'[j].bytes=fs[j].bytes
theorem Mi.refl (fs:List Fr):Mi fs fs:=fun _ _ _=>⟨rfl,rfl⟩
theorem Mi.trans {fs a fs2:List Fr}(h:Mi fs a)(k:Mi a fs2)(e:a.length=fs.length):Mi fs fs2:=fun j b c=>
 ⟨(k j (by omega) c).1.trans (h j b (by omega)).1,(k j (by omega) c).2.trans (h j b (by omega)).2⟩
theorem Mi.marks {fs fs':List Fr}(h:Qt fs fs'):Mi fs fs':=fun j a b=>by rw[h.at_ j a b];exact⟨rfl,rfl⟩
theorem Mi.set (fs:List Fr)(k:Nat)(hk:k<fs.length)(f:Fr)(c:f.Ac=fs[k].Ac)(d:f.bytes=fs[k].bytes):Mi fs (fs.set k f):=fun j g a=>by
 rcases Gu fs k f j a with⟨e,b⟩|⟨_,_,b⟩
 ·subst e;rw[b];exact⟨c,d⟩
 ·rw[b];exact⟨rfl,rfl⟩
theorem Mi.none_ {fs a:List Fr}(h:Mi fs a)(e:a.length=fs.length){p:Int}(d:∀ j (hj:j<fs.length),Full fs[j]→fs[j].Ac≠p):∀ j (hj:j<a.length),Full a[j]→a[j].Ac≠p:=fun j hj b=>by
 have c:=h j (by omega) hj;rw[c.1];refine d j (by omega) ?_;unfold Full at b ⊢;rw[← c.2];exact b
theorem Wd {fs:List Fr}{p:Int}(h:∀ x∈fs,¬ (Full x∧x.Ac=p)):∀ j (hj:j<fs.length),Full fs[j]→fs[j].Ac≠p:=fun j hj a e=>h fs[j] (List.getElem_mem hj) ⟨a,e⟩
theorem Sj {fs:List Fr}{p:Nat}(h:∀ j (hj:j<fs.length),Full fs[j]→fs[j].Ac≠(p:Int)):¬ Pc fs p:=fun⟨i,a,b,c,_⟩=>h i a b c
theorem PI.bytes {N n:Nat}{s:Tx.St}{fs:List Fr}{C:Nat→ByteArray}(h:PI N n s fs C){k:Nat}(hk:k<fs.length){p:Nat}(a:Full fs[k])(b:fs[k].Ac=(p:Int)):p<n∧fs[k].bytes=C p:=by
 obtain⟨q,c,d,f⟩:=h.fr.at_ k hk a;have e:p=q:=Int.ofNat.inj (b.symm.trans d);subst e;exact⟨c,f⟩
theorem pY {C:Nat→ByteArray}{p:Nat}(h:Mo (C p)):C p≠⟨#[]⟩:=fun e=>by have:=h.size;rw[e]at this;exact absurd this (by decide)
end Go.Proofs.YtmldoihahndcgaaGreatDoor
