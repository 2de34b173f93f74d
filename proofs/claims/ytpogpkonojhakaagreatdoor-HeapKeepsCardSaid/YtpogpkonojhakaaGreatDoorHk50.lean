import Derived.Test.YtpogpkonojhakaaGreatDoorHk00
import Derived.Test.YtpogpkonojhakaaGreatDoorHk01
import Derived.Test.YtpogpkonojhakaaGreatDoorHk04
import Derived.Test.YtpogpkonojhakaaGreatDoorHk06
import Derived.Lib.AtoiAll
import Derived.Lib.ItoaMem
import Derived.Lib.ItoaLen
import Derived.Lib.SliceRun
import Derived.Deep.RegionLaw
import Derived.Deep.MidRow
set_option maxRecDepth 100000
set_option maxHeartbeats 16000000
set_option linter.unusedSimpArgs false
namespace Lg
open Rc
def G9 (F N:Nat)(d:Dk):List UInt8:=flat ((d.sectors.drop F).take N)
theorem pQ {F N:Nat}{d:Dk}(a:Whole d.sectors)(b:F+N≤d.sectors.length):(G9 F N d).length=N*128:=by
 unfold G9;rw[Ce ((a.drop F).take N),List.length_take,List.length_drop]
 congr 1;omega
theorem pR {L:List ByteArray}{F N j:Nat}{b:ByteArray}(e:j<N):((L.set (F+j) b).drop F).take N=((L.drop F).take N).set j b:=by
 refine List.ext_getElem? fun i=>?_;simp only[List.getElem?_take,List.getElem?_drop,List.getElem?_set,List.length_take,List.length_drop]
 by_cases a:i<N
 ·by_cases d:i=j
  ·subst d
   simp only[if_pos a,if_pos]
   by_cases c:F+i<L.length
   ·rw[if_pos c,if_pos (by omega)]
   ·rw[if_neg c,if_neg (by omega)]
  ·simp only[if_pos a]
   rw[if_neg (by omega),if_neg (by omega)]
 ·rw[if_neg a]
  rw[if_neg (by omega),if_neg a]
theorem kV (n:Nat):∀ l:List UInt8,l.length≤n→flat (P5 l)=l++List.replicate ((P5 l).length*128-l.length) 0:=by
 induction n with
 |zero=>
  intro l e;rw[List.eq_nil_of_length_eq_zero (l:=l) (by omega),Ij];rfl
 |succ n ih=>
  intro l e
  by_cases h:l=[]
  ·rw[h,Ij];rfl
  ·have i:0<l.length:=by cases l with
    |nil=>contradiction
    |cons a l=>simp
   have f:(Kd (l.take 128)).data.toList=l.take 128++List.replicate (128-(l.take 128).length) 0:=(by unfold Kd;rfl);rw[M7 h,Fh,f,ih _ (by rw[List.length_drop];omega),List.length_cons];have b:=Q5 _ (l.drop 128) (Nat.le_refl _)
   by_cases d:l.length≤128
   ·have c:l.drop 128=[]:=List.drop_eq_nil_of_le d
    rw[c,Ij,List.take_of_length_le d]
    simp
   ·have c:(l.take 128).length=128:=by rw[List.length_take];omega
    rw[c,Nat.sub_self,List.replicate_zero,List.append_nil,← List.append_assoc,List.take_append_drop,List.length_drop];rw[List.length_drop]at b;have g:(P5 (l.drop 128)).length*128-(l.length-128)=((P5 (l.drop 128)).length+1)*128-l.length:=(by omega);rw[g]
theorem pU:flat [Da]=List.replicate 128 0:=by
 have h:∀ l:List UInt8,flat [⟨l.toArray⟩]=l:=fun l=>by unfold flat;simp
 exact h _
theorem pV {L:List ByteArray}(h:Whole L)(i:Nat)(hi:i<L.length):(L[i]?.getD ⟨#[]⟩).data.toList=((flat L).drop (i*128)).take 128∧(L[i]?.getD ⟨#[]⟩).size=128:=by
 rw[List.getElem?_eq_getElem hi,Option.getD_some];refine⟨?_,h _ (List.getElem_mem hi)⟩;rw[← jY h,List.drop_eq_getElem_cons hi,Fh,List.take_left' (by have:=h _ (List.getElem_mem hi);simpa using this)]
structure Hf (F N:Nat) (d:Dk) (g:Lo) (r1 r2:List Rec):Prop where
 whole:Whole d.sectors
 room:F+N≤d.sectors.length
 hf:g.from_=(F:Int)
 hn:g.n=(N:Int)
 row:Row 0 (r1++r2)
 pre:(G9 F N d).take (bytes r1).length=bytes r1
 safe:g.safe=((bytes r1).length:Int)
 end_:g.end_=((bytes (r1++r2)).length:Int)
 tail:g.tail=⟨((bytes (r1++r2)).drop ((bytes r1).length-(bytes r1).length%128)).toArray⟩
 fit:(bytes (r1++r2)).length≤N*128
theorem Kw (a b:List Rec):(bytes (a++b)).length=(bytes a).length+(bytes b).length:=by rw[Lh,List.length_append]
theorem kW (r:Rec):bytes [r]=D9 r:=by unfold bytes;simp
theorem Kn {l:List Rec}(h:(bytes l).length=0):l=[]:=by
 cases l with
 |nil=>rfl
 |cons r l=>rw[Tb,List.length_append,Mg]at h;omega
theorem Hf.Qc {F N:Nat}{d:Dk}{g:Lo}{a b:List Rec}(h:Hf F N d g a b):(g.tail.size:Int)=g.end_-(((bytes a).length/128*128:Nat):Int):=by
 have c:=Kw a b;rw[h.tail,h.end_]
 show((((bytes (a++b)).drop ((bytes a).length-(bytes a).length%128)).toArray.size:Nat):Int)=_
 rw[List.size_toArray,List.length_drop];omega
theorem Hf.new {F N:Nat}{d:Dk}(a:Whole d.sectors)(b:F+N≤d.sectors.length):Hf F N d ⟨F,N,0,0,⟨#[]⟩⟩ [] []:=
 ⟨a,b,rfl,rfl,trivial,rfl,rfl,rfl,rfl,Nat.zero_le _⟩
theorem Hf.append {F N:Nat}{d:Dk}{g:Lo}{a b:List Rec}(h:Hf F N d g a b)(r:Rec):
 (As g r=(g,0,1))∨(As g r=(g,0,18))∨
 ((As g r).2=(g.end_+1,0)∧Hf F N d (As g r).1 a (b++[{r with lsn:=g.end_+1}])):=by
 by_cases c:Bx {r with lsn:=g.end_+1}
 ·by_cases j:g.n*128-((D9 {r with lsn:=g.end_+1}).length:Int)<g.end_
  ·refine .inr (.inl ?_)
   unfold As;simp only;rw[if_neg (fun f=>f c),if_pos j]
  ·refine .inr (.inr ?_)
   have e:As g r=({g with end_:=g.end_+((D9 {r with lsn:=g.end_+1}).length:Int),tail:=g.tail++⟨(D9 {r with lsn:=g.end_+1}).toArray⟩},g.end_+1,0):=by
    unfold As;simp only;rw[if_neg (fun f=>f c),if_neg j]
   rw[e];refine⟨rfl,?_⟩;have i:bytes (a++(b++[{r with lsn:=g.end_+1}]))=bytes (a++b)++D9 {r with lsn:=g.end_+1}:=by
    rw[← List.append_assoc,Lh (a++b),kW]
   refine⟨h.whole,h.room,h.hf,h.hn,?_,h.pre,h.safe,?_,?_,?_⟩
   ·rw[← List.append_assoc,dL]
    refine⟨h.row,c,?_,trivial⟩
    show g.end_+1=_
    rw[h.end_];simp
   ·show g.end_+_=_
    rw[i,List.length_append,h.end_];omega
   ·show g.tail++_=_
    have k:=Kw a b;rw[i,h.tail,List.drop_append_of_le_length (by omega)]
    apply ByteArray.ext
    rw[ByteArray.data_append]
    simp
   ·rw[i,List.length_append]
    have l:=h.hn;have m:=h.end_;omega
 ·refine .inl ?_
  unfold As;simp only;rw[if_pos c]
structure Mn (F N f:Nat) (s n t:List UInt8) (all:List ByteArray):Prop where
 whole:Whole all
 fits:f+all.length≤N
 some_:0<all.length
 flat_:n=s.take (f*128)++(flat all++s.drop ((f+all.length)*128))
 len:s.length=N*128
theorem Mn.pW {F N f:Nat}{s n t:List UInt8}{all:List ByteArray}(h:Mn F N f s n t all):n.length=N*128:=by
 have a:=h.fits;have b:=h.len;rw[h.flat_,List.length_append,List.length_append,Ce h.whole,List.length_take,List.length_drop];omega
theorem Mn.piece {F N f:Nat}{s n t:List UInt8}{all:List ByteArray}(h:Mn F N f s n t all)(i:Nat)(hi:i<all.length):(all[i]?.getD ⟨#[]⟩).data.toList=(n.drop ((f+i)*128)).take 128∧(all[i]?.getD ⟨#[]⟩).size=128:=by
 obtain⟨a,b⟩:=pV h.whole i hi;refine⟨?_,b⟩;have c:=h.fits;have d:=h.len;have e:=Ce h.whole;rw[a,h.flat_,show(f+i)*128=f*128+i*128 by omega,← List.drop_drop,List.drop_left' (by rw[List.length_take];omega),List.drop_append_of_le_length (by omega),List.take_append_of_le_length (by rw[List.length_drop];omega)]
theorem Mn.start {F N f:Nat}{s n t:List UInt8}{all:List ByteArray}(h:Mn F N f s n t all):mix s n ((f+all.length)*128)=s:=by
 have a:=h.fits;have b:=h.len;have c:=Ce h.whole;unfold mix;rw[h.flat_,← List.append_assoc,List.drop_left' (by rw[List.length_append,List.length_take];omega),List.take_append_drop]
theorem Mn.xZ {F N f:Nat}{s n t:List UInt8}{all:List ByteArray}(h:Mn F N f s n t all):mix s n (f*128)=n:=by
 refine vO (by rw[h.len,h.pW]) fun i a=>?_;have b:=h.fits;have c:=h.len;rw[h.flat_,List.getElem?_append_left (by rw[List.length_take];omega),List.getElem?_take,if_pos a]
theorem dY {F N f:Nat}{s n t:List UInt8}{all:List ByteArray}(u:Mn F N f s n t all):∀ (i:Nat),i≤all.length→∀ d:Dk,Whole d.sectors→F+N≤d.sectors.length→d.down=false→-1≤d.left→G9 F N d=mix s n ((f+i)*128)→
 ((Cp ((F:Int)+f) all i d).2=0∧(Cp ((F:Int)+f) all i d).1.down=false∧-1≤(Cp ((F:Int)+f) all i d).1.left∧(d.left= -1→(Cp ((F:Int)+f) all i d).1.left= -1)∧G9 F N (Cp ((F:Int)+f) all i d).1=mix s n (f*128)∧Whole (Cp ((F:Int)+f) all i d).1.sectors∧(Cp ((F:Int)+f) all i d).1.sectors.length=d.sectors.length)∨
 ((Cp ((F:Int)+f) all i d).2=20∧d.left≠-1∧(∃ q,G9 F N (Cp ((F:Int)+f) all i d).1=mix s n q)∧Whole (Cp ((F:Int)+f) all i d).1.sectors∧(Cp ((F:Int)+f) all i d).1.sectors.length=d.sectors.length):=by
 intro i
 induction i with
 |zero=>
  intro _ d l E k B v;exact .inl ⟨rfl,k,B,fun h=>h,by unfold Cp;exact v,l,rfl⟩
 |succ i G=>
  intro J d l E k B v;obtain⟨w,c⟩:=u.piece i (by omega);have C:=u.fits;have j:Hr d ((F:Int)+f+(i:Int)):=⟨by omega,by omega⟩
  by_cases D:d.left=0
  ·have e:C8 d ((F:Int)+f+(i:Int)) (all[i]?.getD ⟨#[]⟩)=({d with down:=true},20):=by
    unfold C8;rw[k,if_neg (by simp),if_neg (fun x=>x ⟨j,c⟩),if_pos D]
   have y:Cp ((F:Int)+f) all (i+1) d=({d with down:=true},20):=by
    unfold Cp;rw[e,if_neg (show ¬ (20:Int)=0 by decide)]
   rw[y];exact .inr ⟨rfl,by omega,⟨_,v⟩,l,rfl⟩
  ·obtain⟨d2,g⟩:=ex ({d with sectors:=d.sectors.set ((F:Int)+f+(i:Int)).toNat (all[i]?.getD ⟨#[]⟩),left:=if 0<d.left then d.left-1 else d.left}:Dk)
   have e:C8 d ((F:Int)+f+(i:Int)) (all[i]?.getD ⟨#[]⟩)=(d2,0):=by
    unfold C8;rw[k,if_neg (by simp),if_neg (fun x=>x ⟨j,c⟩),if_neg D,g,← k]
   have y:Cp ((F:Int)+f) all (i+1) d=Cp ((F:Int)+f) all i d2:=by
    conv=>lhs;unfold Cp
    rw[e,if_pos rfl]
   rw[y];have m:((F:Int)+f+(i:Int)).toNat=F+(f+i):=(by omega);have a:d2.sectors=d.sectors.set (F+(f+i)) (all[i]?.getD ⟨#[]⟩):=(by rw[g,← m]);have b:d2.left=if 0<d.left then d.left-1 else d.left:=by rw[g]
   have hlen:d2.sectors.length=d.sectors.length:=(by rw[a,List.length_set]);have o:G9 F N d2=mix s n ((f+i)*128):=by
    unfold G9;rw[a,pR (by omega)];refine pG ((l.drop F).take N) c (by rw[List.length_take,List.length_drop];omega) (by rw[u.len,u.pW]) ?_ w;have:(f+i+1)*128=(f+(i+1))*128:=(by omega);rw[this];exact v
   have z:Whole d2.sectors:=(by rw[a];exact l.set _ c);have H:=G (by omega) d2 z (by omega) (by rw[g];exact k) (by rw[b];split<;>omega) o;have p:d.left= -1→d2.left= -1:=fun r=>by rw[b,if_neg (by omega)];exact r
   rcases H with⟨A,a2,a3,a4,a5,I,K⟩|⟨A,a2,a3,a4,a5⟩
   ·exact .inl ⟨A,a2,a3,fun r=>a4 (p r),a5,I,by omega⟩
   ·exact .inr ⟨A,fun r=>a2 (p r),a3,a4,by omega⟩
theorem Hf.Fl {F N:Nat}{d:Dk}{g:Lo}{a b:List Rec}(h:Hf F N d g a b):Fl g=(((bytes a).length/128:Nat):Int):=by
 unfold Lg.Fl;have:=h.Qc;rw[this];omega
theorem Hf.vD {F N:Nat}{d:Dk}{g:Lo}{a c:List Rec}(h:Hf F N d g a c)(A:c≠[]):
 ∃ n,Mn F N ((bytes a).length/128) (G9 F N d) n [] (Gp g)∧jX n (a++c):=by
 obtain⟨X,o⟩:=ex ((bytes a).length);obtain⟨Y,p⟩:=ex ((bytes (a++c)).length);have B:=Kw a c;have w:0<(bytes c).length:=Nat.pos_of_ne_zero fun m=>A (Kn m);have j:=h.fit;have q:=pQ (N:=N) h.whole h.room;have f:g.tail.data.toList=(bytes (a++c)).drop (X-X%128):=by rw[h.tail,o]
 have r:g.tail.size=Y-(X-X%128):=by
  have:g.tail.data.toList.length=g.tail.size:=by simp
  rw[← this,f,List.length_drop,p]
 have C:=Jz g.tail;have k:flat (Iq g.tail)=(bytes (a++c)).drop (X-X%128)++List.replicate ((Iq g.tail).length*128-g.tail.size) 0:=by
  unfold Iq;rw[kV _ _ (Nat.le_refl _),f,List.length_drop,← f,r,← p]
 obtain⟨z,m,s,D⟩:∃ z,flat (Gp g)=(bytes (a++c)).drop (X-X%128)++List.replicate z 0∧(X/128+(Gp g).length≤N)∧(128≤z∨Y+z=N*128):=by
  unfold Gp;rw[h.Fl,h.hn,← o]
  by_cases x:(((X/128:Nat):Int)+((Iq g.tail).length:Int))<(N:Int)
  ·rw[if_pos x]
   refine⟨(Iq g.tail).length*128-g.tail.size+128,?_,?_,.inl (by omega)⟩
   ·rw[Q3,k,pU,List.append_assoc,List.replicate_append_replicate]
   ·rw[List.length_append];simp;omega
  ·rw[if_neg x]
   refine⟨(Iq g.tail).length*128-g.tail.size,k,?_,.inr ?_⟩
   ·omega
   ·omega
 have l:Whole (Gp g):=by
  unfold Gp
  split
  ·intro b E
   rcases List.mem_append.1 E with h3|h3
   ·exact M8 _ b h3
   ·rw[List.mem_singleton.1 h3];exact I1
  ·exact M8 _
 have t:0<(Gp g).length:=by
  have:(Iq g.tail).length≤(Gp g).length:=by unfold Gp;split<;>simp
  omega
 have u:=Ce l;rw[m,List.length_append,List.length_drop,List.length_replicate,← p]at u;obtain⟨n,y⟩:=ex ((G9 F N d).take (X/128*128)++(flat (Gp g)++(G9 F N d).drop ((X/128+(Gp g).length)*128)));have v:Mn F N (X/128) (G9 F N d) n [] (Gp g):=⟨l,s,t,y,q⟩;have e:n=bytes (a++c)++(List.replicate z 0++(G9 F N d).drop ((X/128+(Gp g).length)*128)):=by
  have G:(G9 F N d).take (X/128*128)=(bytes (a++c)).take (X/128*128):=by
   have h3:=congrArg (List.take (X/128*128)) h.pre;rw[List.take_take,Nat.min_eq_left (by omega)]at h3;rw[h3,Lh,List.take_append_of_le_length (by omega)]
  rw[y,m,G,show X-X%128=X/128*128 by omega,List.append_assoc,← List.append_assoc,List.take_append_drop]
 refine⟨n,by rw[← o];exact v,h.row,?_,?_,?_⟩
 ·rw[e,List.take_left' rfl]
 ·rw[v.pW];exact j
 ·intro i h3 I H
  rw[v.pW]at H;rw[e,List.getElem?_append_right h3,List.getElem?_append_left (by rw[List.length_replicate];omega),List.getElem?_replicate,if_pos (by omega)]
theorem Hf.force {F N:Nat}{d:Dk}{g:Lo}{a b:List Rec}(h:Hf F N d g a b)(s:d.down=false)(t: -1≤d.left):
 ((Bf d g).2.2=0∧Hf F N (Bf d g).1 (Bf d g).2.1 (a++b) []∧(Bf d g).1.down=false∧-1≤(Bf d g).1.left∧(d.left= -1→(Bf d g).1.left= -1)∧(Bf d g).1.sectors.length=d.sectors.length∧(Bf d g).2.1.safe=(Bf d g).2.1.end_∧(jX (G9 F N d) a∨b≠[]→jX (G9 F N (Bf d g).1) (a++b)))∨
 ((Bf d g).2.2=20∧b≠[]∧(Bf d g).2.1=g∧d.left≠-1∧Whole (Bf d g).1.sectors∧(Bf d g).1.sectors.length=d.sectors.length∧∃ n q,jX n (a++b)∧n.length=N*128∧G9 F N (Bf d g).1=mix (G9 F N d) n q):=by
 by_cases m:b=[]
 ·subst m
  have c:g.safe=g.end_:=by rw[h.safe,h.end_,List.append_nil]
  have e:Bf d g=(d,g,0):=by unfold Bf;rw[if_pos c]
  rw[e];refine .inl ⟨rfl,?_,s,t,fun hx=>hx,rfl,c,fun hx=>?_⟩
  ·have u:=h
   rw[← List.append_nil a]at u
   simpa using u
  ·rcases hx with hx|hx
   ·simpa using hx
   ·exact absurd rfl hx
 ·have c:¬ g.safe=g.end_:=by
   have v:0<(bytes b).length:=Nat.pos_of_ne_zero fun y=>m (Kn y);have p:=Kw a b;rw[h.safe,h.end_];omega
  obtain⟨n,j,r⟩:=h.vD m;have i:g.from_+Lg.Fl g=(F:Int)+(((bytes a).length/128:Nat):Int):=by rw[h.hf,h.Fl]
  have w:=dY j (Gp g).length (Nat.le_refl _) d h.whole h.room s t j.start.symm;rw[← i]at w;rcases w with⟨o,a2,a3,a4,a5,z,x⟩|⟨o,a2,a3,a4,a5⟩
  ·have e:Bf d g=((Cp (g.from_+Lg.Fl g) (Gp g) (Gp g).length d).1,J0 g,0):=by
    unfold Bf;rw[if_neg c];simp only;rw[if_pos o]
   rw[e];refine .inl ⟨rfl,?_,a2,a3,a4,x,rfl,fun _=>by show jX (G9 F N _) _;rw[a5,j.xZ];exact r⟩;have k:G9 F N (Cp (g.from_+Lg.Fl g) (Gp g) (Gp g).length d).1=n:=(by rw[a5,j.xZ]);have A:=h.Qc;have f:=h.end_;refine⟨z,by rw[x];exact h.room,h.hf,h.hn,by rw[List.append_nil];exact h.row,?_,?_,?_,?_,by rw[List.append_nil];exact h.fit⟩
   ·show(G9 F N (Cp (g.from_+Lg.Fl g) (Gp g) (Gp g).length d).1).take _=_
    rw[k];exact r.pre
   ·show g.end_=_
    exact f
   ·show g.end_=_
    rw[List.append_nil];exact f
   ·show g.tail.extract (g.tail.size-(g.end_%128).toNat) g.tail.size=_
    have p:=Kw a b;have l:g.tail.size=(bytes (a++b)).length-(bytes a).length/128*128:=(by omega);rw[List.append_nil,f]
    apply ByteArray.ext
    rw[ByteArray.data_extract,h.tail]
    apply Array.toList_inj.1
    rw[Array.toList_extract];simp only[List.extract_eq_drop_take'];rw[← h.tail,l];have B:(((((bytes (a++b)).length:Nat):Int)%128).toNat)=(bytes (a++b)).length%128:=(by omega);rw[B];rw[List.drop_take,List.drop_drop,List.take_of_length_le (by rw[List.length_drop];omega)]
    congr 1;omega
  ·have e:Bf d g=((Cp (g.from_+Lg.Fl g) (Gp g) (Gp g).length d).1,g,20):=by
    unfold Bf;rw[if_neg c];simp only;rw[if_neg (show ¬ _ by rw[o];decide),o]
   rw[e];obtain⟨q,C⟩:=a3;exact .inr ⟨rfl,m,rfl,a2,a4,a5,n,q,r,j.pW,C⟩
end Lg
namespace Tx
open Rc Lg
def Mo (r:Rec):Prop:=1≤r.txn∧1≤r.kind∧r.kind≤7
instance (r:Rec):Decidable (Mo r):=by unfold Mo;exact inferInstance
def O7 (r:Rec)(t:Bc):Bc:=⟨t.txn,r.lsn,if r.kind=1∨r.kind=2 then r.lsn else if r.kind=3∨r.kind=4 then r.next else t.next,if r.kind=5 then true else t.done⟩
def Cy:List Bc→Int→Option Nat
 |[],_=>none
 |t::l,n=>if t.txn=n then some 0 else(Cy l n).map (·+1)
theorem F4 {l:List Bc}{n:Int}{i:Nat}(h:Cy l n=some i):∃ hi:i<l.length,l[i].txn=n∧∀ j (hj:j<i),l[j].txn≠n:=by
 induction l generalizing i with
 |nil=>cases h
 |cons t l ih=>
  unfold Cy at h
  split at h
  ·rename_i a
   injection h with h;subst h
   exact⟨by simp,a,fun j hj=>absurd hj (by omega)⟩
  ·rename_i a
   cases b:Cy l n with
   |none=>rw[b]at h;cases h
   |some k=>
    rw[b]at h
    injection h with h
    have c:i=k+1:=h.symm;subst c;obtain⟨d,e,f⟩:=ih b;refine⟨by simpa using d,by simpa using e,fun j hj=>?_⟩
    cases j with
    |zero=>simpa using a
    |succ j=>simpa using f j (by omega)
theorem Q7 {l:List Bc}{n:Int}(h:Cy l n=none):∀ t∈l,t.txn≠n:=by
 induction l with
 |nil=>intro t a;cases a
 |cons t l c=>
  unfold Cy at h
  split at h
  ·cases h
  ·rename_i a
   cases b:Cy l n with
   |some k=>rw[b]at h;cases h
   |none=>
    intro u d;rcases List.mem_cons.1 d with e|e
    ·rw[e];exact a
    ·exact c b u e
theorem kX {l:List Bc}{n:Int}{i:Nat}(hi:i<l.length)(h:l[i].txn=n)(b:∀ j (hj:j<i),l[j].txn≠n):Cy l n=some i:=by
 cases a:Cy l n with
 |none=>exact absurd h (Q7 a _ (List.getElem_mem hi))
 |some k=>
  obtain⟨e,c,d⟩:=F4 a;rcases Nat.lt_trichotomy k i with h4|h4|h4
  ·exact absurd c (b k h4)
  ·rw[h4]
  ·exact absurd h (d i h4)
theorem kY {l:List Bc}{n:Int}(h:∀ t∈l,t.txn≠n):Cy l n=none:=by
 cases a:Cy l n with
 |none=>rfl
 |some k=>obtain⟨b,c,_⟩:=F4 a;exact absurd c (h _ (List.getElem_mem b))
def En (l:List Bc)(r:Rec):List Bc:=
 if ¬ Mo r then l else
 match Cy l r.txn with
 |none=>if r.kind=7 then l else l++[O7 r ⟨r.txn,0,0,false⟩]
 |some i=>if r.kind=7 then l.take i++l.drop (i+1)else l.take i++O7 r (l[i]?.getD ⟨0,0,0,false⟩)::l.drop (i+1)
theorem kZ (l:List Bc)(r:Rec):(En l r).length≤l.length+1:=by
 unfold En
 split
 ·omega
 ·cases a:Cy l r.txn with
  |none=>simp only;split<;>simp
  |some i=>
   obtain⟨b,_⟩:=F4 a;simp only
   split
   ·rw[List.length_append,List.length_take,List.length_drop];omega
   ·rw[List.length_append,List.length_take,List.length_cons,List.length_drop];omega
structure St where
 zlog:Int
 zpages:Int
 zframes:Int
 Ay:Dk
 log:Lo
 hand:Int
 txns:List Bc
 next:Int
def Hh (s:St)(n:Int):Bc×Bool:=match Cy s.txns n with
 |none=>(⟨0,0,0,false⟩,false)
 |some i=>(s.txns[i]?.getD ⟨0,0,0,false⟩,true)
def aP (s:St)(n:Int):Int:=(Hh s n).1.last
noncomputable def Xs (s:St) (r:Rec):St×Int:=
 if(As s.log r).2.2=0 then({s with log:=(As s.log r).1,txns:=En s.txns {r with lsn:=(As s.log r).2.1}},0)else(s,(As s.log r).2.2)
noncomputable def O8 (s:St) (n:Int) (opn:Bool) (r:Rec):St×Int:=
 if(Hh s n).2=false then(s,21)else if opn=true∧(Hh s n).1.done=true then(s,17)else Xs s {r with txn:=n,prev:=(Hh s n).1.last}
def aQ (m:Int):Rec:=⟨0,0,0,4,0,m,0,Jo,0,0,Cg,[],[]⟩
noncomputable def Tp (s:St) (n m:Int):St×Int:=O8 s n true (aQ m)
def fresh (n:Nat):St:=⟨n,0,0,Li (n+1),⟨1,n,0,0,⟨#[]⟩⟩,0,[],1⟩
end Tx
namespace Lg
open Rc
theorem aR (n:Nat):Whole (Li n).sectors:=fun b a=>by
 have:b=Da:=by
  have h:=List.mem_replicate.1 a;exact h.2
 rw[this];exact I1
theorem Hf.sU {N:Nat}{d:Dk}{g:Lo}{a b:List Rec}(h:Hf 1 N d g a b)(c:N≤4000):0≤g.end_∧g.end_≤512000∧(g.tail.size:Int)≤g.end_∧g.end_%128≤(g.tail.size:Int)∧g.from_=1∧g.n=(N:Int)∧0≤g.safe∧g.safe≤g.end_:=by
 have e:=h.end_;have f:=h.Qc;have i:=h.fit;have j:=Kw a b;have k:=h.safe;exact⟨by omega,by omega,by omega,by omega,h.hf,h.hn,by omega,by omega⟩
end Lg
namespace Tx
open Rc Lg
def Good (N:Nat)(s:St):Prop:=∃ r1 r2,Hf 1 N s.Ay s.log r1 r2∧s.Ay.down=false∧s.Ay.left= -1∧s.Ay.sectors.length=N+1∧jX (G9 1 N s.Ay) r1∧(r1++r2).foldl En []=s.txns
def Has (L:List Rec)(x:Int):Prop:=∃ r∈L,r.kind=5∧r.txn=x
end Tx
namespace Lg
open Rc
end Lg
namespace Tx
open Rc Lg
theorem sV {s:St}{r:Rec}{g:Lo}(h:As s.log r=(g,s.log.end_+1,0)):Xs s r=({s with log:=g,txns:=En s.txns {r with lsn:=s.log.end_+1}},0):=by
 unfold Xs;rw[h];simp only;rw[if_pos trivial]
structure aS (s:St):Prop where
 e0:0≤s.log.end_
 e1:s.log.end_≤512000
 t0:(s.log.tail.size:Int)≤s.log.end_
 t1:s.log.end_%128≤(s.log.tail.size:Int)
 f:s.log.from_=1
 n0:0≤s.log.n
 n1:s.log.n≤4000
 s0:0≤s.log.safe
 s1:s.log.safe≤s.log.end_
theorem sX {N:Nat}{d:Dk}{s:St}{a b:List Rec}(h:Hf 1 N d s.log a b)(c:N≤4000):aS s:=by
 obtain⟨e,a2,a3,a4,a5,i,f,g⟩:=h.sU c;exact⟨e,a2,a3,a4,a5,by omega,by omega,f,g⟩
def Oi:Option Nat→Int
 |none=> -1
 |some k=>(k:Int)
end Tx
namespace Go.Proofs.YtpogpkonojhakaaGreatDoor
open Go.RowKit
theorem lA (t:Rc.Bc)(n:Int)(g:Nat)(w:World)(h:w.cell? ⟨g,0,none⟩=some (.int .i64 n)):
 Cr 197 #[xM t,.pointer (some ⟨g,0,none⟩)] w (.bool (decide (t.txn=n))):=by
 obtain⟨a,b,c,d⟩:=t;have f:g<w.heap.size:=by
  rcases Nat.lt_or_ge g w.heap.size with h1|h1
  ·exact h1
  ·unfold World.cell? at h
   rw[Array.getElem?_eq_none h1]at h
   cases h
 have j:(w.alloc (.cells #[a,b,c,d] 107)).cell? ⟨g,0,none⟩=some (.int .i64 n):=((Ac w _).cell (p:=⟨g,0,none⟩) f).trans h;simp only
 by_cases e:a=n
 ·subst e
  rw[decide_eq_true rfl];have i:(a==a)=true:=by simp
  go_enter Tryz.func197,Tryz.ntmps197;go_wp2_with fail;go_ret;exact⟨by simp,Ac _ _⟩
 ·rw[decide_eq_false e]
  have i:(a==n)=false:=by simpa using e
  clear e;go_enter Tryz.func197,Tryz.ntmps197;go_wp2_with fail;go_ret;exact⟨by simp[*],Ac _ _⟩
def F5 (o:Option Nat)(w:World)(e:Ending)(w':World):Prop:=e= .returned (.int .i64 (Tx.Oi o))∧Bw w w'
theorem dZ (l:List Rc.Bc)(n:Int)(Z:l.length≤140737488355328)(A:Option Addr)(c g:Nat)(w:World)(G:Ym w A c l)(H:w.cell? ⟨g,0,none⟩=some (.int .i64 n))(u:g<w.heap.size):
 Cq 125 #[.slice A l.length c,.func (.func 197) #[] #[.pointer (some ⟨g,0,none⟩)]] w (F5 (Tx.Cy l n) w):=by
 have L:=Hq G;have M:=Hq (fun t W (m:Bw w W)=>lA t n g W ((m.cell (p:=⟨g,0,none⟩) u).trans H));have I:=Hq (fun(k:Nat) w' (hk:k<l.length) (h1:l[k].txn=n) (B:∀ j (b:j<k),l[j].txn≠n) (m:Bw w w')=>show F5 (Tx.Cy l n) w (.returned (.int .i64 (k:Int))) w' from⟨by rw[Tx.kX hk h1 B];rfl,m⟩);have J:=Hq (fun w' (B:∀ j (b:j<l.length),l[j].txn≠n) (m:Bw w w')=>show F5 (Tx.Cy l n) w (.returned (.int .i64 (-1))) w' from⟨by
  rw[Tx.kY fun t N=>by
   obtain⟨j,b,rfl⟩:=List.getElem_of_mem N;exact B j b]
  rfl,m⟩)
 generalize F5 (Tx.Cy l n) w=Q at I J ⊢;clear G H u;go_enter Tryz.func125,Tryz.ntmps125;go_wp2_with fail
 go_loopw [8] (fun i wr=>∃ k:Nat,k≤l.length∧i= .int .i64 k∧(∀ j (b:j<l.length),j<k→l[j].txn≠n)∧Bw w wr) (fun i _=>l.length-(intOf i).toNat)
 case atStart=>exact⟨0,Nat.zero_le _,rfl,fun _ _ h=>absurd h (by omega),Below.refl _ _⟩
 case round=>
  obtain⟨k,hk,rfl,q,o⟩:=hrel;have C:=Hq q;have d:=Hq o;clear q
  by_cases v:k<l.length
  ·obtain⟨b',off,rfl,hc,O,a⟩:=Cb Dn (L.out.below o) v
   have K:=a 0 _ rfl;have P:=a 1 _ rfl;have R:=a 2 _ rfl;have S:=a 3 _ rfl;clear a o;simp only[Nat.add_zero]at K;have y:=Hq (show ¬ l[k].txn=n→∀ j (b:j<l.length),j<k+1→l[j].txn≠n from fun h j b D=>by
    rcases Nat.lt_or_eq_of_le (Nat.le_of_lt_succ D)with h1|h1
    ·exact C.out j b h1
    ·subst h1;exact h)
   have z:=Hq (show l[k].txn=n→∀ w',Bw w w'→Q (.returned (.int .i64 (k:Int))) w' from fun h w' m=>I.out k w' v h (fun j b=>C.out j (by omega) b) m);have f:=Hq (fun W m=>M.out l[k] W m);generalize l[k]=x at K P R S z y f;have T:IntKind.i64.wrap ((k:Int)+1)=(k:Int)+1:=IntWalk.i64_in _ (by omega)
   by_cases s:x.txn=n
   ·have E:=Hq (z.out s)
    rw[decide_eq_true s]at f;clear z y s;obtain⟨U,V,X,fd⟩:=x
    go_wp2_with((go_at_call 197;(with_reducible refine(f.out _ d.out).mono ?_);rintro e w' ⟨rfl,r⟩))
    exact E.out _ (Af d.out r)
   ·have F:=Hq (y.out s)
    rw[decide_eq_false s]at f;clear z y s;obtain⟨U,V,X,fd⟩:=x
    go_wp2_with((go_at_call 197;(with_reducible refine(f.out _ d.out).mono ?_);rintro e w' ⟨rfl,r⟩))
    go_roundw
    case rel=>exact⟨k+1,by omega,by go_num,F.out,Af d.out r⟩
    case measure=>simp[intOf];omega
  ·obtain rfl:k=l.length:=by omega
   have Y:=Hq (J.out wr (fun j b=>C.out j b b) d.out);clear o;go_wp2_with fail;exact Y.out
theorem Tq (l:List Rc.Bc)(n:Int)(g:l.length≤140737488355328)(A:Option Addr)(c:Nat)(w:World)(f:Ym w A c l):
 Cq 159 #[.slice A l.length c,n] w (F5 (Tx.Cy l n) w):=by
 have a:=Hq (dZ l n g A c w.heap.size (w.alloc (.cells #[n] 3)) (f.below (Ac w _)) (by rw[World.cell?_alloc_new];rfl) (by simp));have b:=Hq (fun w' (d:Bw w w')=>show F5 (Tx.Cy l n) w (.returned (.int .i64 (Tx.Oi (Tx.Cy l n)))) w' from⟨rfl,d⟩);generalize F5 (Tx.Cy l n) w=Q at b ⊢;unfold F5 at a;generalize Tx.Oi (Tx.Cy l n)=r at a b;clear f;go_enter Tryz.func159,Tryz.ntmps159
 go_wp2_with((go_at_call 125;(with_reducible refine a.out.mono ?_);rintro e w' ⟨rfl,d⟩))
 exact b.out _ (Af (Ac _ _) d)
theorem Xt:(Tryz.prog.info? 107).map (fun i=>(i.zero,i.size,i.bytes))=some (some (.agg #[(),(),(),false]),4,32):=by kernel_rfl
theorem gP (t:Rc.Bc):∀ u∈F7 t,u.oneCell'=true:=by
 intro u a;simp only[F7,List.mem_cons,List.not_mem_nil,or_false]at a;rcases a with rfl|rfl|rfl|rfl<;>rfl
theorem Rz (l:List Rc.Bc):∀ u∈l.flatMap F7,u.oneCell'=true:=by
 intro u a;obtain⟨t,_,b⟩:=List.mem_flatMap.1 a;exact gP t u b
theorem pX {w:World}{B size n c g:Nat}{e:TypeId}{xs:List Value}(h:w.ownsRow B e size (.slice (some ⟨g,0,none⟩) n c) n xs)(j:Nat)(o:j<n*size):
 w.cell? ⟨g,j,none⟩=xs[j]?∧w.frozen? ⟨g,j,none⟩=false∧∀ x,(w.setCell ⟨g,j,none⟩ x).ownsRow B e size (.slice (some ⟨g,0,none⟩) n c) n (xs.set j x):=by
 obtain⟨q,r⟩:=h;rcases r with⟨s,_⟩|⟨z,cap,cur,t,u,f,p,d,k,a⟩
 ·cases s
 ·injection t with b v l
  injection b with b
  injection b with b _ _
  subst b l;have y:n*size≤c*size:=Nat.mul_le_mul_right _ p;refine⟨?_,Ap f j,fun x=>⟨by rw[List.length_set];exact q,.inr ⟨g,c,cur.setIfInBounds j x,rfl,u,Cu j f x,p,d,by rw[Array.size_setIfInBounds];exact k,?_⟩⟩⟩
  ·rw[Aa f j,← a,List.getElem?_take,if_pos o,Array.getElem?_toList]
  ·rw[← a]
   refine List.ext_getElem? fun i=>?_;rw[List.getElem?_set,List.getElem?_take,List.length_take,List.getElem?_take,Array.toList_setIfInBounds,List.getElem?_set];have A:cur.toList.length=cur.size:=by simp
   by_cases m:j=i
   ·subst m
    rw[if_pos rfl,if_pos rfl,if_pos o,if_pos (by omega),if_pos (by omega)]
   ·rw[if_neg m,if_neg m]
theorem Tc {α:Type}{enc:α→List Value}{k:Nat}(hk:∀ x,(enc x).length=k):∀ (l:List α) (j f:Nat) (y:α) (x:Value) (hj:j<l.length),f<k→enc y=(enc l[j]).set f x→(l.flatMap enc).set (j*k+f) x=(l.set j y).flatMap enc:=by
 intro l
 induction l with
 |nil=>intro j f y x hj;simp at hj
 |cons a l ih=>
  intro j f y x hj c b
  cases j with
  |zero=>
   simp only[List.getElem_cons_zero]at b;rw[List.flatMap_cons,List.set_cons_zero,List.flatMap_cons,b,Nat.zero_mul,Nat.zero_add,List.set_append_left _ _ (by rw[hk];exact c)]
  |succ j=>
   simp only[List.getElem_cons_succ]at b;rw[List.flatMap_cons,List.set_cons_succ,List.flatMap_cons,List.set_append_right _ _ (by rw[hk,Nat.succ_mul];omega)]
   congr 1
   rw[show(j+1)*k+f-(enc a).length=j*k+f by rw[hk,Nat.succ_mul];omega];exact ih j f y x (by simpa using hj) c b
theorem Ll {g:Nat}{T:TypeId}{fr:Nat×Nat}:∀ (vs:List Value) (o:Nat) (cs:Array Value) (w:World),w.heap[g]? =some (.cells cs T fr)→∃ cs':Array Value,(w.setCells g o vs).heap[g]? =some (.cells cs' T fr)∧cs'.size=cs.size∧∀ j,cs'[j]? =if o≤j∧j<o+vs.length∧j<cs.size then vs[j-o]? else cs[j]? :=by
 intro vs
 induction vs with
 |nil=>intro o cs w h;exact⟨cs,h,rfl,fun j=>by rw[if_neg (by simp;omega)]⟩
 |cons v vs ih=>
  intro o cs w h;obtain⟨cs',d,f,i⟩:=ih (o+1) _ _ (Cu o h v);refine⟨cs',d,by rw[f,Array.size_setIfInBounds],fun j=>?_⟩;rw[i,Array.size_setIfInBounds,Array.getElem?_setIfInBounds]
  by_cases b:j=o
  ·subst b
   rw[if_neg (by omega),if_pos rfl]
   by_cases a:j<cs.size
   ·rw[if_pos a,if_pos ⟨Nat.le_refl _,by simp,a⟩,Nat.sub_self];rfl
   ·rw[if_neg a,if_neg (by omega),Array.getElem?_eq_none (by omega)]
  ·by_cases c:o+1≤j∧j<o+1+vs.length∧j<cs.size
   ·rw[if_pos c,if_pos (by simp;omega)]
    obtain⟨m,rfl⟩:∃ m,j=o+1+m:=⟨j-(o+1),by omega⟩;rw[show o+1+m-(o+1)=m by omega,show o+1+m-o=m+1 by omega,List.getElem?_cons_succ]
   ·rw[if_neg c,if_neg (fun e=>b e.symm),if_neg (by simp;omega)]
theorem Jl {B g:Nat}(a:B≤g):∀ (vs:List Value) (o:Nat) (w:World),Below B w (w.setCells g o vs):=by
 intro vs
 induction vs with
 |nil=>intro o w;exact Below.refl _ _
 |cons v vs b=>
  intro o w;exact((Below.refl B w).setCell (p:=⟨g,o,none⟩) a v).trans (b (o+1) _)
theorem Tr (l:List Rc.Bc)(q:l.length≤1000000)(A:Option Addr)(c:Nat)(w:World)(a:Ym w A c l):
 Cq 132 #[.slice A l.length c] w fun e w'=>∃ v,e= .returned v∧D7 F7 4 107 w.heap.size w' v l∧Bw w w':=by
 obtain⟨i0,k,d,f,g⟩:=info_parts Xt;have m:=Hq a
 cases A with
 |none=>
  have h:l=[]:=by
   rcases Nat.eq_zero_or_pos l.length with h0|h0
   ·exact List.eq_nil_of_length_eq_zero h0
   ·obtain⟨b,off,e,_⟩:=a h0
    cases e
  subst h;clear a m;have n:∀ w,(binOp .eql 34 (.slice none 0 c) (.slice none 0 0)).run Tryz.prog w= .ok (.bool true) w:=fun w=>Lib.run_eql_slice_nil w 34 107 none 0 c 0 0 eA;simp only[List.length_nil];go_enter Tryz.func132,Tryz.ntmps132;go_wp2_with fail;go_ret;exact⟨_,rfl,Pu _ _ _ _,Below.refl _ _⟩
 |some ad=>
  have i:=Hq (a.below (Ac w (.cells #[] 107)));have n:∀ w,(binOp .eql 34 (.slice (some ad) l.length c) (.slice none 0 0)).run Tryz.prog w= .ok (.bool false) w:=fun w=>Lib.run_eql_slice_nil w 34 107 (some ad) l.length c 0 0 eA;clear a;go_enter Tryz.func132,Tryz.ntmps132
  go_wp2_with(at_builtin;refine Db Kr fun K o=>Js (w.alloc (.cells #[] 107)) (.tmp 5) (.tmp 6) 34 107 i0 (.agg #[(),(),(),false]) 4 32 eA k d f g rfl (by omega) rfl w.heap.size _ 0 [] rfl (Kg w 107 4) (some ad) l.length c (l.flatMap F7) rfl i.out (by rw[Ce Dn]) (Rz l) (by omega) (by omega) (by simp) ?_;intro v2 r j s p;refine o _ _ ?_)
  go_ret;rw[List.nil_append,Nat.zero_add]at j;exact⟨_,rfl,j,(Ac w (.cells #[] 107)).trans p⟩
def vR (n:Nat):List Value:=(Builtin.zeroCells (Value.cells (.agg #[(),(),(),false])) n).toList
theorem gQ (n:Nat):(vR n).length=n*4:=by simp[vR,Builtin.zeroCells,Value.cells]
theorem Xu (w:World)(b o n c:Nat)(l:0<n)(f:∀ j,j<n*4→(w.cell? ⟨b,o+j,none⟩).isSome=true)(g:∀ j,j<n*4→w.frozen? ⟨b,o+j,none⟩=false)(ty:TypeId):
 (Builtin.clear_ #[34] ty #[.slice (some ⟨b,o,none⟩) n c]).run Tryz.prog w= .ok (.tuple #[]) (w.setCells b o (vR n)):=by
 have h:∀ w,(zeroValue 107).run Tryz.prog w= .ok (.agg #[(),(),(),false]) w:=Tryz.zeroValue107;have a:=run_storeCells_cells (P:=Tryz.prog) b o (vR n) 0 w (by rw[gQ];simpa using f) (by rw[gQ];simpa using g) (by
  intro v d
  simp[vR,Builtin.zeroCells,Value.cells]at d
  obtain⟨i,_,rfl⟩:=d;have e:i%4<4:=Nat.mod_lt _ (by omega);generalize i%4=k at e;rcases k with _|_|_|_|k
  ·rfl
  ·rfl
  ·rfl
  ·rfl
  ·omega)
 simp only[Nat.add_zero]at a;unfold vR at a ⊢;obtain⟨m,rfl⟩:∃ m,n=m+1:=⟨n-1,by omega⟩
 simp[Builtin.clear_,run_underlying eA,h,a]
theorem aT (l:List Rc.Bc)(hl:l.length≤1000000)(i:Nat)(hi:i<l.length)(B g c:Nat)(w:World)(ho:D7 F7 4 107 B w (.slice (some ⟨g,0,none⟩) l.length c) l):
 Cq 247 #[.slice (some ⟨g,0,none⟩) l.length c,.int .i64 (i:Int),.int .i64 ((i:Int)+1)] w fun e w'=>∃ v,e= .returned v∧D7 F7 4 107 B w' v (l.take i++l.drop (i+1))∧Below B w w':=by
 obtain⟨i0,N,ao,O,aq⟩:=info_parts Xt;obtain⟨n,P⟩:=ex l.length;obtain⟨j,hj⟩:=ex (i+1);have x:((i:Int)+1)=(j:Int):=by omega
 rw[x];have HO:=Hq ho;obtain⟨y,h2⟩:=ho;rcases h2 with⟨Q,_⟩|⟨g',cap,cur,hv,p,hh,R,k,T,b⟩
 ·cases Q
 injection hv with f ar U
 injection f with f
 injection f with f _ _
 subst f U;rw[← P]at R b y hl hi ⊢;have J:=Hq hh;have HT:=Hq b;have au:i≤j:=by omega
 have av:j≤n:=by omega
 have aw:((i:Int)==(j:Int))=false:=by simp;omega
 have ag:(i:Int)≤(j:Int):=by omega
 have ah:(j:Int)≤(n:Int):=by omega
 have ai:(n:Int)≤(c:Int):=by omega
 have aj:(j:Int)≤(c:Int):=by omega
 have ak:(i:Int)≤(c:Int):=by omega
 have V:c≤maxLen:=k;have W:=Hq P;have X:=Hq hj;clear y hh b k HO P hj x;go_enter Tryz.func247,Tryz.ntmps247;obtain⟨news,a⟩:=ex ((l.drop j).flatMap F7);have d:news.length=(n-j)*4:=by rw[a,Ce Dn,List.length_drop,W.out]
 have Y:=Hq a;have Z:=Hq (show ∀ u∈news,u.oneCell'=true from by rw[a];exact Rz _);obtain⟨M,a1,o⟩:∃ M:Addr,(if c=j then(some ⟨g,0,none⟩:Option Addr)else some ⟨g,j*4,none⟩)=some M∧∀ t u,news[t]? =some u→w.drew.cell? (M.add t)=some u:=by
  by_cases z:c=j
  ·refine⟨_,by rw[if_pos z],fun t u A=>?_⟩
   have Q:news.length=0:=(by rw[d];omega);rw[List.length_eq_zero_iff.1 Q]at A
   simp at A
  ·refine⟨_,by rw[if_neg z],fun t u A=>?_⟩
   have q:t<(n-j)*4:=(by rw[← d];exact(List.getElem?_eq_some_iff.1 A).1);rw[Addr.add_mid]
   show w.cell? ⟨g,j*4+t,none⟩=some u
   rw[Aa J.out,← A,a];have h5:(l.flatMap F7)[j*4+t]? =((l.drop j).flatMap F7)[t]? :=by
    have h6:l.flatMap F7=(l.take j).flatMap F7++(l.drop j).flatMap F7:=(by rw[← List.flatMap_append,List.take_append_drop]);have h7:((l.take j).flatMap F7).length=j*4:=(by rw[Ce Dn,List.length_take];have:=W.out;omega);rw[h6,List.getElem?_append_right (by omega),h7,Nat.add_sub_cancel_left]
   rw[← h5,← HT.out,List.getElem?_take,if_pos (by omega),Array.getElem?_toList]
 have C:=Hq o;have a6:=Hq (show ∀ t,t<news.length→(w.drew.cell? ⟨g,0+i*4+t,none⟩).isSome=true∧w.drew.frozen? ⟨g,0+i*4+t,none⟩=false from fun t q=>by
  rw[d]at q;refine⟨?_,Ap (show w.drew.heap[g]? =_ from J.out) _⟩
  show(w.cell? ⟨g,0+i*4+t,none⟩).isSome=true
  rw[Aa J.out,Array.getElem?_eq_getElem (by omega)]
  rfl)
 obtain⟨m,hm⟩:=ex (i+(n-j));have a7:m<n:=by have:=X.out;omega
 have D:m+1=n:=by have:=X.out;omega
 obtain⟨W1,r⟩:=ex (w.drew.setCells g (0+i*4) news);obtain⟨E,F,k2,k3⟩:=Ll news (0+i*4) cur w.drew J.out;rw[← r]at F;have ax:=fun ty=>Xu W1 g (m*4) (n-m) (c-m) (by omega) (fun t q=>by rw[Aa F,Array.getElem?_eq_getElem (by omega)];rfl) (fun t q=>Ap F _) ty;have a8:=Hq F;have aa:=Hq k2;have ad:=Hq k3;have G:=Hq r;have HM:=Hq hm;have H:=Hq d;have s:i+(n-j)≤c:=by omega
 have ay:(m:Int)≤(n:Int):=by omega
 have al:(m:Int)≤(c:Int):=by omega
 have an:¬ c=m:=by omega
 clear a o hm D r F k2 k3 d a7;go_upto_region 5 with fail;refine Gs (S:=(fun _=>True)) (fun h=>?_) (by trivial);refine Aw 0 ?_;refine Aw 1 ?_;refine Aw 2 ?_;refine Aw 3 ?_;refine Aw 4 ?_;refine Aw 5 ?_;refine Cz 6 fun K hK=>?_
 try rw[a1]
 refine step_append_room rfl (.tmp 22) (.tmp 25) 34 rfl 107 i0 4 eA N O g 0 i c rfl M (n-j) (c-j) news rfl H.out C.out Z.out s a6.out ?_;rw[← G.out,← HM.out];refine Ct hK (fun h=>?_) (by trivial);clear hK K;refine Aw 7 ?_
 try simp only[Act.put,List.setIfInBounds_toArray,List.set_cons_zero]
 refine wpAnyH_done Kr ?_ _;clear h;go_wp2_with fail;go_ret;obtain⟨I,q1,q2,q3⟩:=Ll (vR (n-m)) (m*4) E W1 a8.out;have az:=W.out;have ae:=X.out;have b0:=HM.out;have af:=aa.out;refine⟨_,rfl,?_,?_⟩
 ·have hlen:(l.take i++l.drop (i+1)).length=m:=by rw[List.length_append,List.length_take,List.length_drop];omega
  show World.ownsRow _ B 107 4 _ (l.take i++l.drop (i+1)).length ((l.take i++l.drop (i+1)).flatMap F7)
  rw[hlen];refine⟨by rw[Ce Dn,hlen],.inr ⟨g,c,I,rfl,p,q1,by omega,V,by rw[q2,af];exact T,?_⟩⟩;have e1:((l.take i).flatMap F7).length=i*4:=by rw[Ce Dn,List.length_take];omega
  have e2:l.flatMap F7=(l.take i).flatMap F7++(l.drop i).flatMap F7:=by rw[← List.flatMap_append,List.take_append_drop]
  refine List.ext_getElem? fun t=>?_;rw[List.getElem?_take]
  by_cases q:t<m*4
  ·rw[if_pos q,Array.getElem?_toList,q3,if_neg (by omega),ad.out,List.flatMap_append]
   by_cases b1:t<i*4
   ·rw[if_neg (by omega),List.getElem?_append_left (by omega)]
    have h8:=congrArg (fun L=>L[t]?) HT.out;simp only[List.getElem?_take]at h8;rw[if_pos (by omega),Array.getElem?_toList,e2,List.getElem?_append_left (by omega)]at h8;exact h8
   ·have d:=H.out
    rw[if_pos (by omega),List.getElem?_append_right (by omega),e1,Y.out,ae]
    congr 1
    omega
  ·rw[if_neg q,List.getElem?_eq_none (by rw[Ce Dn,hlen];omega)]
 ·rw[G.out]
  exact(((Below.refl B w).drew).trans (Jl p _ _ _)).trans (Jl p _ _ _)
end Go.Proofs.YtpogpkonojhakaaGreatDoor
namespace Tx
open Rc
theorem pY {l:List Bc}{r:Rec}(h:¬ Mo r):En l r=l:=by unfold En;rw[if_pos h]
theorem eB {l:List Bc}{r:Rec}(h:Mo r)(a:Cy l r.txn=none)(hk:r.kind=7):En l r=l:=by unfold En;rw[if_neg (fun b=>b h),a];simp only;rw[if_pos hk]
theorem lB {l:List Bc}{r:Rec}(h:Mo r)(a:Cy l r.txn=none)(hk:¬ r.kind=7):En l r=(l++[(⟨r.txn,0,0,false⟩:Bc)]).set l.length (O7 r ⟨r.txn,0,0,false⟩):=by
 unfold En;rw[if_neg (fun b=>b h),a];simp only;rw[if_neg hk,List.set_append_right _ _ (Nat.le_refl _),Nat.sub_self];rfl
theorem lC {l:List Bc}{r:Rec}{i:Nat}(h:Mo r)(a:Cy l r.txn=some i)(hk:r.kind=7):En l r=l.take i++l.drop (i+1):=by unfold En;rw[if_neg (fun b=>b h),a];simp only;rw[if_pos hk]
theorem lD {l:List Bc}{r:Rec}{i:Nat}(h:Mo r)(a:Cy l r.txn=some i)(hk:¬ r.kind=7)(hi:i<l.length):En l r=l.set i (O7 r l[i]):=by
 unfold En;rw[if_neg (fun b=>b h),a];simp only;rw[if_neg hk,List.getElem?_eq_getElem hi,Option.getD_some,List.set_eq_take_append_cons_drop,if_pos hi]
end Tx
namespace Go.Proofs.YtpogpkonojhakaaGreatDoor
open Go.RowKit
theorem Ff {w:World}{B g N c:Nat}{M:List Rc.Bc}(h:w.ownsRow B 107 4 (.slice (some ⟨g,0,none⟩) N c) N (M.flatMap F7))(j:M.length=N)(k:Nat)(hk:k<M.length)(f:Nat)(a:f<4)(x:Value)(y:Rc.Bc)(b:F7 y=(F7 M[k]).set f x):
 w.cell? ⟨g,k*4+f,none⟩=(F7 M[k])[f]?∧w.frozen? ⟨g,k*4+f,none⟩=false∧(w.setCell ⟨g,k*4+f,none⟩ x).ownsRow B 107 4 (.slice (some ⟨g,0,none⟩) N c) N ((M.set k y).flatMap F7):=by
 obtain⟨d,e,i⟩:=pX h (k*4+f) (by omega);refine⟨by rw[d,Jr Dn M k f hk a],e,?_⟩;rw[← Tc Dn M k f y x hk a b];exact i x
theorem J4 {w:World}{B size n:Nat}{e:TypeId}{v:Value}{xs:List Value}(h:w.ownsRow B e size v n xs)(d:0<n):∃ g c,v= .slice (some ⟨g,0,none⟩) n c∧B≤g:=by
 rcases h.2 with⟨_,f⟩|⟨g,cap,cur,a,b,_⟩
 ·omega
 ·exact⟨g,cap,a,b⟩
def Nb (l:List Rc.Bc)(A:Option Addr)(w:World)(e:Ending)(w':World):Prop:=
 ∃ A' c',e= .returned (.slice A' l.length c')∧Ym w' A' c' l∧(A'=A∨De w.heap.size w' 107 A')∧Bw w w'
theorem pZ {l:List Rc.Bc}{A:Option Addr}{w w':World}{g N c B:Nat}(h:w'.ownsRow B 107 4 (.slice (some ⟨g,0,none⟩) N c) N (l.flatMap F7))(a:l.length=N)(b:w.heap.size≤B)(d:Bw w w'):Nb l A w (.returned (.slice (some ⟨g,0,none⟩) N c)) w':=by
 subst a;exact⟨_,_,rfl,C5 h,.inr ((De.own h).mono b),d⟩
theorem lE (l:List Rc.Bc)(hl:l.length≤900000)(A:Option Addr)(c:Nat)(r:Rc.Rec)(AT AD:Option Addr)(n1 c1 m1 d1:Nat)(w:World)(hr:Ym w A c l):
 Cq 202 #[.slice A l.length c,D8 r (.slice AT n1 c1) (.slice AD m1 d1)] w (Nb (Tx.En l r) A w):=by
 have HR:=Hq hr;have o:=Hq (fun w' (h:Tx.En l r=l) (hb:Bw w w')=>show Nb (Tx.En l r) A w (.returned (.slice A l.length c)) w' from by rw[h];exact⟨A,c,rfl,hr.below hb,.inl rfl,hb⟩);have K:=Hq (fun(M:List Rc.Bc) (g N c B:Nat) w' (h:Tx.En l r=M) (ho:w'.ownsRow B 107 4 (.slice (some ⟨g,0,none⟩) N c) N (M.flatMap F7)) (hN:M.length=N) (hB:w.heap.size≤B) (hb:Bw w w')=>show Nb (Tx.En l r) A w (.returned (.slice (some ⟨g,0,none⟩) N c)) w' from by rw[h];exact pZ ho hN hB hb);have Y:=Hq (fun(M:List Rc.Bc) (v:Value) (B:Nat) w' (h:Tx.En l r=M) (ho:D7 F7 4 107 B w' v M) (hB:w.heap.size≤B) (hb:Bw w w')=>show Nb (Tx.En l r) A w (.returned v) w' from by
  rw[h];obtain⟨A2,c2,rfl⟩:=Ej ho;exact⟨_,_,rfl,C5 ho,.inr ((De.own ho).mono hB),hb⟩)
 have N0:=Hq (@Tx.pY l r);have N1:=Hq (@Tx.eB l r);have N2:=Hq (@Tx.lB l r);have N3:=Hq (fun i=> @Tx.lC l r i);have N4:=Hq (fun i=> @Tx.lD l r i);have ae:=Hq (fun n W (hb:Bw w W)=>Tq l n (by omega) A c W (hr.below hb));have a1:=Hq (fun W (hb:Bw w W)=>Tr l (by omega) A c W (hr.below hb));generalize Tx.En l r=R at*;generalize Nb R A w=Q at o K Y ⊢;clear hr;obtain⟨a,prev,u,kind,Ae,next,nu,⟨ok,os,oo,on⟩,S,root,⟨ek,ep,es⟩,ts,ds⟩:=r;dsimp only[D8,Dz];obtain⟨W0,x⟩:=ex (w.alloc (.cells (Cs a prev u kind Ae next nu ok os oo on S root ek ep es (.slice AT n1 c1) (.slice AD m1 d1)) 105));have H0:=Hq (show W0.heap[w.heap.size]? =some (.cells (Cs a prev u kind Ae next nu ok os oo on S root ek ep es (.slice AT n1 c1) (.slice AD m1 d1)) 105 (0,0))from by rw[x];exact heap_alloc_new _ _);have B0:=Hq (show Bw w W0 from by rw[x];exact Ac _ _);have ar:=Aa H0.out
 by_cases T:Tx.Mo ⟨a,prev,u,kind,Ae,next,nu,⟨ok,os,oo,on⟩,S,root,⟨ek,ep,es⟩,ts,ds⟩
 rotate_left
 ·have HS:=Hq (N0.out T)
  unfold Tx.Mo at T;simp only at T;clear N0 N1 N2 N3 N4 ae a1 K Y HR
  by_cases h1:u<1
  ·go_enter Tryz.func202,Tryz.ntmps202
   go_upto_region 1 with fail;rw[← x];clear x;go_wp2_with fail;exact o.out _ HS.out B0.out
  by_cases h2:kind<1
  ·go_enter Tryz.func202,Tryz.ntmps202
   go_upto_region 1 with fail;rw[← x];clear x;go_wp2_with fail;exact o.out _ HS.out B0.out
  by_cases h3:kind=8
  ·have b0:(kind==8)=true:=by simpa using h3
   clear T h3;go_enter Tryz.func202,Tryz.ntmps202;go_upto_region 1 with fail;rw[← x];clear x;go_wp2_with fail;exact o.out _ HS.out B0.out
  ·have b0:(kind==8)=false:=by simpa using h3
   have h4:9≤kind:=(by omega);clear T h3;go_enter Tryz.func202,Tryz.ntmps202;go_upto_region 1 with fail;rw[← x];clear x;go_wp2_with fail;exact o.out _ HS.out B0.out
 have af:=Hq T;unfold Tx.Mo at T;simp only at T;have h1:¬ u<1:=by omega
 have h2:¬ kind<1:=by omega
 have h3:(kind==8)=false:=by simp;omega
 have h4:¬ 9≤kind:=by omega
 have au:=Hq (show 1≤kind∧kind≤7 from T.2);have C:=ae.out u W0 B0.out;unfold F5 at C;clear N0 T
 cases hp:Tx.Cy l u with
 |none=>
  rw[hp]at C;simp only[Tx.Oi]at C
  by_cases I:kind=7
  ·have HS:=Hq (N1.out af.out hp I)
   have ag:(kind==7)=true:=(by simpa using I);clear N1 N2 N3 N4 ae a1 K Y HR hp I;go_enter Tryz.func202,Tryz.ntmps202;go_upto_region 1 with fail;rw[← x];clear x
   go_upto_region 4 with(go_at_call 159;(with_reducible refine C.mono ?_);rintro e w1 ⟨rfl,q⟩;have a6:=Aa (Ag H0.out q))
   have H1:=Hq (Ag H0.out q);have B1:=Hq (Af B0.out q);clear q a6 ar;have ah:=Aa H1.out;go_wp2_with fail;exact o.out _ HS.out B1.out
  ·have D:=Hq (N2.out af.out hp I)
   have ag:(kind==7)=false:=(by simpa using I);clear N1 N2 N3 N4 ae Y HR hp o;go_enter Tryz.func202,Tryz.ntmps202;go_upto_region 1 with fail;rw[← x];clear x
   go_upto_region 4 with(go_at_call 159;(with_reducible refine C.mono ?_);rintro e w1 ⟨rfl,q⟩;have a6:=Aa (Ag H0.out q))
   have H1:=Hq (Ag H0.out q);have B1:=Hq (Af B0.out q);clear q a6 ar;have ah:=Aa H1.out;have O:=a1.out w1 B1.out;clear a1;have b1:(l.length:Int)<((l.length+1:Nat):Int):=by omega
   go_upto_region 12 with(first
    |(go_at_call 132;(with_reducible refine O.mono ?_);rintro e w2 ⟨v2,rfl,U,V⟩;obtain⟨A2,c2,rfl⟩:=Ej U;have H2:=Hq (Ag H1.out V);have b2:=Aa H2.out;have b3:=V.size)
    |(at_builtin;refine Jt Kr (.tmp 48) (.tmp 52) 34 107 eA Xt rfl (by omega) (by omega) rfl w1.heap.size _ l.length (l.flatMap F7) rfl (Bn U (Ac w2 _)) w2.heap.size (F7 ⟨u,0,0,false⟩) 107 rfl (heap_alloc_new w2 _) rfl (gP _) (by omega) (by simp;omega) ?_;intro v3 w3 a7 b4 ai))
   have aj:w.heap.size+1≤w1.heap.size:=(by have:=Bt H1.out;omega);have HX:=Hq (show w3.heap[w.heap.size]? =some (.cells (Cs a prev u kind Ae next nu ok os oo on S root ek ep es (.slice AT n1 c1) (.slice AD m1 d1)) 105 (0,0))from(ai.block _ (by omega)).trans (Ag H2.out (Ac w2 _)));have HB:=Hq (show Bw w w3 from((B1.out.trans (V.mono (by omega))).trans ((Ac w2 _).mono (by omega))).trans (ai.mono (by omega)));obtain⟨g,cap,rfl,ak⟩:=J4 a7 (by omega);have ax:w.heap.size+1≤g:=(by omega);obtain⟨L,hL⟩:∃ L:List Rc.Bc,L=l++[⟨u,0,0,false⟩]:=⟨_,rfl⟩;have ay:l.flatMap F7++F7 ⟨u,0,0,false⟩=L.flatMap F7:=(by rw[hL,List.flatMap_append];simp);rw[ay]at a7;obtain⟨N,hN⟩:=ex (l.length+1);rw[← hN]at a7;rw[← hN];obtain⟨k,hk⟩:=ex l.length;rw[← hk];have HO:=Hq (Oo a7 aj);have Z:=Hq (show L.length=N from by rw[hL,hN,List.length_append,List.length_singleton]);have al:k<L.length:=(by rw[hL,hk,List.length_append,List.length_singleton];omega);have P:=Hq (show R=L.set k (Tx.O7 ⟨a,prev,u,kind,Ae,next,nu,⟨ok,os,oo,on⟩,S,root,⟨ek,ep,es⟩,ts,ds⟩ L[k])from by
    have e:L[k]=⟨u,0,0,false⟩:=(by subst hL hk;simp);rw[e,hL,hk];exact D.out)
   clear D;have D:=P;clear P hL ay hN hk a7 b4 ai U V b2 b3 ah H2 H1 B1 aj b1 ak B0 H0 O C;obtain⟨W,a8⟩:=ex w3;rw[← a8]at HX HB HO;rw[← a8];clear a8;obtain⟨t,ht⟩:=ex (L[k]);obtain⟨z,tl,X,E⟩:=t;obtain⟨s1,s2,s3⟩:=Ff HO.out Z.out k al 1 (by omega) (.int .i64 a) ⟨z,a,X,E⟩ (by rw[← ht];rfl);rw[← ht]at s1;simp only[F7]at s1;have HT:=Hq ht;have F:=Hq s3;have av:=Aa HX.out;have an:w.heap.size≠g:=(by omega);have ao:=Z.out;rw[ao]at al;have b5:(k:Int)<(N:Int):=(by omega);have b6:(0:Int)≤(k:Int):=(by omega);clear ht s3 ao;go_upto_region 14 with fail;have aq:=Hq (show(W.setCell ⟨g,k*4+1,none⟩ (.int .i64 a)).heap[w.heap.size]? =some (.cells (Cs a prev u kind Ae next nu ok os oo on S root ek ep es (.slice AT n1 c1) (.slice AD m1 d1)) 105 (0,0))from(Below.heap_setCell _ _ _ _ an).trans HX.out);have G:=Hq (HB.out.trans ((Below.refl w.heap.size W).setCell (p:=⟨g,k*4+1,none⟩) (by show w.heap.size≤g;omega) (.int .i64 a)));obtain⟨W2,aa⟩:=ex (W.setCell ⟨g,k*4+1,none⟩ (.int .i64 a));rw[← aa]at aq G F;rw[← aa];clear aa HX HB HO av s1 s2;have az:=Aa aq.out;have j:=Hq (show(L.set k ⟨z,a,X,E⟩).length=N from by rw[List.length_set];exact Z.out);have J:=Hq (show k<(L.set k ⟨z,a,X,E⟩).length from by have:=j.out;omega);have b:∀ y,(L.set k ⟨z,a,X,E⟩).set k y=L.set k y:=fun y=>List.set_set ..;have f:=Hq (show(L.set k ⟨z,a,X,E⟩)[k]'J.out=⟨z,a,X,E⟩from by simp);have m:=Hq (fun y w' (hy:y=Tx.O7 ⟨a,prev,u,kind,Ae,next,nu,⟨ok,os,oo,on⟩,S,root,⟨ek,ep,es⟩,ts,ds⟩ ⟨z,tl,X,E⟩) (ho:w'.ownsRow (w.heap.size+1) 107 4 (.slice (some ⟨g,0,none⟩) N cap) N ((L.set k y).flatMap F7)) (hb:Bw w w')=>K.out (L.set k y) g N cap (w.heap.size+1) w' (by rw[hy,HT.out];exact D.out) ho (by rw[List.length_set];exact Z.out) (by omega) hb);clear D K HT;have aw:kind=1∨kind=2∨kind=3∨kind=4∨kind=5∨kind=6:=(by have:=au.out;omega);clear au h2 h3 h4 I af;rcases aw with rfl|rfl|rfl|rfl|rfl|rfl
   ·obtain⟨H,u2,s⟩:=Ff F.out j.out k J.out 2 (by omega) (.int .i64 a) ⟨z,a,a,E⟩ (by rw[f.out];rfl)
    rw[f.out]at H;simp only[F7]at H;rw[b]at s;have d:=Hq (m.out ⟨z,a,a,E⟩ _ rfl s (G.out.trans ((Below.refl w.heap.size W2).setCell (p:=⟨g,k*4+2,none⟩) (by show w.heap.size≤g;omega) (.int .i64 a))));clear s b;go_wp2_with fail;exact d.out
   ·obtain⟨H,u2,s⟩:=Ff F.out j.out k J.out 2 (by omega) (.int .i64 a) ⟨z,a,a,E⟩ (by rw[f.out];rfl)
    rw[f.out]at H;simp only[F7]at H;rw[b]at s;have d:=Hq (m.out ⟨z,a,a,E⟩ _ rfl s (G.out.trans ((Below.refl w.heap.size W2).setCell (p:=⟨g,k*4+2,none⟩) (by show w.heap.size≤g;omega) (.int .i64 a))));clear s b;go_wp2_with fail;exact d.out
   ·obtain⟨H,u2,s⟩:=Ff F.out j.out k J.out 2 (by omega) (.int .i64 next) ⟨z,a,next,E⟩ (by rw[f.out];rfl)
    rw[f.out]at H;simp only[F7]at H;rw[b]at s;have d:=Hq (m.out ⟨z,a,next,E⟩ _ rfl s (G.out.trans ((Below.refl w.heap.size W2).setCell (p:=⟨g,k*4+2,none⟩) (by show w.heap.size≤g;omega) (.int .i64 next))));clear s b;go_wp2_with fail;exact d.out
   ·obtain⟨H,u2,s⟩:=Ff F.out j.out k J.out 2 (by omega) (.int .i64 next) ⟨z,a,next,E⟩ (by rw[f.out];rfl)
    rw[f.out]at H;simp only[F7]at H;rw[b]at s;have d:=Hq (m.out ⟨z,a,next,E⟩ _ rfl s (G.out.trans ((Below.refl w.heap.size W2).setCell (p:=⟨g,k*4+2,none⟩) (by show w.heap.size≤g;omega) (.int .i64 next))));clear s b;go_wp2_with fail;exact d.out
   ·obtain⟨H,u2,s⟩:=Ff F.out j.out k J.out 3 (by omega) (.bool true) ⟨z,a,X,true⟩ (by rw[f.out];rfl)
    rw[f.out]at H;simp only[F7]at H;rw[b]at s;have d:=Hq (m.out ⟨z,a,X,true⟩ _ rfl s (G.out.trans ((Below.refl w.heap.size W2).setCell (p:=⟨g,k*4+3,none⟩) (by show w.heap.size≤g;omega) (.bool true))));clear s b;go_wp2_with fail;exact d.out
   ·have d:=Hq (m.out ⟨z,a,X,E⟩ _ rfl F.out G.out)
    clear b;go_wp2_with fail;exact d.out
 |some i=>
  rw[hp]at C;simp only[Tx.Oi]at C;obtain⟨hi,-⟩:=Tx.F4 hp;have b7:¬ (i:Int)<0:=by omega
  by_cases I:kind=7
  ·have HS:=Hq (N3.out i af.out hp I)
   have ag:(kind==7)=true:=(by simpa using I);clear N1 N2 N3 N4 ae K HR hp I o;go_enter Tryz.func202,Tryz.ntmps202;go_upto_region 1 with fail;rw[← x];clear x
   go_upto_region 4 with(go_at_call 159;(with_reducible refine C.mono ?_);rintro e w1 ⟨rfl,q⟩;have a6:=Aa (Ag H0.out q))
   have H1:=Hq (Ag H0.out q);have B1:=Hq (Af B0.out q);clear q a6 ar;have ah:=Aa H1.out;have O:=a1.out w1 B1.out;clear a1;have b8:IntKind.i64.wrap ((i:Int)+1)=(i:Int)+1:=IntWalk.i64_in _ (by omega)
   go_wp2_with(first
    |(go_at_call 132;(with_reducible refine O.mono ?_);rintro e w2 ⟨v2,rfl,U,V⟩;obtain⟨g,cap,rfl,ax⟩:=J4 U (by omega);have HD:=Hq (aT l (by omega) i hi w1.heap.size g cap w2 U))
    |(go_at_call 247;(with_reducible refine HD.out.mono ?_);rintro e w3 ⟨v3,rfl,a7,ai⟩))
   exact Y.out _ _ _ _ HS.out a7 B1.out.size ((B1.out.trans (V.mono B1.out.size)).trans (ai.mono B1.out.size))
  ·have D:=Hq (N4.out i af.out hp I hi)
   have ag:(kind==7)=false:=(by simpa using I);clear N1 N2 N3 N4 ae Y HR hp o;go_enter Tryz.func202,Tryz.ntmps202;go_upto_region 1 with fail;rw[← x];clear x
   go_upto_region 4 with(go_at_call 159;(with_reducible refine C.mono ?_);rintro e w1 ⟨rfl,q⟩;have a6:=Aa (Ag H0.out q))
   have H1:=Hq (Ag H0.out q);have B1:=Hq (Af B0.out q);clear q a6 ar;have ah:=Aa H1.out;have O:=a1.out w1 B1.out;clear a1
   go_upto_region 12 with(go_at_call 132;(with_reducible refine O.mono ?_);rintro e w2 ⟨v2,rfl,U,V⟩)
   have aj:w.heap.size+1≤w1.heap.size:=(by have:=Bt H1.out;omega);have HX:=Hq (Ag H1.out V);have HB:=Hq (show Bw w w2 from B1.out.trans (V.mono (by omega)));obtain⟨g,cap,rfl,ak⟩:=J4 U (by omega);have ax:w.heap.size+1≤g:=(by omega);have ad:=Oo U aj;obtain⟨L,hL⟩:∃ L:List Rc.Bc,L=l:=⟨_,rfl⟩;obtain⟨N,hN⟩:=ex l.length;obtain⟨k,hk⟩:=ex i;rw[← hN]at ad;rw[← hN];rw[← hL]at ad;rw[← hk];have HO:=Hq ad;have Z:=Hq (show L.length=N from by rw[hL,hN]);have al:k<L.length:=(by rw[hL,hk];exact hi);have P:=Hq (show R=L.set k (Tx.O7 ⟨a,prev,u,kind,Ae,next,nu,⟨ok,os,oo,on⟩,S,root,⟨ek,ep,es⟩,ts,ds⟩ L[k])from by
    subst hL hk;exact D.out)
   clear D;have D:=P;clear P hL hN hk U ad V ah H1 B1 aj ak B0 H0 O C hi b7;obtain⟨W,a8⟩:=ex w2;rw[← a8]at HX HB HO;rw[← a8];clear a8;obtain⟨t,ht⟩:=ex (L[k]);obtain⟨z,tl,X,E⟩:=t;obtain⟨s1,s2,s3⟩:=Ff HO.out Z.out k al 1 (by omega) (.int .i64 a) ⟨z,a,X,E⟩ (by rw[← ht];rfl);rw[← ht]at s1;simp only[F7]at s1;have HT:=Hq ht;have F:=Hq s3;have av:=Aa HX.out;have an:w.heap.size≠g:=(by omega);have ao:=Z.out;rw[ao]at al;have b5:(k:Int)<(N:Int):=(by omega);have b6:(0:Int)≤(k:Int):=(by omega);clear ht s3 ao;go_upto_region 14 with fail;have aq:=Hq (show(W.setCell ⟨g,k*4+1,none⟩ (.int .i64 a)).heap[w.heap.size]? =some (.cells (Cs a prev u kind Ae next nu ok os oo on S root ek ep es (.slice AT n1 c1) (.slice AD m1 d1)) 105 (0,0))from(Below.heap_setCell _ _ _ _ an).trans HX.out);have G:=Hq (HB.out.trans ((Below.refl w.heap.size W).setCell (p:=⟨g,k*4+1,none⟩) (by show w.heap.size≤g;omega) (.int .i64 a)));obtain⟨W2,aa⟩:=ex (W.setCell ⟨g,k*4+1,none⟩ (.int .i64 a));rw[← aa]at aq G F;rw[← aa];clear aa HX HB HO av s1 s2;have az:=Aa aq.out;have j:=Hq (show(L.set k ⟨z,a,X,E⟩).length=N from by rw[List.length_set];exact Z.out);have J:=Hq (show k<(L.set k ⟨z,a,X,E⟩).length from by have:=j.out;omega);have b:∀ y,(L.set k ⟨z,a,X,E⟩).set k y=L.set k y:=fun y=>List.set_set ..;have f:=Hq (show(L.set k ⟨z,a,X,E⟩)[k]'J.out=⟨z,a,X,E⟩from by simp);have m:=Hq (fun y w' (hy:y=Tx.O7 ⟨a,prev,u,kind,Ae,next,nu,⟨ok,os,oo,on⟩,S,root,⟨ek,ep,es⟩,ts,ds⟩ ⟨z,tl,X,E⟩) (ho:w'.ownsRow (w.heap.size+1) 107 4 (.slice (some ⟨g,0,none⟩) N cap) N ((L.set k y).flatMap F7)) (hb:Bw w w')=>K.out (L.set k y) g N cap (w.heap.size+1) w' (by rw[hy,HT.out];exact D.out) ho (by rw[List.length_set];exact Z.out) (by omega) hb);clear D K HT;have aw:kind=1∨kind=2∨kind=3∨kind=4∨kind=5∨kind=6:=(by have:=au.out;omega);clear au h2 h3 h4 I af;rcases aw with rfl|rfl|rfl|rfl|rfl|rfl
   ·obtain⟨H,u2,s⟩:=Ff F.out j.out k J.out 2 (by omega) (.int .i64 a) ⟨z,a,a,E⟩ (by rw[f.out];rfl)
    rw[f.out]at H;simp only[F7]at H;rw[b]at s;have d:=Hq (m.out ⟨z,a,a,E⟩ _ rfl s (G.out.trans ((Below.refl w.heap.size W2).setCell (p:=⟨g,k*4+2,none⟩) (by show w.heap.size≤g;omega) (.int .i64 a))));clear s b;go_wp2_with fail;exact d.out
   ·obtain⟨H,u2,s⟩:=Ff F.out j.out k J.out 2 (by omega) (.int .i64 a) ⟨z,a,a,E⟩ (by rw[f.out];rfl)
    rw[f.out]at H;simp only[F7]at H;rw[b]at s;have d:=Hq (m.out ⟨z,a,a,E⟩ _ rfl s (G.out.trans ((Below.refl w.heap.size W2).setCell (p:=⟨g,k*4+2,none⟩) (by show w.heap.size≤g;omega) (.int .i64 a))));clear s b;go_wp2_with fail;exact d.out
   ·obtain⟨H,u2,s⟩:=Ff F.out j.out k J.out 2 (by omega) (.int .i64 next) ⟨z,a,next,E⟩ (by rw[f.out];rfl)
    rw[f.out]at H;simp only[F7]at H;rw[b]at s;have d:=Hq (m.out ⟨z,a,next,E⟩ _ rfl s (G.out.trans ((Below.refl w.heap.size W2).setCell (p:=⟨g,k*4+2,none⟩) (by show w.heap.size≤g;omega) (.int .i64 next))));clear s b;go_wp2_with fail;exact d.out
   ·obtain⟨H,u2,s⟩:=Ff F.out j.out k J.out 2 (by omega) (.int .i64 next) ⟨z,a,next,E⟩ (by rw[f.out];rfl)
    rw[f.out]at H;simp only[F7]at H;rw[b]at s;have d:=Hq (m.out ⟨z,a,next,E⟩ _ rfl s (G.out.trans ((Below.refl w.heap.size W2).setCell (p:=⟨g,k*4+2,none⟩) (by show w.heap.size≤g;omega) (.int .i64 next))));clear s b;go_wp2_with fail;exact d.out
   ·obtain⟨H,u2,s⟩:=Ff F.out j.out k J.out 3 (by omega) (.bool true) ⟨z,a,X,true⟩ (by rw[f.out];rfl)
    rw[f.out]at H;simp only[F7]at H;rw[b]at s;have d:=Hq (m.out ⟨z,a,X,true⟩ _ rfl s (G.out.trans ((Below.refl w.heap.size W2).setCell (p:=⟨g,k*4+3,none⟩) (by show w.heap.size≤g;omega) (.bool true))));clear s b;go_wp2_with fail;exact d.out
   ·have d:=Hq (m.out ⟨z,a,X,E⟩ _ rfl F.out G.out)
    clear b;go_wp2_with fail;exact d.out
end Go.Proofs.YtpogpkonojhakaaGreatDoor
namespace Tx
end Tx
