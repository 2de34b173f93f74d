import Derived.Test.YtdfkambdagoojaaGreatDoorHd00
import Derived.Test.YtdfkambdagoojaaGreatDoorHd07
import Derived.Test.YtdfkambdagoojaaGreatDoorHd17
import Derived.Test.YtdfkambdagoojaaGreatDoorHd08
import Derived.Test.YtdfkambdagoojaaGreatDoorHd18
set_option maxRecDepth 100000
set_option maxHeartbeats 16000000
set_option linter.unusedSimpArgs false
namespace Lg
open Rc
theorem Zt {s:List UInt8}{l:List Rec}(h:s.take (bytes l).length=bytes l){i:Nat}(hi:i<(bytes l).length):s[i]? =(bytes l)[i]? :=by
 have a:=congrArg (fun x:List UInt8=>x[i]?) h
 simpa[List.getElem?_take,if_pos hi]using a
theorem xP {s:List UInt8}{l:List Rec}(h:∀ i,i<(bytes l).length→s[i]? =(bytes l)[i]?):s.take (bytes l).length=bytes l:=by
 refine List.ext_getElem? fun i=>?_;rw[List.getElem?_take]
 split
 ·rename_i a;exact h i a
 ·rw[List.getElem?_eq_none (by omega)]
theorem zY {s:List UInt8}{r:Rec}(h:Bz r){a:Nat}(k:256≤(Bl r).length)(n:∀ j,j<3→s[a+j]? =some 0)(m:∀ j,3≤j→j<(Co r).length→s[a+j]? =(Co r)[j]?):¬ Is s a:=by
 intro o;have p:=I1 h;have q:=Fp r;have t:(s.drop a).take (Co r).length=[0,0,0]++(Co r).drop 3:=by
  refine List.ext_getElem? fun i=>?_;rw[List.getElem?_take]
  split
  ·rename_i c
   rw[List.getElem?_drop]
   by_cases u:i<3
   ·rw[n i u]
    obtain rfl|rfl|rfl:i=0∨i=1∨i=2:=by omega
    ·rfl
    ·rfl
    ·rfl
   ·rw[m i (by omega) c,List.getElem?_append_right (by simp;omega),List.getElem?_drop]
    congr 1;simp;omega
  ·rename_i c
   rw[List.getElem?_eq_none]
   simp;omega
 have b:(Co r)[3]? =some (UInt8.ofNat ((Bl r).length%256)):=by
  unfold Co;rw[List.getElem?_append_left (by rw[Oct.A0];omega),Oct.T6 _ _ _ (by omega)]
  simp
 have v:Oct.Bq s a 4=(Bl r).length%256:=by
  have w:(s.drop a).take 4=[0,0,0,UInt8.ofNat ((Bl r).length%256)]:=by
   have y:(s.drop a).take 4=((s.drop a).take (Co r).length).take 4:=(by rw[List.take_take,Nat.min_eq_left (by omega)]);rw[y,t];refine List.ext_getElem? fun i=>?_;rw[List.getElem?_take]
   by_cases c:i<4
   ·rw[if_pos c]
    obtain rfl|rfl|rfl|rfl:i=0∨i=1∨i=2∨i=3:=by omega
    ·rfl
    ·rfl
    ·rfl
    ·rw[List.getElem?_append_right (by simp),List.getElem?_drop]
     simpa using b
   ·rw[if_neg c,List.getElem?_eq_none (by simp;omega)]
  unfold Oct.Bq;rw[w]
  simp[Oct.K7]
 obtain⟨i1,i2,i3,i4⟩:=o;have d:Bk s a=(Bl r).take ((Bl r).length%256):=by
  unfold Bk;rw[v];refine List.ext_getElem? fun i=>?_;rw[List.getElem?_take,List.getElem?_take]
  split
  ·rename_i c
   have e:=Nat.mod_lt (Bl r).length (show 0<256 by decide);rw[List.getElem?_drop,show a+8+i=a+(8+i) by omega,m (8+i) (by omega) (by omega)];unfold Co;rw[← List.append_assoc,List.getElem?_append_right (by rw[List.length_append,Oct.A0,Oct.A0];omega),List.length_append,Oct.A0,Oct.A0]
   congr 1;omega
  ·rfl
 rw[d]at i3 i4;have f:=bA (l:=(Bl r).drop ((Bl r).length%256)) h i3 (by rw[i4,List.take_append_drop]);have g:=congrArg (fun x=>(Bl x).length) f;simp only[i4,List.length_take]at g;have e:=Nat.mod_lt (Bl r).length (show 0<256 by decide);omega
structure N1 (s:List UInt8) (r1 l R:List Rec):Prop where
 row:Row 0 R
 pre:s.take (bytes l).length=bytes l
 room:(bytes l).length≤s.length
 safe:∃ m,l=r1++m
 part:∃ t,R=l++t
 halt:bY s (bytes l).length 4∨∃ r t,R=l++r::t∧256≤(Bl r).length∧(bytes l).length+(Co r).length≤s.length∧bY s (bytes l).length 3∧∀ i,3≤i→i<(Co r).length→s[(bytes l).length+i]? =(Co r)[i]?
theorem N1.not {s:List UInt8}{a l R:List Rec}(h:N1 s a l R):¬ Is s (bytes l).length:=by
 rcases h.halt with b|⟨r,t,e,c,k,d,f⟩
 ·exact uW (mB b)
 ·have g:Bz r:=by
   have:=h.row;rw[e,Ko]at this;exact this.2.1
  have i:=Fp r;exact zY g c (fun j m=>d _ (by omega) (by omega) (by omega)) f
theorem N1.opens {s:List UInt8}{b l R:List Rec}(h:N1 s b l R){f:Nat}(c:l.length<f):Dx s f 0=(l,(bytes l).length):=by
 obtain⟨t,e⟩:=h.part;have a:=h.row;rw[e,Ko]at a;exact open_row a.1 h.pre h.not c
theorem N1.of {s:List UInt8}{R:List Rec}(h:Yt s R){a:List Rec}(b:∃ m,R=a++m):N1 s a R R:=
 ⟨h.row,h.pre,h.room,b,⟨[],by simp⟩,.inl fun i c e d=>h.zero i c (by omega) d⟩
theorem N1.more {s:List UInt8}{b l R a:List Rec}(h:N1 s b l R)(c:Row 0 a)(d:∃ m,a=R++m):N1 s b l a:=by
 obtain⟨m,rfl⟩:=d;obtain⟨t,e⟩:=h.part;refine⟨c,h.pre,h.room,h.safe,⟨t++m,by rw[e,List.append_assoc]⟩,h.halt.imp id ?_⟩;rintro⟨r,t,e,f⟩;exact⟨r,t++m,by rw[e,List.append_assoc];rfl,f⟩
theorem Zu (l t:List Rec)(r:Rec){n:List UInt8}(h:n.take (bytes (l++r::t)).length=bytes (l++r::t)){i:Nat}(hi:i<(Co r).length):n[(bytes l).length+i]? =(Co r)[i]? :=by
 have e:bytes (l++r::t)=bytes l++(Co r++bytes t):=by rw[Ff,F0]
 have a:(bytes (l++r::t)).length=(bytes l).length+((Co r).length+(bytes t).length):=by rw[e,List.length_append,List.length_append]
 rw[Zt h (by omega),e,List.getElem?_append_right (by omega),List.getElem?_append_left (by omega)]
 congr 1;omega
theorem N1.mix {s n:List UInt8}{B l R:List Rec}(h:N1 s B l R)(hlen:s.length=n.length)(m:Yt n R)(q:Nat):∃ l',N1 (mix s n q) B l' R:=by
 obtain⟨t0,b⟩:=h.part;obtain⟨m0,em⟩:=h.safe;obtain⟨a,C⟩:=ex ((bytes l).length);have L:=m.room;have g:∀ i,i<a→n[i]? =(bytes l)[i]? :=fun i x=>by
  have M:a≤(bytes R).length:=by rw[b,Ff,List.length_append];omega
  rw[Zt m.pre (by omega),b,Ff,List.getElem?_append_left (by omega)]
 have k:∀ i,i<a→s[i]? =(bytes l)[i]? :=fun i x=>Zt h.pre (by omega);have full:Lg.mix s n q=n→∃ l',N1 (Lg.mix s n q) B l' R:=fun e=>⟨R,by rw[e];exact N1.of m ⟨m0++t0,by rw[b,em,List.append_assoc]⟩⟩
 by_cases U:q≤a
 ·exact full (Yu hlen fun i x=>(k i (by omega)).trans (g i (by omega)).symm)
 ·have o:(Lg.mix s n q).take (bytes l).length=bytes l:=xP fun i x=>by
   rw[J0 hlen]
   split
   ·exact k i (by omega)
   ·exact g i (by omega)
  have c:(bytes l).length≤(Lg.mix s n q).length:=by rw[I2 hlen,← hlen];exact h.room
  have p:bY s a 3:=by
   rw[C];rcases h.halt with D|⟨r,t,e,w,y,u,J⟩
   ·exact fun i w y u=>D i w (by omega) u
   ·exact u
  by_cases N:a+4≤q
  ·-- the length is A5
   refine⟨l,h.row,o,c,h.safe,h.part,?_⟩;rcases h.halt with D|⟨r,t,e,w,y,u,J⟩
   ·exact .inl fun i w y u=>by
     rw[I2 hlen]at u;rw[J0 hlen,if_pos (by omega)];exact D i w y (by omega)
   ·refine .inr ⟨r,t,e,w,by rw[I2 hlen,← hlen];exact y,fun i z v E=>?_,fun i z v=>?_⟩
    ·rw[I2 hlen]at E
     rw[J0 hlen,if_pos (by omega)];exact u i z v (by omega)
    ·rw[J0 hlen]
     split
     ·exact J i z v
     ·exact Zu l t r (by rw[← e];exact m.pre) v
  ·-- one,two or three bytes of it are A5
   cases t0 with
   |nil=>
    rw[List.append_nil]at b;refine full (Yu hlen fun i x=>?_)
    by_cases d:i<a
    ·exact(k i d).trans (g i d).symm
    ·by_cases F:i<s.length
     ·rw[p i (by omega) (by omega) F,m.zero i (by rw[b];omega) (by rw[b];omega) (by omega)]
     ·rw[List.getElem?_eq_none (by omega),List.getElem?_eq_none (by omega)]
   |cons r t=>
    have O:Bz r:=by
     have:=h.row;rw[b,Ko]at this;exact this.2.1
    have P:=I1 O;have Q:=Fp r;have A:a+(Co r).length≤n.length:=by
     have S:=m.room;rw[b,Ff,F0,List.length_append,List.length_append]at S;omega
    have f:∀ j,j<4→n[a+j]? =some (UInt8.ofNat ((Bl r).length/256^(4-1-j)%256)):=fun j K=>by
     rw[C,Zu l t r (by rw[← b];exact m.pre) (show j<(Co r).length by omega)];unfold Co;rw[List.getElem?_append_left (by rw[Oct.A0];exact K),Oct.T6 _ _ _ K]
    have G:n[a+0]? =some 0:=by
     rw[f 0 (by omega),Nat.div_eq_of_lt (by show(Bl r).length<16777216;omega)];rfl
    have H:n[a+1]? =some 0:=by
     rw[f 1 (by omega),Nat.div_eq_of_lt (by show(Bl r).length<65536;omega)];rfl
    by_cases T:q=a+3∧256≤(Bl r).length
    ·refine⟨l,h.row,o,c,h.safe,h.part,.inr ⟨r,t,b,T.2,by rw[I2 hlen,← C];exact A,fun i z v E=>?_,fun i z v=>?_⟩⟩
     ·rw[I2 hlen]at E
      rw[J0 hlen,if_pos (by omega)];exact p i (by omega) (by omega) (by omega)
     ·rw[J0 hlen,if_neg (by omega)]
      exact Zu l t r (by rw[← b];exact m.pre) v
    ·refine full (Yu hlen fun i x=>?_)
     by_cases d:i<a
     ·exact(k i d).trans (g i d).symm
     ·obtain⟨j,rfl⟩:∃ j,i=a+j:=⟨i-a,by omega⟩
      rw[p (a+j) (by omega) (by omega) (by omega)];obtain rfl|rfl|rfl:j=0∨j=1∨j=2:=by omega
      ·exact G.symm
      ·exact H.symm
      ·have I:n[a+2]? =some 0:=by
        rw[f 2 (by omega),Nat.div_eq_of_lt (by show(Bl r).length<256;omega)];rfl
       exact I.symm
end Lg
namespace Go.Proofs.YtdfkambdagoojaaGreatDoor
open Go.RowKit Sc
theorem tS {d:Lg.Dk}{a:Int}{b:ByteArray}(h:(Lg.Cf d a b).2=0):(Lg.Cf d a b).1.Ad=d.Ad.set a.toNat b:=by
 rcases Ck.Mz d a b with⟨e,_⟩|⟨_,e|⟨_,_,⟨_,e⟩|⟨_,e⟩⟩⟩
 ·rw[e]at h;exact absurd h (by show ¬ (20:Int)=0;decide)
 ·rw[e]at h;exact absurd h (by show ¬ (1:Int)=0;decide)
 ·rw[e]at h;exact absurd h (by show ¬ (20:Int)=0;decide)
 ·rw[e]
theorem jA {d:Lg.Dk}{a:Int}{b:ByteArray}(h: -1≤d.left): -1≤(Lg.Cf d a b).1.left:=by
 rcases Ck.Mz d a b with⟨e,_⟩|⟨_,e|⟨_,_,⟨_,e⟩|⟨_,e⟩⟩⟩<;>rw[e]
 ·exact h
 ·exact h
 ·exact h
 ·show -1≤(if 0<d.left then d.left-1 else d.left)
  split<;>omega
theorem Ty {d:Lg.Dk}{a:Nat}{b:ByteArray}(k:Nat)(h:(F5 d a b (k+1)).2=0):(F5 d a b k).2=0∧(F5 d a b (k+1)).1.Ad=(F5 d a b k).1.Ad.set (a+k) (F8 b k):=by
 by_cases c:(F5 d a b k).2=0
 ·rw[He c]at h ⊢
  refine⟨c,?_⟩;rw[tS h]
  congr 1
 ·rw[I5 c 1]at h;exact absurd h c
theorem tT {d:Lg.Dk}{a:Nat}{b:ByteArray}(h:(F5 d a b 4).2=0)(c:b.size=512)(f:a+4≤d.Ad.length):Gm (F5 d a b 4).1 a=b:=by
 obtain⟨g,i⟩:=Ty 3 h;obtain⟨k,l⟩:=Ty 2 g;obtain⟨m,n⟩:=Ty 1 k;obtain⟨_,o⟩:=Ty 0 m;have e:(F5 d a b 4).1.Ad=(gL d a b).Ad:=by
  rw[i,l,n,o];rfl
 have p:Gm (F5 d a b 4).1 a=Gm (gL d a b) a:=Oj fun j _ _=>by rw[e]
 rw[p];exact vN c f
theorem pB (d:Lg.Dk){a c:Nat}(b:ByteArray)(h:c+4≤a∨a+4≤c):Gm (F5 d a b 4).1 c=Gm d c:=Oj fun j e f=>(Zm d a b j 4).resolve_right fun⟨i,g,k,_⟩=>by omega
theorem eD {d:Lg.Dk}{a:Nat}{b:ByteArray}(h: -1≤d.left):∀ k,-1≤(F5 d a b k).1.left
 |0=>h
 |k+1=>by
  have ih:=eD (a:=a) (b:=b) h k
  by_cases h0:(F5 d a b k).2=0
  ·rw[He h0];exact jA ih
  ·rw[I5 h0 1];exact ih
theorem Vy {fs:List Fr}{k:Nat}{f:Fr}{p:Nat}(h:J4 (fs.set k f) p):(Full f∧f.Ab=(p:Int)∧f.rc≠0)∨J4 fs p:=by
 obtain⟨i,g,a,b,c⟩:=h;rcases Ku fs k f i g with⟨_,e⟩|⟨_,d,e⟩
 ·rw[e]at a b c;exact .inl ⟨a,b,c⟩
 ·rw[e]at a b c;exact .inr ⟨i,d,a,b,c⟩
theorem jB {fs a:List Fr}(b:V5 fs a){p:Nat}(h:J4 a p):J4 fs p:=by
 obtain⟨i,g,c,d,f⟩:=h;have j:=b.len;have e:=b.at_ i (by omega) g;rw[e]at c d f;exact⟨i,by omega,c,d,f⟩
structure PG (N n:Nat) (d:Lg.Dk) (fs:List Fr) (C:Nat→ByteArray) (U T:Nat→Prop):Prop where
 fr:∀ i (hi:i<fs.length),Full fs[i]→∃ p:Nat,p<n∧U p∧fs[i].Ab=(p:Int)∧fs[i].bytes=C p
 nm:∀ p,p<n→U p→gI (C p)
 dk:∀ p,p<n→U p→¬ J4 fs p→Lay N d p (C p)
 dt:∀ p,J4 fs p→T p
section
variable {N n B : Nat} {s : Tx.St} {d : Lg.Dk} {fs : List Fr} {C : Nat → ByteArray} {U T : Nat → Prop}
theorem PG.put (h:PG N n d fs C U T)(k:Nat){f:Fr}(q:Full f→∃ p:Nat,p<n∧U p∧f.Ab=(p:Int)∧f.bytes=C p)(r:∀ p,p<n→U p→J4 fs p→J4 (fs.set k f) p∨Lay N d p (C p))(s:Full f→f.rc≠0→∀ p:Nat,f.Ab=(p:Int)→T p):PG N n d (fs.set k f) C U T:=
 ⟨fun i t g=>by
   rcases Ku fs k f i t with⟨_,e⟩|⟨_,l,e⟩
   ·rw[e]at g ⊢;exact q g
   ·rw[e]at g ⊢;exact h.fr i l g,h.nm,fun p m o u=>by
   by_cases j:J4 fs p
   ·exact(r p m o j).resolve_left u
   ·exact h.dk p m o j,fun p j=>(Vy j).elim (fun⟨a,b,c⟩=>s a c p b) (h.dt p)⟩
theorem PG.same (h:PG N n d fs C U T){k:Nat}(g:k<fs.length){f:Fr}(i:f.Ab=fs[k].Ab)(j:f.bytes=fs[k].bytes)(l:f.rc=fs[k].rc):PG N n d (fs.set k f) C U T:=by
 have hF:Full f→Full fs[k]:=fun e=>by unfold Full at e ⊢;rw[← j];exact e
 exact h.put k (fun e=>by rw[i,j];exact h.fr k g (hF e)) (fun p _ _ m=>.inl (m.set g fun a b c=>⟨by unfold Full at a ⊢;rw[j];exact a,i.trans b,by rw[l];exact c⟩)) fun e o p q=>h.dt p ⟨k,g,hF e,i.symm.trans q,by rw[← l];exact o⟩
theorem PG.marks (h:PG N n d fs C U T){a:List Fr}(b:V5 fs a):PG N n d a C U T:=by
 have m:=b.len;refine⟨fun i g f=>?_,h.nm,fun p j k l=>h.dk p j k fun c=>l (c.marks b),fun p c=>h.dt p (jB b c)⟩;have e:=b.at_ i (by omega) g;rw[e]at f ⊢;exact h.fr i (by omega) f
theorem PG.Ai (h:PG N n d fs C U T){b:Lg.Dk}(g:∀ p,p<n→¬ J4 fs p→Gm b (1+N+4*p)=Gm d (1+N+4*p)):PG N n b fs C U T:=
 ⟨h.fr,h.nm,fun p c i f=>by
   have e:=g p c f;rcases h.dk p c i f with a|⟨a,j⟩
   ·exact .inl (e.trans a)
   ·exact .inr ⟨e.trans a,j⟩,h.dt⟩
theorem PG.Ad (h:PG N n d fs C U T){a:Lg.Dk}(b:a.Ad=d.Ad):PG N n a fs C U T:=h.Ai fun _ _ _=>Oj fun _ _ _=>by rw[b]
theorem PG.force (h:PG N n s.Ai fs C U T)(a:Wf N n B s fs):PG N n (Lg.A4 s.Ai s.log).1 fs C U T:=h.Ai fun _ _ _=>Oj fun j b _=>Xs a.low s.Ai j (by omega)
theorem eE {k:Nat}(d:k<fs.length)(h:(Cu s fs k).e=0):(Cz (Cu s fs k).fs k).rc=0:=by
 unfold Cu at h ⊢
 split
 ·rename_i b;exact b
 ·rename_i b
  rw[if_neg b]at h
  split
  ·rename_i a
   rw[if_pos a]at h;exact absurd h a
  ·rename_i a
   rw[if_neg a]at h
   split
   ·rename_i c
    rw[if_pos c]at h;exact absurd h c
   ·simp only
    rw[Bh (by rw[List.length_set];exact d),List.getElem_set_self]
theorem PG.flush (h:PG N n s.Ai fs C U T)(r:Wf N n B s fs){k:Nat}(j:k<fs.length):PG N n (Cu s fs k).s.Ai (Cu s fs k).fs C U T:=by
 have v:=h.force r;have w:=r.fr k j;have x:=h.fr k j;have M:=(r.dk.force s.log).len;have O:=r.zl;unfold Cu;rw[Bh j]
 split
 ·exact h
 ·rename_i l
  have a:=w.rz l;obtain⟨p,H,I,t,J⟩:=x a;have y:J4 fs p:=⟨k,j,a,t,l⟩;have P:=(Ig (h.nm p H I).is).2.2.2;have m:F9 s fs[k].Ab=1+N+4*p:=by rw[t];unfold F9;omega
  rw[m,J];have d:∀ q,q<n→q≠p→Gm (F5 (Lg.A4 s.Ai s.log).1 (1+N+4*p) (E5 (C p)) 4).1 (1+N+4*q)=Gm (Lg.A4 s.Ai s.log).1 (1+N+4*q):=fun q _ o=>pB _ _ (by omega)
  split
  ·exact v
  ·split
   ·exact v.Ai fun q o f=>d q o fun e=>f (by rw[e];exact y)
   ·rename_i z
    have A:=tT (Classical.byContradiction fun Q=>z Q) P (by omega);refine⟨fun i K u=>?_,h.nm,fun q o D f=>?_,fun q E=>(Vy E).elim (fun⟨_,_,c⟩=>absurd rfl c) (h.dt q)⟩
    ·simp only at K u ⊢
     rcases Ku fs k {fs[k]with rc:=0} i K with⟨_,e⟩|⟨_,F,e⟩
     ·rw[e]at u ⊢;exact⟨p,H,I,t,J⟩
     ·rw[e]at u ⊢;exact h.fr i F u
    ·by_cases g:q=p
     ·subst g;exact .inl A
     ·have R:¬ J4 fs q:=fun E=>f (E.set j fun _ b _=>absurd (Int.ofNat.inj (b.symm.trans t)) g)
      have L:=d q o g;rcases v.dk q o D R with G|⟨G,S⟩
      ·exact .inl (L.trans G)
      ·exact .inr ⟨L.trans G,S⟩
theorem PG.hand (h:PG N n s.Ai fs C U T)(x:Int):PG N n ({s with hand:=x}:Tx.St).Ai fs C U T:=h
theorem PG.room (h:PG N n s.Ai fs C U T)(g:Wf N n B s fs):PG N n (Bc s fs).1.s.Ai (Bc s fs).1.fs C U T∧((Bc s fs).1.e=0→Full (Cz (Bc s fs).1.fs (Bc s fs).2)→(Cz (Bc s fs).1.fs (Bc s fs).2).rc=0):=by
 have l:=g.nf;unfold Bc
 split
 ·rename_i k i
  unfold Mh at i;obtain⟨b,a,_⟩:=List.findIdx?_eq_some_iff_getElem.1 i;refine⟨h,fun _ c=>?_⟩;simp only at c;rw[Bh b]at c;exact absurd c (by simpa using a)
 ·split
  ·rename_i b a
   exact⟨h,fun d=>absurd d (by show ¬ (18:Int)=0;decide)⟩
  ·rename_i k f j
   obtain⟨b,a,_⟩:=Ii fs.length (by omega) _ _ fs fs k f rfl (Nat.mod_lt _ (by omega)) (V5.refl fs) j;have m:=a.len;have o:(k+1)%fs.length<fs.length:=Nat.mod_lt _ (by omega);exact⟨((h.hand (((k+1)%fs.length:Nat):Int)).marks a).flush ((g.hand (x:=(((k+1)%fs.length:Nat):Int)) (by omega)).marks a) (by omega),fun d _=>eE (by omega) d⟩
theorem PG.back (h:PG N n s.Ai fs C U T){x:Px}(a:PG N n x.s.Ai x.fs C U T):PG N n (Dz s fs x).s.Ai (Dz s fs x).fs C U T:=by
 unfold Dz
 split
 ·exact a
 ·exact h
theorem PG.read (h:PG N n s.Ai fs C U T)(e:Wf N n B s fs){p:Nat}(b:p<n)(c:U p)(f:¬ J4 fs p):D7 s (p:Int)=(⟨#[]⟩,20)∨D7 s (p:Int)=(C p,0):=by
 have g:=e.zl;have a:F9 s (p:Int)=1+N+4*p:=by unfold F9;omega
 unfold D7
 split
 ·exact .inl rfl
 ·rw[a]
  right
  rcases h.dk p b c f with d|⟨d,i⟩
  ·rw[d]
   have j:=Ig (h.nm p b c).is;rw[if_neg (Xe (h.nm p b c).is),if_pos j.2.2.1,kE (h.nm p b c)]
  ·rw[if_pos d,i];rfl
theorem PG.held (h:PG N n s.Ai fs C U T)(l:Wf N n B s fs)(p:Int)(w:∀ q:Nat,q<n→p=(q:Int)→U q):
 PG N n (Ao s fs p).1.s.Ai (Ao s fs p).1.fs C U T∧((Ao s fs p).1.e=0→∃ q:Nat,q<n∧p=(q:Int)∧(Cz (Ao s fs p).1.fs (Ao s fs p).2).bytes=C q):=by
 have I:=l.zp
 by_cases g:Im s p
 ·obtain⟨q,t⟩:∃ q:Nat,p=(q:Int):=⟨p.toNat,by unfold Im at g;omega⟩
  have b:q<n:=by unfold Im at g;omega
  have u:=w q b t;subst t
  cases i:Oz fs (q:Int)with
  |some k=>
   obtain⟨f,x,y⟩:=I6 i;have e:Ao s fs (q:Int)=(⟨s,fs.set k {fs[k]with mark:=true},0⟩,k):=by
    unfold Ao;rw[if_neg (fun d=>d g),i];simp only;rw[Bh f]
   rw[e];refine⟨h.same f rfl rfl rfl,fun _=>⟨q,b,rfl,?_⟩⟩;simp only;rw[Bh (by rw[List.length_set];exact f),List.getElem_set_self];obtain⟨q2,_,_,z,A⟩:=h.fr k f x;have:q=q2:=Int.ofNat.inj (y.symm.trans z);subst this;exact A
  |none=>
   have r:=Vh i;obtain⟨J,D,E⟩:=l.room;obtain⟨v,F⟩:=h.room l;have f:(Bc s fs).2<(Bc s fs).1.fs.length:=(by rw[D];exact E);rcases h.read l b u (cQ r)with m|m
   ·have e:Ao s fs (q:Int)=(⟨s,fs,20⟩,0):=by
     unfold Ao;rw[if_neg (fun d=>d g),i];simp only;rw[m,if_pos (by decide)]
    rw[e];exact⟨h,fun j=>absurd j (by show ¬ (20:Int)=0;decide)⟩
   ·by_cases o:(Bc s fs).1.e=0
    ·have e:Ao s fs (q:Int)=(⟨(Bc s fs).1.s,(Bc s fs).1.fs.set (Bc s fs).2 ⟨(q:Int),C q,0,true,0⟩,0⟩,(Bc s fs).2):=by
      unfold Ao;rw[if_neg (fun d=>d g),i];simp only;rw[m,if_neg (fun d=>d rfl),if_pos o]
     rw[e];refine⟨v.put _ (fun _=>⟨q,b,u,rfl,rfl⟩) (fun p _ _ G=>.inl (G.set f fun a _ c=>absurd (by have:=F o;rw[Bh f]at this;exact this a) c)) (fun _ H=>absurd rfl H),fun _=>⟨q,b,rfl,?_⟩⟩;simp only;rw[Bh (by rw[List.length_set];exact f),List.getElem_set_self]
    ·have e:Ao s fs (q:Int)=(Dz s fs (Bc s fs).1,0):=by
      unfold Ao;rw[if_neg (fun d=>d g),i];simp only;rw[m,if_neg (fun d=>d rfl),if_neg o]
     rw[e];refine⟨h.back v,fun j=>absurd j ?_⟩;unfold Dz;simp only
     split<;>exact o
 ·have e:Ao s fs p=(⟨s,fs,1⟩,0):=by unfold Ao;rw[if_pos g]
  rw[e];exact⟨h,fun j=>absurd j (by show ¬ (1:Int)=0;decide)⟩
theorem PG.Vj (h:PG N n s.Ai fs C U T)(p:Int):PG N n (E7 s fs p).s.Ai (E7 s fs p).fs C U T:=by
 unfold E7
 split
 ·exact h
 ·split
  ·exact h
  ·rename_i k b
   obtain⟨a,_⟩:=I6 b;rw[Bh a]
   split
   ·exact h
   ·exact h.same a rfl rfl rfl
theorem PG.Kv (h:PG N n s.Ai fs C U T)(a:Wf N n B s fs)(p:Int):PG N n (D4 s fs p).s.Ai (D4 s fs p).fs C U T:=by
 unfold D4
 split
 ·exact h
 ·split
  ·exact h
  ·rename_i k b
   obtain⟨c,_⟩:=I6 b;exact h.back (h.flush a c)
end
theorem PG.Jl {N n B:Nat}{C:Nat→ByteArray}{U T:Nat→Prop}{s0:Tx.St}{fs0:List Fr}(h0:PG N n s0.Ai fs0 C U T):∀ (l:List Int) (s:Tx.St) (fs:List Fr),PG N n s.Ai fs C U T→Wf N n B s fs→PG N n (Jl s0 fs0 l s fs).s.Ai (Jl s0 fs0 l s fs).fs C U T
 |[],_,_,h,_=>h
 |p::l,s,fs,h,hw=>by
  have h1:=h.Kv hw p;obtain⟨w1,_⟩:=hw.Kv p
  show PG N n (if _ then _ else _:Px).s.Ai (if _ then _ else _:Px).fs C U T
  split
  ·exact PG.Jl h0 l _ _ h1 w1
  ·exact h0.back h1
theorem PG.all {N n B:Nat}{s:Tx.St}{fs:List Fr}{C:Nat→ByteArray}{U T:Nat→Prop}(h:PG N n s.Ai fs C U T)(a:Wf N n B s fs):PG N n (Te s fs).s.Ai (Te s fs).fs C U T:=PG.Jl h _ _ _ h a
theorem PG.L6 {N n:Nat}{d:Lg.Dk}{fs:List Fr}{C u:Nat→ByteArray}{U T v w:Nat→Prop}(h:PG N n d fs C U T){k:Nat}(H:k<fs.length){p:Nat}(J:p<n){f:Fr}(l:f.Ab=(p:Int))(m:gI f.bytes)(x:f.rc≠0)
 (o:∀ j (hj:j<fs.length),j≠k→Full fs[j]→fs[j].Ab≠(p:Int)) (hold:Full fs[k]→fs[k].Ab=(p:Int)∨fs[k].rc=0)
 (hC:∀ q,q≠p→u q=C q∧(v q↔U q)) (r:u p=f.bytes) (y:v p) (K:∀ q,T q→w q) (z:w p):PG N n d (fs.set k f) u v w:=by
 have A:Full f:=Qt m.is;refine⟨fun i L B=>?_,fun q D E=>?_,fun q D E s=>?_,fun q F=>?_⟩
 ·rcases Ku fs k f i L with⟨_,e⟩|⟨M,t,e⟩
  ·rw[e];exact⟨p,J,y,l,r.symm⟩
  ·rw[e]at B ⊢
   obtain⟨q,G,O,I,P⟩:=h.fr i t B;have g:q≠p:=fun Q=>o i t M B (by rw[I,Q]);exact⟨q,G,(hC q g).2.2 O,I,by rw[P,(hC q g).1]⟩
 ·by_cases g:q=p
  ·rw[g,r];exact m
  ·rw[(hC q g).1];exact h.nm q D ((hC q g).2.1 E)
 ·by_cases g:q=p
  ·exact absurd ⟨k,by rw[List.length_set];exact H,by rw[List.getElem_set_self];exact⟨A,by rw[g];exact l,x⟩⟩ s
  ·rw[(hC q g).1]
   exact h.dk q D ((hC q g).2.1 E) fun F=>s (F.set H fun a b c=>(hold a).elim (fun e=>absurd (Int.ofNat.inj (b.symm.trans e)) g) fun e=>absurd e c)
 ·rcases Vy F with⟨_,b,_⟩|G
  ·have:q=p:=Int.ofNat.inj (b.symm.trans l)
   rw[this];exact z
  ·exact K q (h.dt q G)
structure Jc (N n:Nat) (J:Lg.Dk→Lg.Lo→Prop):Prop where
 frc:∀ d g,Pm (1+N+4*n) d→J d g→J (Lg.A4 d g).1 (Lg.A4 d g).2.1
 wr:∀ d g a b k,Pm (1+N+4*n) d→1+N≤a→a+4≤1+N+4*n→b.size=512→k≤4→J d g→J (F5 d a b k).1 g
section
variable {N n B : Nat} {s : Tx.St} {fs : List Fr} {J : Lg.Dk → Lg.Lo → Prop}
theorem Jc.flush (c:Jc N n J)(b:Wf N n B s fs)(h:J s.Ai s.log){k:Nat}(g:k<fs.length):J (Cu s fs k).s.Ai (Cu s fs k).s.log:=by
 have a:=b.fr k g;obtain⟨j,p⟩:=Ol b a.pg;have l:=b.zl;have m:=a.pg;have i:=c.frc _ _ b.dk h;have e:=b.dk.force s.log;unfold Cu;rw[Bh g]
 split
 ·exact h
 ·rename_i f
  have o:=(Ig (a.is (a.rz f))).2.2.2;have d:=c.wr _ _ (F9 s fs[k].Ab) (E5 fs[k].bytes) 4 e (by omega) j o (Nat.le_refl 4) i
  split
  ·exact i
  ·split
   ·exact d
   ·exact d
theorem Jc.room (c:Jc N n J)(b:Wf N n B s fs)(h:J s.Ai s.log):J (Bc s fs).1.s.Ai (Bc s fs).1.s.log:=by
 have f:=b.nf;unfold Bc
 split
 ·exact h
 ·split
  ·exact h
  ·rename_i k a e
   obtain⟨g,d,_⟩:=Ii fs.length (by omega) _ _ fs fs k a rfl (Nat.mod_lt _ (by omega)) (V5.refl fs) e;have i:=d.len;have j:(k+1)%fs.length<fs.length:=Nat.mod_lt _ (by omega);exact c.flush (s:={s with hand:=(((k+1)%fs.length:Nat):Int)}) ((b.hand (x:=(((k+1)%fs.length:Nat):Int)) (by omega)).marks d) h (by omega)
theorem Jc.back (h:J s.Ai s.log){x:Px}(a:J x.s.Ai x.s.log):J (Dz s fs x).s.Ai (Dz s fs x).s.log:=by
 unfold Dz
 split
 ·exact a
 ·exact h
theorem Jc.held (c:Jc N n J)(b:Wf N n B s fs)(h:J s.Ai s.log)(p:Int):J (Ao s fs p).1.s.Ai (Ao s fs p).1.s.log:=by
 have a:=c.room b h;unfold Ao
 split
 ·exact h
 ·split
  ·exact h
  ·split
   ·exact h
   ·split
    ·exact a
    ·exact Jc.back h a
theorem Jc.Vj (h:J s.Ai s.log)(p:Int):J (E7 s fs p).s.Ai (E7 s fs p).s.log:=by
 unfold E7
 split
 ·exact h
 ·split
  ·exact h
  ·split
   ·exact h
   ·exact h
theorem Jc.Kv (c:Jc N n J)(a:Wf N n B s fs)(h:J s.Ai s.log)(p:Int):J (D4 s fs p).s.Ai (D4 s fs p).s.log:=by
 unfold D4
 split
 ·exact h
 ·split
  ·exact h
  ·rename_i k b
   obtain⟨d,_⟩:=I6 b;exact Jc.back h (c.flush a h d)
end
theorem Jc.Jl {N n B:Nat}{J:Lg.Dk→Lg.Lo→Prop}(c:Jc N n J){s0:Tx.St}{fs0:List Fr}(h0:J s0.Ai s0.log):∀ (l:List Int) (s:Tx.St) (fs:List Fr),J s.Ai s.log→Wf N n B s fs→J (Jl s0 fs0 l s fs).s.Ai (Jl s0 fs0 l s fs).s.log
 |[],_,_,h,_=>h
 |p::l,s,fs,h,hw=>by
  have h1:=c.Kv hw h p;obtain⟨w1,_⟩:=hw.Kv p
  show J (if _ then _ else _:Px).s.Ai (if _ then _ else _:Px).s.log
  split
  ·exact Jc.Jl c h0 l _ _ h1 w1
  ·exact Jc.back h0 h1
def Mk (n:Nat)(r:Rc.Rec):Prop:=(r.kind=2∨r.kind=3∨r.kind=8)∧0≤r.Ab∧r.Ab<(n:Int)
instance (n:Nat) (r:Rc.Rec):Decidable (Mk n r):=by unfold Mk;exact inferInstance
abbrev Hs:=Nat→Option ByteArray
def Fi (H:Hs)(p:Nat):ByteArray:=(H p).getD ⟨#[]⟩
def Ik (H:Hs)(r:Rc.Rec):ByteArray:=if r.kind=8 then Lw r.op.new else Cj (Lp r.op (Fi H r.Ab.toNat)).1 r.lsn
def Jo (n:Nat)(H:Hs)(r:Rc.Rec):Hs:=if Mk n r then fun q=>if q=r.Ab.toNat then some (Ik H r)else H q else H
def Gx (n:Nat)(H:Hs)(l:List Rc.Rec):Hs:=l.foldl (Jo n) H
def okR (n:Nat)(H:Hs)(r:Rc.Rec):Prop:=Mk n r→(1≤r.lsn∧r.lsn<1099511627776)∧(r.kind=8→Bo r.op.new=true)∧(r.kind≠8→H r.Ab.toNat≠none∧(Lp r.op (Fi H r.Ab.toNat)).2=0∧(((Ac (Fi H r.Ab.toNat)).lsn:Nat):Int)<r.lsn)
def eF (n:Nat):Hs→List Rc.Rec→Prop
 |_,[]=>True
 |H,r::l=>okR n H r∧eF n (Jo n H r) l
def Ly:Hs:=fun _=>none
theorem eG (n:Nat)(H:Hs)(l m:List Rc.Rec):Gx n H (l++m)=Gx n (Gx n H l) m:=List.foldl_append
theorem Pq (n:Nat):∀ (l m:List Rc.Rec) (H:Hs),eF n H (l++m)↔eF n H l∧eF n (Gx n H l) m
 |[],m,H=>⟨fun h=>⟨trivial,h⟩,fun h=>h.2⟩
 |r::l,m,H=>by
  show okR n H r∧eF n (Jo n H r) (l++m)↔(okR n H r∧eF n (Jo n H r) l)∧eF n (Gx n (Jo n H r) l) m
  rw[Pq n l m];exact⟨fun⟨a,b,c⟩=>⟨⟨a,b⟩,c⟩,fun⟨⟨a,b⟩,c⟩=>⟨a,b,c⟩⟩
structure LJ (N:Nat) (R:List Rc.Rec) (d:Lg.Dk) (g:Lg.Lo):Prop where
 left: -1≤d.left
 inv:∃ r1 r2 l,Lg.F4 1 N d g r1 r2∧R=r1++r2∧Lg.N1 (Lg.Eu 1 N d) r1 l R
theorem LJ.app {N:Nat}{R:List Rc.Rec}{d:Lg.Dk}{g:Lg.Lo}(h:LJ N R d g){r:Rc.Rec}(a:(Lg.Bf g r).2.2=0):LJ N (R++[{r with lsn:=g.end_+1}]) d (Lg.Bf g r).1∧(Lg.Bf g r).2.1=g.end_+1:=by
 obtain⟨c,f,i,l,j,rfl,k⟩:=h;rcases j.append r with e|e|⟨e,b⟩
 ·rw[e]at a;exact absurd a (by show ¬ (1:Int)=0;decide)
 ·rw[e]at a;exact absurd a (by show ¬ (18:Int)=0;decide)
 ·exact⟨⟨c,f,i++[_],l,b,List.append_assoc ..,k.more (by have:=b.row;rwa[← List.append_assoc]at this) ⟨_,rfl⟩⟩,by rw[e]⟩
theorem LJ.same {N:Nat}{R:List Rc.Rec}{d a:Lg.Dk}{g:Lg.Lo}(h:LJ N R d g)(b:a.Ad=d.Ad)(e: -1≤a.left):LJ N R a g:=by
 obtain⟨_,f,i,l,j,k,c⟩:=h;exact⟨e,f,i,l,j.Ai b,k,by unfold Lg.Eu at c ⊢;rw[b];exact c⟩
theorem LJ.F5 {N M:Nat}{R:List Rc.Rec}{d:Lg.Dk}{g:Lg.Lo}(h:LJ N R d g)(f:Pm M d){a:Nat}(s:1+N≤a)(b:ByteArray)(k:Nat):LJ N R (Go.Proofs.YtdfkambdagoojaaGreatDoor.F5 d a b k).1 g:=by
 have m:=f.F5 a b k;have e:Lg.Eu 1 N (Go.Proofs.YtdfkambdagoojaaGreatDoor.F5 d a b k).1=Lg.Eu 1 N d:=by
  unfold Lg.Eu
  congr 1
  apply List.ext_getElem?
  intro j;rw[List.getElem?_take,List.getElem?_take]
  split
  ·rw[List.getElem?_drop,List.getElem?_drop]
   exact(Zm d a b (1+j) k).resolve_right fun⟨i,_,t,_⟩=>by omega
  ·rfl
 have c:=eD (a:=a) (b:=b) h.left k;obtain⟨_,n,o,l,p,q,r⟩:=h;exact⟨c,n,o,l,Ck.F4.out p m.sz (by rw[m.len,f.len]) e,q,by rw[e];exact r⟩
theorem LJ.force {N:Nat}{R:List Rc.Rec}{d:Lg.Dk}{g:Lg.Lo}(h:LJ N R d g)(f:d.left≤9223372036854775807):LJ N R (Lg.A4 d g).1 (Lg.A4 d g).2.1:=by
 have o:=h;obtain⟨p,i,j,l,a,b,u⟩:=h
 by_cases k:j=[]
 ·have e:Lg.A4 d g=(d,g,0):=by unfold Lg.A4;rw[if_pos (by rw[a.safe,a.end_,k,List.append_nil])]
  rw[e];exact o
 ·cases r:d.down with
  |true=>rw[a.gE k r];exact o
  |false=>
   rcases a.force r p with⟨_,a2,_,a4,_,_,_,v⟩|⟨_,_,a3,_,a5,w,n,q,x,B,y⟩
   ·have s:=v (.inr k)
    rw[← b]at s;exact⟨a4,i++j,[],R,a2,by rw[List.append_nil];exact b,Lg.N1.of s ⟨[],by rw[List.append_nil];exact b⟩⟩
   ·have hlen:=Lg.Qk (N:=N) a.whole a.room
    obtain⟨z,c⟩:=u.mix (n:=n) (by omega) (by rw[b];exact x) q;rw[← y]at c;rw[a3];refine⟨(Tx.Y7 ⟨p,f⟩).1,i,j,z,⟨a5,by rw[w];exact a.room,a.hf,a.hn,a.row,?_,a.safe,a.end_,a.tail,a.fit⟩,b,c⟩;obtain⟨m,em⟩:=c.safe;have t:=c.pre;rw[em,Lg.Ff,List.length_append]at t;have A:=congrArg (List.take (Lg.bytes i).length) t
    rwa[List.take_take,Nat.min_eq_left (by omega),List.take_left' rfl]at A
theorem LJ.c {N n:Nat}{R:List Rc.Rec}:Jc N n (LJ N R):=⟨fun _ _ a h=>h.force a.lb.2,fun _ _ _ b k a d _ _ _ h=>h.F5 a d b k⟩
structure HJ (N n B:Nat) (s:Tx.St) (fs:List Fr) (R:List Rc.Rec) (C:Nat→ByteArray):Prop where
 wf:Wf N n B s fs
 ah:Ah N n s fs
 pg:PG N n s.Ai fs C (fun _=>True) (fun p=>Gx n Ly R p≠none)
 lj:LJ N R s.Ai s.log
 ok:eF n Ly R
 his:∀ p b,Gx n Ly R p=some b→b=C p
theorem M3 (n:Nat)(R:List Rc.Rec)(r:Rc.Rec):Gx n Ly (R++[r])=Jo n (Gx n Ly R) r:=eG ..
theorem Zv {n:Nat}{R:List Rc.Rec}{r:Rc.Rec}(h:eF n Ly R)(a:okR n (Gx n Ly R) r):eF n Ly (R++[r]):=(Pq n R [r] Ly).2 ⟨h,a,trivial⟩
theorem Tz {n:Nat}{H:Hs}{r:Rc.Rec}{p:Nat}(a:r.kind=2∨r.kind=3∨r.kind=8)(c:r.Ab=(p:Int))(b:p<n)(q:Nat):Jo n H r q=if q=p then some (Ik H r)else H q:=by
 unfold Jo;rw[if_pos ⟨a,by omega,by omega⟩,show r.Ab.toNat=p by omega]
theorem xQ {N n:Nat}{R:List Rc.Rec}{C:Nat→ByteArray}{s:Tx.St}(o:LJ N R s.Ai s.log)(d:Zc N s.log)(A:N≤3000)(j:eF n Ly R)(g:∀ p b,Gx n Ly R p=some b→b=C p){f:Fr}{p:Nat}(w:p<n)(t:f.bytes=C p)(u:gI (C p))(x:f.rc≠0→Gx n Ly R p≠none)(k:(Hf s f (p:Int)).2.2=0):
 ∃ R1,LJ N R1 s.Ai (Hf s f (p:Int)).1∧eF n Ly R1∧(∀ q b,Gx n Ly R1 q=some b→b=C q)∧Gx n Ly R1 p=some (C p)∧(∀ q,Gx n Ly R q≠none→Gx n Ly R1 q≠none)∧(Hf s f (p:Int)).2.1≠0∧s.log.end_≤(Hf s f (p:Int)).1.end_:=by
 unfold Hf at k ⊢
 by_cases a:f.rc=0
 ·rw[if_pos a]at k ⊢
  obtain⟨y,a2⟩:=o.app k;have B:=d.e0;have D:=d.ef;have l:(Lg.Bf s.log (vQ (p:Int) f.bytes)).2.1≠0:=by rw[a2];omega
  have c:=fun q=>Tz (n:=n) (H:=Gx n Ly R) (r:={vQ (p:Int) f.bytes with lsn:=s.log.end_+1}) (p:=p) (.inr (.inr rfl)) rfl w q;have m:Ik (Gx n Ly R) {vQ (p:Int) f.bytes with lsn:=s.log.end_+1}=C p:=by
   show(if(8:Int)=8 then Lw f.bytes else _)=C p
   rw[if_pos rfl,t,u.pl]
  rw[m]at c;refine⟨_,y,Zv j fun _=>⟨⟨by show 1≤s.log.end_+1;omega,by show s.log.end_+1<_;omega⟩,fun _=>by show Bo f.bytes=true;rw[t];exact u.is,fun z=>absurd rfl z⟩,fun q b i=>?_,?_,fun q i=>?_,l,(Tv _ _).2.1⟩
  ·rw[M3,c]at i
   split at i
   ·rename_i e;rw[e];exact(Option.some.inj i).symm
   ·exact g q b i
  ·rw[M3,c,if_pos rfl]
  ·rw[M3,c]
   split
   ·exact fun h=>by cases h
   ·exact i
 ·rw[if_neg a]at k ⊢
  refine⟨R,o,j,g,?_,fun _ h=>h,a,Int.le_refl _⟩
  cases v:Gx n Ly R p with
  |none=>exact absurd v (x a)
  |some b=>rw[g p b v]
theorem HJ.change {N n B:Nat}{s:Tx.St}{fs:List Fr}{R:List Rc.Rec}{C:Nat→ByteArray}(h:HJ N n B s fs R C)(r:Rc.Rec):∃ R' C',HJ N n B (Dy s fs r (Lp r.op)).s (Dy s fs r (Lp r.op)).fs R' C':=by
 have A:=h.wf;have F:=(A.change r (Lp r.op) (Jq r.op)).1;have G:=h.ah.change A r (Lp r.op) (Jq r.op)
 suffices hS:∃ R' C',PG N n (Dy s fs r (Lp r.op)).s.Ai (Dy s fs r (Lp r.op)).fs C' (fun _=>True) (fun p=>Gx n Ly R' p≠none)∧LJ N R' (Dy s fs r (Lp r.op)).s.Ai (Dy s fs r (Lp r.op)).s.log∧eF n Ly R'∧∀ p b,Gx n Ly R' p=some b→b=C' p by
  obtain⟨R',C',v,h2,w,I⟩:=hS;exact⟨R',C',F,G,v,h2,w,I⟩
 clear F G;have a:∃ R' C',PG N n s.Ai fs C' (fun _=>True) (fun p=>Gx n Ly R' p≠none)∧LJ N R' s.Ai s.log∧eF n Ly R'∧∀ p b,Gx n Ly R' p=some b→b=C' p:=⟨R,C,h.pg,h.lj,h.ok,h.his⟩;have xl:=LJ.c.held A h.lj r.Ab;obtain⟨J,xb⟩:=h.pg.held A r.Ab fun _ _ _=>trivial;obtain⟨D,xn,xk,xf⟩:=A.held r.Ab;obtain⟨xa,_⟩:=h.ah.held A r.Ab;unfold Dy
 by_cases v:(r.kind=2∨r.kind=3)∧Im s r.Ab
 ·rw[if_neg (fun g=>g v)]
  split
  ·exact a
  ·rename_i i hi
   generalize Ao s fs r.Ab=x at xl J xb D xn xk xf xa ⊢
   by_cases T:x.1.e=0
   ·rw[if_neg (fun g=>g T)]
    obtain⟨p,U,K,hb⟩:=xb T;obtain⟨_,x7,L⟩:=xf T;have d:x.2<x.1.fs.length:=(by omega);have a1:=J.nm p U trivial;rw[hb]
    by_cases w:(Lp r.op (C p)).2=0
    ·rw[if_neg (fun g=>g w)]
     obtain⟨rl,rv,rt,E,rp,V,W,ro,X,Y,Z,k,o⟩:=r;simp only at v K w L ⊢;subst K;unfold Tc;simp only;have hd:(Cz x.1.fs x.2).rc≠0→Gx n Ly R p≠none:=fun hr=>J.dt p ⟨x.2,d,by rw[← Bh d];exact⟨x7,L,hr⟩⟩;have M:=xQ xl D.low D.n1.2.2 h.ok h.his (f:=Cz x.1.fs x.2) U hb a1 hd;have y:=kR D (Cz x.1.fs x.2) (p:Int);have a6:=xa.fr x.2 d (by rw[← Bh d];exact x7);rw[← Bh d,hb]at a6;generalize Hf x.1.s (Cz x.1.fs x.2) (p:Int)=m at M y ⊢
     by_cases I:m.2.2=0
     ·rw[if_neg (fun g=>g I)]
      obtain⟨z,i1,i2,i3,i4,i5,i6,i7⟩:=M I;have O:=i1.app (r:=⟨rl,(Lc x.1.s.txns i).last,rt,E,(p:Int),V,W,ro,X,Y,Z,k,o⟩);generalize Lg.Bf m.1 ⟨rl,(Lc x.1.s.txns i).last,rt,E,(p:Int),V,W,ro,X,Y,Z,k,o⟩=ap at O ⊢
      by_cases h5:ap.2.2=0
      ·rw[if_neg (fun g=>g h5)]
       obtain⟨j1,j2⟩:=O h5;have hN:=D.n1.2.2;have ad:=y.e0;have ae:=y.ef;have P:Fi (Gx n Ly z) p=C p:=(by unfold Fi;rw[i4];rfl);have Q:E≠8:=(by have:=v.1;omega);have t:=fun q=>Tz (n:=n) (H:=Gx n Ly z) (r:=⟨m.1.end_+1,(Lc x.1.s.txns i).last,rt,E,(p:Int),V,W,ro,X,Y,Z,k,o⟩) (p:=p) (v.1.imp id .inl) rfl U q;have a7:Ik (Gx n Ly z) ⟨m.1.end_+1,(Lc x.1.s.txns i).last,rt,E,(p:Int),V,W,ro,X,Y,Z,k,o⟩=Cj (Lp ro (C p)).1 ap.2.1:=by
        show(if E=8 then _ else Cj (Lp ro (Fi (Gx n Ly z) (p:Int).toNat)).1 (m.1.end_+1))=_
        rw[if_neg Q,show(p:Int).toNat=p from rfl,P,j2]
       rw[a7]at t;have S:=(Qm (Jq _ _ w) (l:=ap.2.1.toNat) (by omega)).1;rw[show((ap.2.1.toNat:Nat):Int)=ap.2.1 by omega]at S;refine⟨_,fun q=>if q=p then Cj (Lp ro (C p)).1 ap.2.1 else C q,?_,j1,Zv i2 fun _=>⟨⟨by show 1≤m.1.end_+1;omega,by show m.1.end_+1<_;omega⟩,fun h9=>absurd h9 Q,fun _=>?_⟩,fun q b u=>?_⟩
       ·refine J.L6 d U (f:=⟨(Cz x.1.fs x.2).Ab,Cj (Lp ro (C p)).1 ap.2.1,(Cz x.1.fs x.2).pins,true,m.2.1⟩) L S i6 (fun j hj a8 aa e=>D.ds j x.2 hj d a8 aa (by rw[← Bh d];exact x7) (e.trans (by rw[← Bh d];exact L.symm))) (fun _=>.inl (by rw[← Bh d];exact L)) (fun q u=>⟨if_neg u,Iff.rfl⟩) (if_pos rfl) trivial (fun q u=>?_) ?_
        ·rw[M3,t]
         split
         ·exact fun h=>by cases h
         ·exact i5 q u
        ·rw[M3,t,if_pos rfl];exact fun h=>by cases h
       ·show Gx n Ly z (p:Int).toNat≠none∧(Lp ro (Fi (Gx n Ly z) (p:Int).toNat)).2=0∧(((Ac (Fi (Gx n Ly z) (p:Int).toNat)).lsn:Nat):Int)<m.1.end_+1
        rw[show(p:Int).toNat=p from rfl,P];exact⟨by rw[i4];exact(fun h=>by cases h),w,by omega⟩
       ·rw[M3,t]at u
        simp only
        split
        ·rename_i e
         rw[if_pos e]at u;exact(Option.some.inj u).symm
        ·rename_i e
         rw[if_neg e]at u;exact i3 q b u
      ·rw[if_pos h5];exact a
     ·rw[if_pos I];exact a
    ·rw[if_pos w];exact a
   ·rw[if_pos T]
    exact⟨R,C,J,xl,h.ok,h.his⟩
 ·rw[if_pos v];exact a
theorem HJ.act {N n B:Nat}{s:Tx.St}{fs:List Fr}{R:List Rc.Rec}{C:Nat→ByteArray}(h:HJ N n B s fs R C)(a:Gq)(i:a.n≤9223372036854775807)(g:a.kind≠1):∃ R' C',HJ N n (B+1) (Jm s fs a).1.s (Jm s fs a).1.fs R' C':=by
 have d:=h.wf;obtain⟨e,f⟩:=h.ah.act d a i
 suffices hS:∃ R' C',PG N n (Jm s fs a).1.s.Ai (Jm s fs a).1.fs C' (fun _=>True) (fun p=>Gx n Ly R' p≠none)∧LJ N R' (Jm s fs a).1.s.Ai (Jm s fs a).1.s.log∧eF n Ly R'∧∀ p b,Gx n Ly R' p=some b→b=C' p by
  obtain⟨R',C',g,j,l,m⟩:=hS;exact⟨R',C',f,e,g,j,l,m⟩
 clear f e;have r:=h.lj.left;unfold Jm
 split
 ·exact⟨R,C,h.pg.Ad rfl,h.lj.same rfl (by show -1≤(if a.n<0 then -1 else a.n);split<;>omega),h.ok,h.his⟩
 ·unfold Fu
  split
  ·unfold J6
   exact⟨R,C,(h.pg.held d _ fun _ _ _=>trivial).1,LJ.c.held d h.lj _,h.ok,h.his⟩
  ·split
   ·exact⟨R,C,h.pg.Vj _,Jc.Vj (J:=LJ N R) h.lj _,h.ok,h.his⟩
   ·split
    ·have q:(Jt a).op=a.o:=by unfold Jt;split<;>rfl
     obtain⟨R',C',k⟩:=h.change (Jt a);rw[q]at k;exact⟨R',C',k.pg,k.lj,k.ok,k.his⟩
    ·split
     ·exact⟨R,C,h.pg.Kv d _,LJ.c.Kv d h.lj _,h.ok,h.his⟩
     ·split
      ·exact⟨R,C,h.pg.all d,LJ.c.Jl h.lj _ _ _ h.lj d,h.ok,h.his⟩
      ·exact⟨R,C,h.pg.Ad rfl,h.lj.same rfl (by show(-1:Int)≤-1;omega),h.ok,h.his⟩
theorem xR {s:Tx.St}(p:Int)(h:s.Ai.down=false):(D7 s p).2≠20:=by
 unfold D7;rw[if_neg (by rw[h];decide)]
 split
 ·show ¬ (0:Int)=20;decide
 ·split
  ·show ¬ (0:Int)=20;decide
  ·show ¬ (19:Int)=20;decide
def NP (fs:List Fr):Prop:=∀ x∈fs,x.pins≤0
theorem NP.at_ {fs:List Fr}(h:NP fs){k:Nat}(a:k<fs.length):fs[k].pins≤0:=h _ (List.getElem_mem a)
theorem NP.set {fs:List Fr}(h:NP fs)(k:Nat){f:Fr}(b:f.pins≤0):NP (fs.set k f):=fun x c=>by
 rcases List.mem_or_eq_of_mem_set c with a|a
 ·exact h x a
 ·rw[a];exact b
theorem NP.marks {fs a:List Fr}(h:NP fs)(b:V5 fs a):NP a:=fun x c=>by
 obtain⟨i,d,rfl⟩:=List.getElem_of_mem c;have e:=b.len;rw[b.at_ i (by omega) d];exact h.at_ (k:=i) (by omega)
theorem eH (n:Nat):∀ (j a:Nat) (fs:List Fr),fs.length=n→a<n→NP fs→fs.countP (·.mark)<j→Mg n j a fs≠none
 |0,_,_,_,_,_,h=>absurd h (by omega)
 |j+1,a,fs,hl,ha,hp,hc=>by
  have hk:a<fs.length:=by omega
  have hp0:=hp.at_ hk;unfold Mg;rw[Bh hk,if_neg (by omega)]
  split
  ·rename_i hm
   have h1:0<fs.countP (·.mark):=List.countP_pos_iff.2 ⟨fs[a],List.getElem_mem hk,hm⟩;refine eH n j _ _ (by rw[List.length_set];exact hl) (Nat.mod_lt _ (by omega)) (hp.set _ hp0) ?_;rw[List.countP_set hk,if_pos hm]
   simp
   omega
  ·exact fun h=>by cases h
section
variable {N n B : Nat} {s : Tx.St} {fs : List Fr}
theorem tU (d:Wf N n B s fs)(j:Pw N (1+N+4*n) s.Ai s.log)(c:NP fs){k:Nat}(f:k<fs.length):(Cu s fs k).e=0∧Pw N (1+N+4*n) (Cu s fs k).s.Ai (Cu s fs k).s.log∧NP (Cu s fs k).fs:=by
 have b:=d.fr k f;obtain⟨l,r⟩:=Ol d b.pg;have p:=d.zl;have q:=b.pg;unfold Cu;rw[Bh f]
 split
 ·exact⟨rfl,j,c⟩
 ·rename_i g
  have m:=(Ig (b.is (b.rz g))).2.2.2;obtain⟨d2,g2,e,o,_⟩:=j.force;rw[e];simp only;rw[if_neg (fun h=>h trivial)];have i:=zB o (a:=F9 s fs[k].Ab) m (by omega) l;rw[i];simp only;rw[if_neg (fun h=>h trivial)];exact⟨rfl,o.Ab m (by omega) l,c.set _ (c.at_ f)⟩
theorem kT (f:Wf N n B s fs)(g:Pw N (1+N+4*n) s.Ai s.log)(a:NP fs):(Bc s fs).1.e=0∧Pw N (1+N+4*n) (Bc s fs).1.s.Ai (Bc s fs).1.s.log∧NP (Bc s fs).1.fs:=by
 have h:=f.nf;unfold Bc
 split
 ·exact⟨rfl,g,a⟩
 ·split
  ·rename_i b
   exact absurd b (eH _ _ _ _ rfl (Nat.mod_lt _ (by omega)) a (Nat.lt_of_le_of_lt List.countP_le_length (by omega)))
  ·rename_i k c b
   obtain⟨i,d,_⟩:=Ii fs.length (by omega) _ _ fs fs k c rfl (Nat.mod_lt _ (by omega)) (V5.refl fs) b;have j:=d.len;have l:(k+1)%fs.length<fs.length:=Nat.mod_lt _ (by omega);exact tU (s:={s with hand:=(((k+1)%fs.length:Nat):Int)}) ((f.hand (x:=(((k+1)%fs.length:Nat):Int)) (by omega)).marks d) g (a.marks d) (by omega)
end
structure TJ (N n B:Nat) (t:Tx.St) (fs:List Fr) (H:Hs):Prop where
 wf:Wf N n B t fs
 pg:PG N n t.Ai fs (Fi H) (fun p=>H p≠none) (fun _=>True)
 pw:Pw N (1+N+4*n) t.Ai t.log
 np:NP fs
theorem TJ.held {N n B:Nat}{t:Tx.St}{fs:List Fr}{H:Hs}(h:TJ N n B t fs H){p:Nat}(j:p<n)(hH:H p≠none):(Ao t fs (p:Int)).1.e=0∧TJ N n B (Ao t fs (p:Int)).1.s (Ao t fs (p:Int)).1.fs H∧(Cz (Ao t fs (p:Int)).1.fs (Ao t fs (p:Int)).2).bytes=Fi H p:=by
 have a:=h.wf;have l:=a.zp;obtain⟨f,m,o,r⟩:=a.held (p:Int);obtain⟨g1,g2⟩:=h.pg.held a (p:Int) fun q _ e=>by
  have:p=q:=Int.ofNat.inj e;rw[← this];exact hH
 have g:Im t (p:Int):=⟨by omega,by omega⟩;obtain⟨u,v,w⟩:=kT a h.pw h.np;have key:(Ao t fs (p:Int)).1.e=0∧Pw N (1+N+4*n) (Ao t fs (p:Int)).1.s.Ai (Ao t fs (p:Int)).1.s.log∧NP (Ao t fs (p:Int)).1.fs:=by
  clear f m o r g1 g2
  cases d:Oz fs (p:Int)with
  |some k=>
   obtain⟨i,_⟩:=I6 d;have e:Ao t fs (p:Int)=(⟨t,fs.set k {fs[k]with mark:=true},0⟩,k):=by
    unfold Ao;rw[if_neg (fun b=>b g),d];simp only;rw[Bh i]
   rw[e];exact⟨rfl,h.pw,h.np.set _ (h.np.at_ i)⟩
  |none=>
   have c:D7 t (p:Int)=(Fi H p,0):=by
    rcases h.pg.read a j hH (cQ (Vh d))with c|c
    ·exact absurd (by rw[c]) (xR (p:Int) h.pw.up)
    ·exact c
   have e:Ao t fs (p:Int)=(⟨(Bc t fs).1.s,(Bc t fs).1.fs.set (Bc t fs).2 ⟨(p:Int),Fi H p,0,true,0⟩,0⟩,(Bc t fs).2):=by
    unfold Ao;rw[if_neg (fun b=>b g),d];simp only;rw[c,if_neg (fun b=>b rfl),if_pos u]
   rw[e];exact⟨rfl,v,w.set _ (Int.le_refl _)⟩
 refine⟨key.1,⟨f,g1,key.2.1,key.2.2⟩,?_⟩;obtain⟨q,_,x,y⟩:=g2 key.1;have:p=q:=Int.ofNat.inj x;rw[y,this]
theorem TJ.get {N n B:Nat}{t:Tx.St}{fs:List Fr}{H:Hs}(h:TJ N n B t fs H){p:Nat}(b:p<n)(hH:H p≠none):(J6 t fs (p:Int)).1.e=0∧(J6 t fs (p:Int)).2=Fi H p∧TJ N n B (J6 t fs (p:Int)).1.s (J6 t fs (p:Int)).1.fs H:=by
 obtain⟨a,c,d⟩:=h.held b hH;unfold J6;exact⟨a,by simp only;rw[if_pos a,d],c⟩
theorem TJ.L6 {N n:Nat}{t':Tx.St}{fs:List Fr}{H:Hs}(c:PG N n t'.Ai fs (Fi H) (fun p=>H p≠none) (fun _=>True)){r:Rc.Rec}{p:Nat}(s:r.kind=2∨r.kind=3∨r.kind=8)(d:r.Ab=(p:Int))(m:p<n){k:Nat}(e:k<fs.length){f:Fr}(g:f.Ab=(p:Int))(t:Ik H r=f.bytes)(i:gI f.bytes)(l:f.rc≠0)
 (b:∀ j (hj:j<fs.length),j≠k→Full fs[j]→fs[j].Ab≠(p:Int)) (hold:Full fs[k]→fs[k].Ab=(p:Int)∨fs[k].rc=0):PG N n t'.Ai (fs.set k f) (Fi (Jo n H r)) (fun p=>Jo n H r p≠none) (fun _=>True):=by
 have a:=Tz (n:=n) (H:=H) s d m;refine c.L6 e m g i l b hold (fun q o=>⟨?_,?_⟩) ?_ ?_ (fun _ _=>trivial) trivial
 ·unfold Fi;rw[a,if_neg o]
 ·rw[a,if_neg o]
 ·unfold Fi;rw[a,if_pos rfl];exact t
 ·rw[a,if_pos rfl];exact fun h=>by cases h
theorem jC {f:Fr}{b:ByteArray}{l:Int}(a:1≤l):(V9 f b l).rc≠0:=by
 unfold V9;simp only
 split
 ·omega
 ·assumption
theorem TJ.iS {N n B:Nat}{t:Tx.St}{fs:List Fr}{H:Hs}(h:TJ N n B t fs H){r:Rc.Rec}(S:Mk n r)(Z:okR n H r):(Hg t fs r (Lp r.op)).e=0∧TJ N n B (Hg t fs r (Lp r.op)).s (Hg t fs r (Lp r.op)).fs (Jo n H r):=by
 have g:=h.wf;have a1:=g.zp;obtain⟨⟨u,T⟩,o8,v⟩:=Z S;obtain⟨G,J,a6⟩:=S;obtain⟨p,b⟩:∃ p:Nat,r.Ab=(p:Int):=⟨r.Ab.toNat,by omega⟩;have c:p<n:=by omega
 have w:r.Ab.toNat=p:=by omega
 have hh:Im t r.Ab:=⟨J,by omega⟩;have y:=(g.iS r (Lp r.op) (Jq r.op)).1;have z:Ky t r:=⟨G,hh,u,T⟩;rw[w]at v
 suffices hS:(Hg t fs r (Lp r.op)).e=0∧PG N n (Hg t fs r (Lp r.op)).s.Ai (Hg t fs r (Lp r.op)).fs (Fi (Jo n H r)) (fun p=>Jo n H r p≠none) (fun _=>True)∧Pw N (1+N+4*n) (Hg t fs r (Lp r.op)).s.Ai (Hg t fs r (Lp r.op)).s.log∧NP (Hg t fs r (Lp r.op)).fs from⟨hS.1,y,hS.2.1,hS.2.2.1,hS.2.2.2⟩
 clear y
 by_cases q:r.kind=8
 ·have A:=o8 q
  have d:Ik H r=Lw r.op.new:=by unfold Ik;rw[if_pos q]
  have C:=(gJ A).1;unfold Hg;rw[if_neg (fun i=>i z),if_pos q];unfold Ij;rw[if_neg (by rw[A];decide)]
  cases U:Oz fs r.Ab with
  |some k=>
   obtain⟨a,K,m⟩:=I6 U;simp only;rw[Bh a];exact⟨trivial,TJ.L6 (t':=t) (f:=V9 fs[k] (Lw r.op.new) r.lsn) h.pg G b c a (m.trans b) d C (jC u) (fun j D o I e=>g.ds j k D a o I K (e.trans (m.trans b).symm)) fun _=>.inl (m.trans b),h.pw,h.np.set _ (h.np.at_ a)⟩
  |none=>
   obtain⟨V,r2,r3⟩:=kT g h.pw h.np;obtain⟨g1,g2⟩:=h.pg.room g;obtain⟨w1,L,W⟩:=g.room;have a:(Bc t fs).2<(Bc t fs).1.fs.length:=(by omega);simp only;rw[if_pos V];have M:=(Vg g).none_ L (Vh U);exact⟨rfl,TJ.L6 (t':=(Bc t fs).1.s) (f:=V9 ⟨r.Ab,⟨#[]⟩,0,false,0⟩ (Lw r.op.new) r.lsn) g1 G b c a b d C (jC u) (fun j D _ I e=>M j D I (e.trans b.symm)) fun K=>.inr (by have X:=g2 V;rw[Bh a]at X;exact X K),r2,r3.set _ (Int.le_refl _)⟩
 ·obtain⟨q1,O,q3⟩:=v q
  obtain⟨P,t1,Y⟩:=h.held c q1;obtain⟨_,L,W,w4⟩:=g.held (p:Int);obtain⟨_,Q,E⟩:=w4 P;have a:(Ao t fs (p:Int)).2<(Ao t fs (p:Int)).1.fs.length:=by omega
  have I:=Tq (Jq r.op _ O) (Q2 ⟨u,T⟩);have F:=(Qm (Jq r.op _ O) (l:=r.lsn.toNat) (by omega)).1;rw[show((r.lsn.toNat:Nat):Int)=r.lsn by omega]at F;have d:Ik H r=Cj (Lp r.op (Fi H p)).1 r.lsn:=by unfold Ik;rw[if_neg q,w]
  unfold Hg;rw[if_neg (fun i=>i z),if_neg q,b];generalize Ao t fs (p:Int)=x at P t1 Y L W Q E a ⊢;rw[if_neg (fun i=>i P),Y,if_neg (by omega),if_neg (fun i=>i O)];rw[Bh a]at Q E ⊢;have ht:=TJ.L6 (t':=x.1.s) (f:=V9 x.1.fs[x.2] (Cj (Lp r.op (Fi H p)).1 r.lsn) r.lsn) t1.pg G b c a E d F (jC u) (fun j D o R e=>t1.wf.ds j x.2 D a o R Q (e.trans E.symm)) fun _=>.inl E;exact⟨rfl,ht,t1.pw,t1.np.set _ (t1.np.at_ a)⟩
theorem kU {n:Nat}{H:Hs}{r:Rc.Rec}(h:¬ Mk n r):Jo n H r=H:=by unfold Jo;rw[if_neg h]
theorem Xv:∀ (l:List Rc.Rec) (a:Nat),Lg.Row a l→∀ r∈l,Rc.Bz r
 |[],_,_,_,h=>by cases h
 |x::l,a,h,r,hr=>by
  rcases List.mem_cons.1 hr with e|hr
  ·rw[e];exact h.1
  ·exact Xv l _ h.2.2 r hr
theorem HJ.end_ {N n B:Nat}{s:Tx.St}{fs:List Fr}{R:List Rc.Rec}{C:Nat→ByteArray}(h:HJ N n B s fs R C){k:Nat}(O:1≤k∧k≤64)(x:Int):∃ g l,Lg.Iq (Lg.Bs s.Ai) 1 N=(g,l,0)∧eF n Ly l∧(∀ r∈l,Rc.Bz r)∧l.length≤N*16∧TJ N n 0 {s with Ai:=Lg.Bs s.Ai,log:=g,hand:=0,txns:=[],next:=x} (Ed k) Ly:=by
 have z:=h.wf;have E:=z.n1;have c:=z.dk.start;have G:=c.len;obtain⟨_,X,Y,l,K,Z,A⟩:=h.lj;have q:Lg.Whole (Lg.Bs s.Ai).Ad:=c.sz;obtain⟨o1,a⟩:=Lg.F4.opened (F:=1) (N:=N) (d:=Lg.Bs s.Ai) rfl q (by omega);have hlen:=Lg.Qk (N:=N) K.whole K.room;have P:=Lg.manyN l;have H:=A.room;have Q:=A.opens (f:=N*128+1) (by omega);rw[show Lg.Eu 1 N (Lg.Bs s.Ai)=Lg.Eu 1 N s.Ai from rfl,Q]at o1 a;simp only at o1 a;rw[show((1:Nat):Int)=1 from rfl]at o1 a;obtain⟨t,D⟩:=A.part;have u:=h.ok;rw[D,Pq]at u;have b:=A.row;rw[D,Lg.Ko]at b;obtain⟨g,L⟩:=ex ((Lg.Iq (Lg.Bs s.Ai) 1 N).1);have e:Lg.Iq (Lg.Bs s.Ai) 1 N=(g,l,0):=by
  have S:Lg.Iq (Lg.Bs s.Ai) 1 N=((Lg.Iq (Lg.Bs s.Ai) 1 N).1,(Lg.Iq (Lg.Bs s.Ai) 1 N).2):=rfl;rw[S,o1,L]
 rw[← L]at a;have m:=a.al;have T:=a.Oi;have v:=a.end_;have M:=a.fit;have U:=a.hf;have V:=a.hn;have I:Tx.yW {s with Ai:=Lg.Bs s.Ai,log:=g,hand:=0,txns:=[],next:=x}:=⟨by show 0≤g.end_;omega,by show g.end_≤_;omega,by show(g.tail.size:Int)≤g.end_;omega,by show g.end_%128≤(g.tail.size:Int);rw[List.append_nil]at v;omega,by show g.from_=1;omega,by show 0≤g.n;omega,by show g.n≤_;omega,m.s0,m.se⟩;refine⟨g,l,e,u.1,Xv l _ b.1,by omega,⟨z.zl,z.zp,E,I,m,by show g.n=_;omega,by show g.end_≤_;omega,c,by rw[Hu];exact O,⟨Int.le_refl _,(by decide:(0:Int)≤64)⟩,fun i o=>?_,fun i j o hj _ w _=>?_,by show 0≤800000;omega,fun t D=>by cases D⟩,⟨fun i o w=>?_,fun p _ J=>absurd rfl J,fun p _ J _=>absurd rfl J,fun _ _=>trivial⟩,⟨q,G,by omega,rfl,rfl,l,[],a⟩,fun y W=>?_⟩
 ·rw[Es o]
  exact⟨by decide,⟨Int.le_refl _,Int.le_refl _⟩,Jj,⟨Int.le_refl _,by show(0:Int)<(n:Int);omega⟩,fun h=>absurd rfl h,fun h=>absurd rfl h⟩
 ·rw[Full,Es o]at w;exact absurd rfl w
 ·rw[Full,Es o]at w;exact absurd rfl w
 ·obtain⟨i,o,rfl⟩:=List.getElem_of_mem W
  rw[Es o];exact Int.le_refl _
theorem pC (N M:Nat):Lg.Yt (Lg.Eu 1 N (Lg.Kp M)) []:=by
 refine⟨trivial,rfl,Nat.zero_le _,fun i _ _ a=>?_⟩;have d:∀ L:List ByteArray,(∀ b∈L,b=Lg.Cy)→∀ i,i<(Lg.flat L).length→(Lg.flat L)[i]? =some 0:=by
  intro L
  induction L with
  |nil=>intro _ i a;simp[Lg.flat]at a
  |cons b L ih=>
   intro c i a;have e:b.data.toList=List.replicate 128 0:=(by rw[c b (List.mem_cons_self ..)];unfold Lg.Cy;rfl);rw[Lg.E9,e]at a ⊢;rw[List.length_append,List.length_replicate]at a
   by_cases h:i<128
   ·rw[List.getElem?_append_left (by rw[List.length_replicate];exact h),List.getElem?_replicate,if_pos h]
   ·rw[List.getElem?_append_right (by rw[List.length_replicate];omega),List.length_replicate]
    exact ih (fun x f=>c x (List.mem_cons_of_mem _ f)) _ (by omega)
 refine d _ (fun b c=>?_) i a;have g:=List.mem_of_mem_drop (List.mem_of_mem_take c);exact(List.mem_replicate.1 g).2
theorem tV {N n k:Nat}(f:1≤n∧n≤60∧N≤3000)(j:10≤N)(l:1≤k∧k≤64):∃ R C,HJ N n 0 (By N n k) (Ed k) R C:=by
 have v:=Vo f j l;have u:=dC f j l;have w:=tM f j l;obtain⟨g,e,_⟩:=Rw f j l;have m:∀ p,¬ J4 (Ed k) p:=fun p ⟨i,o,q,_⟩=>by rw[Full,Es o]at q;exact q rfl
 have hlen:(Lg.Kp (1+N+4*n)).Ad.length=1+N+4*n:=by show(List.replicate _ Lg.Cy).length=_;rw[List.length_replicate]
 have x:Lg.F4 1 N (Lg.Kp (1+N+4*n)) ⟨1,N,0,0,⟨#[]⟩⟩ [] []:=Lg.F4.new (F:=1) (Lg.Sq _) (by omega);have y:LJ N [] (Lg.Kp (1+N+4*n)) ⟨1,N,0,0,⟨#[]⟩⟩:=⟨by show(-1:Int)≤-1;omega,[],[],[],x,rfl,Lg.N1.of (pC N _) ⟨[],rfl⟩⟩;obtain⟨z,_⟩:=y.app (r:=Rc.bare 1 0 0 1) (by show(Gp N).2.2=0;rw[e]);have a:¬ Mk n {Rc.bare 1 0 0 1 with lsn:=(0:Int)+1}:=fun h=>by
  have q:(1:Int)=2∨(1:Int)=3∨(1:Int)=8:=h.1;omega
 have c:Gx n Ly ([]++[{Rc.bare 1 0 0 1 with lsn:=(0:Int)+1}])=Ly:=by rw[M3,kU a];rfl
 refine⟨_,fun _=>Gj (0:Nat),v,w,⟨fun i o d=>by rw[Full,Es o]at d;exact absurd rfl d,fun p s _=>u.nm p s,fun p s _ t=>u.dk p s t,fun p t=>absurd t (m p)⟩,z,Zv trivial fun A=>absurd A a,fun p b d=>?_⟩;rw[c]at d
 cases d
end Go.Proofs.YtdfkambdagoojaaGreatDoor
