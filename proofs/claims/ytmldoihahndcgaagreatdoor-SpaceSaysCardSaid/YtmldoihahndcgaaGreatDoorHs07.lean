import Derived.Test.YtmldoihahndcgaaGreatDoorHs00
import Derived.Test.YtmldoihahndcgaaGreatDoorHs06
import Derived.Test.YtmldoihahndcgaaGreatDoorHs02
import Derived.Test.YtmldoihahndcgaaGreatDoorHs05
import Derived.Test.YtmldoihahndcgaaGreatDoorHs03
import Derived.Test.YtmldoihahndcgaaGreatDoorHs01
import Derived.Lib.Small
set_option maxRecDepth 100000
set_option maxHeartbeats 16000000
set_option linter.unusedSimpArgs false
namespace Go.Proofs.YtmldoihahndcgaaGreatDoor
open Go.RowKit Sc
theorem pZ (x:Pg.Cx):(⟨(Pg.C7 x).toArray⟩:ByteArray).size≤512:=by
 show(Pg.C7 x).toArray.size≤512
 by_cases h:512<Pg.A4 (Pg.trim x.recs)
 ·rw[Pg.Xv h];decide
 ·rw[List.size_toArray,Pg.Li (by omega)];exact Nat.le_refl _
theorem Zd (p:ByteArray)(n:Int):(Bg p n).size≤512:=by
 unfold Bg
 split
 ·decide
 ·exact pZ _
theorem fC {b:ByteArray}(h:Bk b=true):b≠⟨#[]⟩:=fun e=>by
 have a:=Gk h;rw[e]at a;exact absurd a (by decide)
theorem fD {b:ByteArray}{l:Int}(h:Bk b=true)(a:Rc.num l):Bk (Bg b l)=true:=by
 have d:=a.1;have c:=(Mg h (l:=l.toNat) (by have:=a.2;omega)).1.is
 rwa[show((l.toNat:Nat):Int)=l from by omega]at c
theorem rW {b:ByteArray}(h:Bk b=true):Bk (Mw b)=true:=(rR h).1.is
structure fE (n B:Nat) (f:Fr):Prop where
 sz:f.bytes.size≤512
 pn:0≤f.pins∧f.pins≤(B:Int)
 rc:Rc.num f.rc
 pg:0≤f.Ac∧f.Ac<(n:Int)
 is:Full f→Bk f.bytes=true
 rz:f.rc≠0→Full f
structure Wf (N n B:Nat) (s:Tx.St) (fs:List Fr):Prop where
 zl:s.zlog=(N:Int)
 zp:s.zpages=(n:Int)
 n1:1≤n∧n≤60∧N≤3000
 lb:Tx.Y4 s
 al:Lg.Al s.log
 ln:s.log.n=(N:Int)
 ef:s.log.end_≤(N:Int)*128
 dk:Tj (1+N+4*n) s.As
 nf:1≤fs.length∧fs.length≤64
 hd:0≤s.hand∧s.hand≤64
 fr:∀ i (h:i<fs.length),fE n B fs[i]
 ds:∀ i j (hi:i<fs.length) (hj:j<fs.length),i≠j→Full fs[i]→Full fs[j]→fs[i].Ac≠fs[j].Ac
 tl:s.txns.length≤800000
 tx:∀ t∈s.txns,Rc.I0 t
theorem fE.set {n B:Nat}{fs:List Fr}(h:∀ i (h:i<fs.length),fE n B fs[i])(k:Nat){f:Fr}(b:fE n B f):∀ i (h:i<(fs.set k f).length),fE n B (fs.set k f)[i]:=fun i c=>by
 rcases Gu fs k f i c with⟨_,e⟩|⟨_,a,e⟩
 ·rw[e];exact b
 ·rw[e];exact h i a
theorem rX {fs:List Fr}(h:∀ i j (hi:i<fs.length) (hj:j<fs.length),i≠j→Full fs[i]→Full fs[j]→fs[i].Ac≠fs[j].Ac)(k:Nat)(f:Fr)(o:Full f→∀ j (hj:j<fs.length),j≠k→Full fs[j]→f.Ac≠fs[j].Ac):
 ∀ i j (hi:i<(fs.set k f).length) (hj:j<(fs.set k f).length),i≠j→Full (fs.set k f)[i]→Full (fs.set k f)[j]→(fs.set k f)[i].Ac≠(fs.set k f)[j].Ac:=fun i j hi hj d b c=>by
 rcases Gu fs k f i hi with⟨m,e⟩|⟨m,g,e⟩<;>rcases Gu fs k f j hj with⟨n,a⟩|⟨n,l,a⟩
 ·exact absurd (m.trans n.symm) d
 ·rw[e,a];rw[e]at b;rw[a]at c;exact o b j l n c
 ·rw[e,a];rw[e]at b;rw[a]at c;exact fun p=>o c i g m b p.symm
 ·rw[e,a];rw[e]at b;rw[a]at c;exact h i j g l d b c
theorem Wf.put {N n B:Nat}{s:Tx.St}{fs:List Fr}(h:Wf N n B s fs)(k:Nat){f:Fr}(a:fE n B f)(b:Full f→∀ j (hj:j<fs.length),j≠k→Full fs[j]→f.Ac≠fs[j].Ac):Wf N n B s (fs.set k f):=
 ⟨h.zl,h.zp,h.n1,h.lb,h.al,h.ln,h.ef,h.dk,by rw[List.length_set];exact h.nf,h.hd,fE.set h.fr k a,rX h.ds k f b,h.tl,h.tx⟩
theorem Wf.set {N n B:Nat}{s:Tx.St}{fs:List Fr}(h:Wf N n B s fs){k:Nat}(hk:k<fs.length){f:Fr}(c:fE n B f)(d:f.Ac=fs[k].Ac)(g:Full f→Full fs[k]):Wf N n B s (fs.set k f):=
 h.put k c fun i j l a b=>by rw[d];exact h.ds k j hk l (fun e=>a e.symm) (g i) b
theorem fE.mark {n B:Nat}{f:Fr}(h:fE n B f)(m:Bool):fE n B {f with mark:=m}:=⟨h.sz,h.pn,h.rc,h.pg,h.is,h.rz⟩
theorem Ka:Rc.num 0:=⟨by decide,by decide⟩
theorem fE.clean {n B:Nat}{f:Fr}(h:fE n B f):fE n B {f with rc:=0}:=⟨h.sz,h.pn,Ka,h.pg,h.is,fun h=>absurd rfl h⟩
theorem Wf.marks {N n B:Nat}{s:Tx.St}{fs fs':List Fr}(h:Wf N n B s fs)(a:Qt fs fs'):Wf N n B s fs':=
 have g:=a.len
 ⟨h.zl,h.zp,h.n1,h.lb,h.al,h.ln,h.ef,h.dk,by rw[g];exact h.nf,h.hd,fun i b=>by rw[a.at_ i (by omega) b];exact(h.fr i (by omega)).mark _,fun i j b k c d f=>by
   have e:=a.at_ i (by omega) b;have l:=a.at_ j (by omega) k;rw[e]at d ⊢;rw[l]at f ⊢;exact h.ds i j (by omega) (by omega) c d f,h.tl,h.tx⟩
theorem Wf.hand {N n B:Nat}{s:Tx.St}{fs:List Fr}(h:Wf N n B s fs){x:Int}(a:0≤x∧x≤64):Wf N n B {s with hand:=x} fs:=
 ⟨h.zl,h.zp,h.n1,⟨h.lb.e0,h.lb.e1,h.lb.t0,h.lb.t1,h.lb.f,h.lb.n0,h.lb.n1,h.lb.s0,h.lb.s1⟩,h.al,h.ln,h.ef,h.dk,h.nf,a,h.fr,h.ds,h.tl,h.tx⟩
theorem Wf.As {N n B:Nat}{s:Tx.St}{fs:List Fr}(h:Wf N n B s fs){d:Lg.Dk}(a:Tj (1+N+4*n) d):Wf N n B {s with As:=d} fs:=
 ⟨h.zl,h.zp,h.n1,⟨h.lb.e0,h.lb.e1,h.lb.t0,h.lb.t1,h.lb.f,h.lb.n0,h.lb.n1,h.lb.s0,h.lb.s1⟩,h.al,h.ln,h.ef,a,h.nf,h.hd,h.fr,h.ds,h.tl,h.tx⟩
structure cN (N:Nat) (l:Lg.Lo):Prop where
 e0:0≤l.end_
 ef:l.end_≤(N:Int)*128
 t0:(l.tail.size:Int)≤l.end_
 t1:l.end_%128≤(l.tail.size:Int)
 f:l.from_=1
 n:l.n=(N:Int)
 al:Lg.Al l
theorem Wf.low {N n B:Nat}{s:Tx.St}{fs:List Fr}(h:Wf N n B s fs):cN N s.log:=⟨h.lb.e0,h.ef,h.lb.t0,h.lb.t1,h.lb.f,h.ln,h.al⟩
theorem Wf.log {N n B:Nat}{s:Tx.St}{fs:List Fr}(h:Wf N n B s fs){l:Lg.Lo}(a:cN N l):Wf N n B {s with log:=l} fs:=by
 have b:=h.n1.2.2;have c:=a.ef;have d:=a.n;exact⟨h.zl,h.zp,h.n1,⟨a.e0,by show l.end_≤_;omega,a.t0,a.t1,a.f,by show 0≤l.n;omega,by show l.n≤_;omega,a.al.s0,a.al.se⟩,a.al,a.n,a.ef,h.dk,h.nf,h.hd,h.fr,h.ds,h.tl,h.tx⟩
theorem cN.forced {N:Nat}{l:Lg.Lo}(h:cN N l):cN N (Lg.Il l):=by
 have b:=h.e0;have c:=h.t1;have a:((Lg.Il l).tail.size:Int)=l.end_%128:=by
  unfold Lg.Il
  show((l.tail.extract (l.tail.size-(l.end_%128).toNat) l.tail.size).size:Int)=_
  rw[ByteArray.size_extract];omega
 refine⟨b,h.ef,?_,?_,h.f,h.n,⟨b,Int.le_refl _,?_⟩⟩
 ·rw[a];show _≤l.end_;omega
 ·rw[a];exact Int.le_refl _
 ·rw[a];rfl
theorem cN.force {N:Nat}{l:Lg.Lo}(h:cN N l)(d:Lg.Dk):cN N (Lg.Az d l).2.1:=by
 unfold Lg.Az
 split
 ·exact h
 ·simp only
  split
  ·exact h.forced
  ·exact h
theorem cN.append {N:Nat}{l:Lg.Lo}(h:cN N l)(r:Rc.Rec):cN N (Lg.Aw l r).1:=by
 have a:=Tx.iN r h.al
 revert a
 unfold Lg.Aw;simp only
 split
 ·intro _;exact h
 ·split
  ·intro _;exact h
  ·rename_i d
   intro a;have e:=h.e0;have g:=h.t0;have i:=h.t1;have b:=h.n;have c:(⟨(Lg.D8 {r with lsn:=l.end_+1}).toArray⟩:ByteArray).size=(Lg.D8 {r with lsn:=l.end_+1}).length:=(by show(Lg.D8 {r with lsn:=l.end_+1}).toArray.size=_;simp);rw[b]at d;refine⟨?_,?_,?_,?_,h.f,b,a⟩
   ·show 0≤l.end_+_;omega
   ·show l.end_+_≤_;omega
   ·show((l.tail++_).size:Int)≤l.end_+_;rw[ByteArray.size_append,c];omega
   ·show(l.end_+_)%128≤((l.tail++_).size:Int);rw[ByteArray.size_append,c];omega
theorem Wf.force {N n B:Nat}{s:Tx.St}{fs:List Fr}(h:Wf N n B s fs):Wf N n B {s with As:=(Lg.Az s.As s.log).1,log:=(Lg.Az s.As s.log).2.1} fs:=
 (h.log (h.low.force s.As)).As (h.dk.force s.log)
theorem Uj {N n B:Nat}{s:Tx.St}{fs:List Fr}(h:Wf N n B s fs){p:Int}(b:0≤p∧p<(n:Int)):Ef s p+4≤1+N+4*n∧((Ef s p:Nat):Int)=1+s.zlog+4*p:=by
 have a:=h.zl;unfold Ef;rw[a];omega
theorem Wf.flush {N n B:Nat}{s:Tx.St}{fs:List Fr}(h:Wf N n B s fs){k:Nat}(hk:k<fs.length):Wf N n B (C6 s fs k).s (C6 s fs k).fs∧(C6 s fs k).fs.length=fs.length:=by
 have c:=h.force;have d:=fun a b=>c.As (Tj.Gy c.dk a b 4);unfold C6
 split
 ·exact⟨h,rfl⟩
 ·split
  ·exact⟨c,rfl⟩
  ·split
   ·exact⟨d _ _,rfl⟩
   ·rw[Cg hk]
    exact⟨(d _ _).set hk (h.fr k hk).clean rfl fun h=>h,List.length_set⟩
theorem I6 (n:Nat)(hn:0<n):∀ (j a:Nat) (fs0 fs:List Fr) (k:Nat) (fs':List Fr),fs.length=n→a<n→Qt fs0 fs→Fu n j a fs=some (k,fs')→k<n∧Qt fs0 fs'∧¬ 0<(Dc fs' k).pins
 |0,_,_,_,_,_,_,_,_,h=>by cases h
 |j+1,a,fs0,fs,k,fs',hl,ha,hm,h=>by
  unfold Fu at h
  split at h
  ·exact I6 n hn j _ fs0 fs k fs' hl (Nat.mod_lt _ hn) hm h
  ·split at h
   ·rw[Cg (show a<fs.length by omega)]at h
    exact I6 n hn j _ fs0 _ k fs' (by rw[List.length_set];exact hl) (Nat.mod_lt _ hn) (hm.set (by omega) false) h
   ·rename_i h1 _
    injection h with h
    injection h with e1 e2
    subst e1 e2;exact⟨ha,hm,h1⟩
theorem Wf.room {N n B:Nat}{s:Tx.St}{fs:List Fr}(h:Wf N n B s fs):Wf N n B (Bl s fs).1.s (Bl s fs).1.fs∧(Bl s fs).1.fs.length=fs.length∧(Bl s fs).2<fs.length:=by
 have i:=h.nf;unfold Bl
 split
 ·rename_i k hk
  refine⟨h,rfl,?_⟩;unfold Lt at hk;exact(List.findIdx?_eq_some_iff_getElem.1 hk).1
 ·split
  ·exact⟨h,rfl,by show 0<fs.length;omega⟩
  ·rename_i k a c
   obtain⟨d,b,_⟩:=I6 fs.length (by omega) _ _ fs fs k a rfl (Nat.mod_lt _ (by omega)) (Qt.refl fs) c;have e:=b.len;have j:(k+1)%fs.length<fs.length:=Nat.mod_lt _ (by omega);obtain⟨f,g⟩:=((h.hand (x:=(((k+1)%fs.length:Nat):Int)) (by omega)).marks b).flush (k:=k) (by omega);exact⟨f,g.trans e,d⟩
theorem jG (s:Tx.St)(fs:List Fr){k:Nat}(hk:k<fs.length):Mi fs (C6 s fs k).fs:=by
 unfold C6
 split
 ·exact Mi.refl fs
 ·split
  ·exact Mi.refl fs
  ·split
   ·exact Mi.refl fs
   ·rw[Cg hk]
    exact Mi.set fs k hk _ rfl rfl
theorem nP {N n B:Nat}{s:Tx.St}{fs:List Fr}(h:Wf N n B s fs):Mi fs (Bl s fs).1.fs:=by
 have d:=h.nf;unfold Bl
 split
 ·exact Mi.refl fs
 ·split
  ·exact Mi.refl fs
  ·rename_i k a c
   obtain⟨e,b,_⟩:=I6 fs.length (by omega) _ _ fs fs k a rfl (Nat.mod_lt _ (by omega)) (Qt.refl fs) c;exact(Mi.marks b).trans (jG _ _ (by have:=b.len;omega)) b.len
theorem cO {fs:List Fr}{p:Int}(h:Ww fs p=none):∀ j (hj:j<fs.length),Full fs[j]→fs[j].Ac≠p:=fun j hj b e=>by
 unfold Ww at h;have a:=List.findIdx?_eq_none_iff.1 h fs[j] (List.getElem_mem hj);simp only[decide_eq_false_iff_not]at a;exact a ⟨b,e⟩
theorem Wf.back {N n B:Nat}{s:Tx.St}{fs:List Fr}(h:Wf N n B s fs){x:Px}(a:Wf N n B x.s x.fs)(b:x.fs.length=fs.length):Wf N n B (Gz s fs x).s (Gz s fs x).fs∧(Gz s fs x).fs.length=fs.length:=by
 unfold Gz
 split
 ·exact⟨a,b⟩
 ·exact⟨h,rfl⟩
theorem qA (s:Tx.St)(p:Int)(h:(Es s p).2=0):Bk (Es s p).1=true:=by
 unfold Es at h ⊢
 split
 ·rename_i b;rw[if_pos b]at h;exact absurd h (by decide)
 ·split
  ·exact(Im 0 (by omega)).1.is
  ·split
   ·rename_i a
    unfold Hn at a;rw[Bool.and_eq_true]at a;exact rW a.1
   ·rename_i b c a
    rw[if_neg b,if_neg c,if_neg a]at h;exact absurd h (by decide)
theorem qB (s:Tx.St)(p:Int):(Es s p).1.size≤512:=by
 unfold Es
 split
 ·decide
 ·split
  ·exact Nat.le_of_eq (Im 0 (by omega)).1.size
  ·split
   ·exact Zd _ _
   ·decide
theorem nQ {fs:List Fr}{p:Int}{k:Nat}(h:Ww fs p=some k):∃ hk:k<fs.length,Full fs[k]∧fs[k].Ac=p:=by
 unfold Ww at h;obtain⟨a,b,_⟩:=List.findIdx?_eq_some_iff_getElem.1 h;exact⟨a,by simpa using b⟩
theorem Wf.held {N n B:Nat}{s:Tx.St}{fs:List Fr}(h:Wf N n B s fs)(p:Int):Wf N n B (Bf s fs p).1.s (Bf s fs p).1.fs∧(Bf s fs p).1.fs.length=fs.length∧(Bf s fs p).2<fs.length∧
 ((Bf s fs p).1.e=0→(0≤p∧p<(n:Int))∧Full (Dc (Bf s fs p).1.fs (Bf s fs p).2)∧(Dc (Bf s fs p).1.fs (Bf s fs p).2).Ac=p):=by
 have a:=h.nf;have C:=h.zp;have l:0<fs.length:=by omega
 by_cases c:Nd s p
 ·have b:0≤p∧p<(n:Int):=by unfold Nd at c;omega
  cases d:Ww fs p with
  |some k=>
   have e:Bf s fs p=(⟨s,fs.set k {Dc fs k with mark:=true},0⟩,k):=by
    unfold Bf;rw[if_neg (fun a=>a c),d]
   rw[e];obtain⟨hk,v,w⟩:=nQ d;rw[Cg hk];refine⟨h.set hk ((h.fr k hk).mark true) rfl fun h=>h,List.length_set,hk,fun _=>⟨b,?_⟩⟩;simp only;rw[Cg (by rw[List.length_set];exact hk),List.getElem_set_self];exact⟨v,w⟩
  |none=>
   by_cases f:(Es s p).2=0
   ·obtain⟨r,i,t⟩:=h.room
    by_cases m:(Bl s fs).1.e=0
    ·have e:Bf s fs p=(⟨(Bl s fs).1.s,(Bl s fs).1.fs.set (Bl s fs).2 ⟨p,(Es s p).1,0,true,0⟩,0⟩,(Bl s fs).2):=by
      unfold Bf;rw[if_neg (fun a=>a c),d];simp only;rw[if_neg (fun a=>a f),if_pos m]
     rw[e];have u:=qA s p f;have o:=fC u;refine⟨r.put _ ⟨qB s p,⟨Int.le_refl _,by show(0:Int)≤(B:Int);omega⟩,Ka,b,fun _=>u,fun h=>absurd rfl h⟩ (fun _ j x _ q=>fun y=>(nP h).none_ i (cO d) j x q y.symm),by rw[List.length_set];exact i,t,fun _=>⟨b,?_⟩⟩;simp only;rw[Cg (by rw[List.length_set,i];exact t),List.getElem_set_self];exact⟨o,rfl⟩
    ·have e:Bf s fs p=(Gz s fs (Bl s fs).1,0):=by
      unfold Bf;rw[if_neg (fun a=>a c),d];simp only;rw[if_neg (fun a=>a f),if_neg m]
     rw[e];obtain⟨z,A⟩:=h.back r i;refine⟨z,A,l,fun g=>absurd g ?_⟩;unfold Gz;simp only
     split<;>exact m
   ·have e:Bf s fs p=(⟨s,fs,(Es s p).2⟩,0):=by
     unfold Bf;rw[if_neg (fun a=>a c),d];simp only;rw[if_pos f]
    rw[e];exact⟨h,rfl,l,fun g=>absurd g f⟩
 ·have e:Bf s fs p=(⟨s,fs,1⟩,0):=by unfold Bf;rw[if_pos c]
  rw[e];exact⟨h,rfl,l,fun g=>absurd g (by show ¬ (1:Int)=0;decide)⟩
theorem Sk {N:Nat}{l:Lg.Lo}(h:cN N l)(a:N≤3000)(r:Rc.Rec):Rc.num (Lg.Aw l r).2.1:=by
 have b:=h.e0;have c:=h.ef;unfold Lg.Aw;simp only
 split
 ·exact Ka
 ·split
  ·exact Ka
  ·exact⟨by show 0≤l.end_+1;omega,by show l.end_+1<_;omega⟩
theorem Uk {l:Lg.Lo}{r:Rc.Rec}(h:(Lg.Aw l r).2.2=0):Rc.Bs {r with lsn:=l.end_+1}∧(Lg.Aw l r).2.1=l.end_+1:=by
 unfold Lg.Aw at h ⊢;simp only at h ⊢
 split at h
 ·exact absurd h (by show ¬ (1:Int)=0;decide)
 ·rename_i a
  split at h
  ·exact absurd h (by show ¬ (18:Int)=0;decide)
  ·rename_i b
   rw[if_neg a,if_neg b];exact⟨Classical.byContradiction fun c=>a c,rfl⟩
theorem cP {r:Rc.Rec}(h:Rc.Bs r)(hk:r.kind=3):Rc.num r.next:=by
 cases h with
 |small kind a prev b g c d f=>exact Ka
 |change a prev b Ac op how root e c d f h4 h5 h6=>exact absurd hk (by show ¬ (2:Int)=3;decide)
 |clr a prev b Ac op next c d f h4 h5 h6=>exact h6
 |nest a prev b next c d f h6=>exact h6
 |image a prev b Ac op c d f h4 h5=>exact absurd hk (by show ¬ (8:Int)=3;decide)
 |check a prev b n ts ds c d f h4 h5=>exact absurd hk (by show ¬ (9:Int)=3;decide)
theorem Jk {a:List Rc.A9}{i:Nat}(h:i<a.length):Fq a i=a[i]:=by unfold Fq;rw[List.getElem?_eq_getElem h];rfl
theorem Wf.vA {N n B:Nat}{s:Tx.St}{fs:List Fr}(h:Wf N n B s fs){x:Px}(d:Wf N n B x.s x.fs)(y:x.fs.length=fs.length){k i:Nat}(hk:k<x.fs.length)(hi:i<x.s.txns.length)(r:Rc.Rec){b:ByteArray}(o:Bk b=true)(p:Full (Dc x.fs k)):
 Wf N n B (Tq x k i s fs r b).s (Tq x k i s fs r b).fs∧(Tq x k i s fs r b).fs.length=fs.length:=by
 have q:=h.n1.2.2;rw[Cg hk]at p;have g:cN N (Fp x.s (Dc x.fs k) r.Ac).1∧Rc.num (Fp x.s (Dc x.fs k) r.Ac).2.1:=by
  unfold Fp
  split
  ·exact⟨d.low.append _,Sk d.low q _⟩
  ·rw[Cg hk]
   exact⟨d.low,(d.fr k hk).rc⟩
 unfold Tq;simp only;generalize Fp x.s (Dc x.fs k) r.Ac=m at g ⊢
 split
 ·exact⟨h,rfl⟩
 ·have u:=g.1.append {r with prev:=(Fq x.s.txns i).last}
  have e:=Sk g.1 q {r with prev:=(Fq x.s.txns i).last};have v:=Uk (l:=m.1) (r:={r with prev:=(Fq x.s.txns i).last});generalize Lg.Aw m.1 {r with prev:=(Fq x.s.txns i).last}=a at u e v ⊢
  split
  ·exact⟨h,rfl⟩
  ·rename_i z
   have j:=(v (Classical.byContradiction fun A=>z A)).1;have C:=d.log u;have w:=d.fr k hk;rw[Cg hk];have c:=C.set hk (f:=⟨x.fs[k].Ac,Bg b a.2.1,x.fs[k].pins,true,m.2.1⟩) ⟨Zd _ _,w.pn,g.2,w.pg,fun _=>fD o e,fun _=>fC (fD o e)⟩ rfl (fun _=>p);refine⟨⟨c.zl,c.zp,c.n1,⟨c.lb.e0,c.lb.e1,c.lb.t0,c.lb.t1,c.lb.f,c.lb.n0,c.lb.n1,c.lb.s0,c.lb.s1⟩,c.al,c.ln,c.ef,c.dk,c.nf,c.hd,c.fr,c.ds,by show(x.s.txns.set _ _).length≤_;rw[List.length_set];exact d.tl,fun t D=>?_⟩,by simp only;rw[List.length_set];exact y⟩;rcases List.mem_or_eq_of_mem_set D with h1|h1
   ·exact d.tx t h1
   ·rw[h1,Jk hi]
    refine⟨(d.tx _ (List.getElem_mem hi)).1,e,?_⟩
    show Rc.num (if r.kind=3 then r.next else a.2.1)
    split
    ·rename_i E
     exact(show Rc.num r.next from cP (r:={({r with prev:=(Fq x.s.txns i).last}:Rc.Rec)with lsn:=m.1.end_+1}) j E)
    ·exact e
theorem cQ (s:Tx.St)(fs:List Fr)(k:Nat):(C6 s fs k).s.txns=s.txns∧(C6 s fs k).s.next=s.next:=by
 unfold C6
 split
 ·exact⟨rfl,rfl⟩
 ·split
  ·exact⟨rfl,rfl⟩
  ·split<;>exact⟨rfl,rfl⟩
theorem Ul (s:Tx.St)(fs:List Fr):(Bl s fs).1.s.txns=s.txns∧(Bl s fs).1.s.next=s.next:=by
 unfold Bl
 split
 ·exact⟨rfl,rfl⟩
 ·split
  ·exact⟨rfl,rfl⟩
  ·exact cQ _ _ _
theorem jH {s:Tx.St}{fs:List Fr}{x:Px}(h:x.s.txns=s.txns∧x.s.next=s.next):(Gz s fs x).s.txns=s.txns∧(Gz s fs x).s.next=s.next:=by
 unfold Gz
 split
 ·exact h
 ·exact⟨rfl,rfl⟩
theorem Pd (s:Tx.St)(fs:List Fr)(p:Int):(Bf s fs p).1.s.txns=s.txns∧(Bf s fs p).1.s.next=s.next:=by
 unfold Bf
 split
 ·exact⟨rfl,rfl⟩
 ·split
  ·exact⟨rfl,rfl⟩
  ·split
   ·exact⟨rfl,rfl⟩
   ·split
    ·exact Ul s fs
    ·exact jH (Ul s fs)
theorem Wf.change {N n B:Nat}{s:Tx.St}{fs:List Fr}(h:Wf N n B s fs)(r:Rc.Rec)(D:ByteArray→ByteArray×Int)(k:∀ q,(D q).2=0→Bk (D q).1=true):Wf N n B (Cn s fs r D).s (Cn s fs r D).fs∧(Cn s fs r D).fs.length=fs.length:=by
 obtain⟨a,b,l,g⟩:=h.held r.Ac;have j:=(Pd s fs r.Ac).1;unfold Cn
 split
 ·exact⟨h,rfl⟩
 ·split
  ·exact⟨h,rfl⟩
  ·rename_i i m
   have c:=(List.findIdx?_eq_some_iff_getElem.1 m).1;generalize Bf s fs r.Ac=x at a b l g j ⊢
   split
   ·exact⟨a,b⟩
   ·rename_i o
    have d:x.1.e=0:=Classical.byContradiction fun f=>o f
    split
    ·exact⟨h,rfl⟩
    ·rename_i p
     exact h.vA a b (by omega) (by rw[j];exact c) r (k _ (Classical.byContradiction fun f=>p f)) (g d).2.1
structure tX (n:Nat) (fs:List Fr) (C:Nat→ByteArray):Prop where
 at_:∀ i (hi:i<fs.length),Full fs[i]→∃ p:Nat,p<n∧fs[i].Ac=(p:Int)∧fs[i].bytes=C p
 ds:∀ i j (hi:i<fs.length) (hj:j<fs.length),i≠j→Full fs[i]→Full fs[j]→fs[i].Ac≠fs[j].Ac
structure PQ (N n:Nat) (s:Tx.St) (fs:List Fr) (C:Nat→ByteArray):Prop where
 zl:s.zlog=(N:Int)
 zp:s.zpages=(n:Int)
 pw:Pw N (1+N+4*n) s.As s.log
 fr:tX n fs C
 nm:∀ p,p<n→Mo (C p)
 dk:∀ p,p<n→¬ Pc fs p→Lay N s.As p (C p)
theorem tX.set {n:Nat}{fs:List Fr}{C C':Nat→ByteArray}(h:tX n fs C)(k:Nat)(f:Fr)
 (t:Full f→∃ p:Nat,p<n∧f.Ac=(p:Int)∧f.bytes=C' p) (r:Full f→∀ j (hj:j<fs.length),j≠k→Full fs[j]→f.Ac≠fs[j].Ac)
 (hC:∀ j (hj:j<fs.length) (p:Nat),j≠k→Full fs[j]→fs[j].Ac=(p:Int)→C' p=C p):tX n (fs.set k f) C':=by
 refine⟨fun i m a=>?_,fun i j m hj g a d=>?_⟩
 ·rcases Gu fs k f i m with⟨_,e⟩|⟨u,b,e⟩
  ·rw[e]at a ⊢;exact t a
  ·rw[e]at a ⊢
   obtain⟨p,v,s,w⟩:=h.at_ i b a;exact⟨p,v,s,by rw[w,hC i b p u a s]⟩
 ·rcases Gu fs k f i m with⟨o,e⟩|⟨o,b,e⟩<;>rcases Gu fs k f j hj with⟨q,c⟩|⟨q,l,c⟩
  ·exact absurd (o.trans q.symm) g
  ·rw[e,c];rw[e]at a;rw[c]at d;exact r a j l q d
  ·rw[e,c];rw[e]at a;rw[c]at d;exact fun x=>r d i b o a x.symm
  ·rw[e,c];rw[e]at a;rw[c]at d;exact h.ds i j b l g a d
theorem PQ.same {N n:Nat}{s:Tx.St}{fs:List Fr}{C:Nat→ByteArray}(h:PQ N n s fs C){k:Nat}(hk:k<fs.length){f:Fr}(g:f.Ac=fs[k].Ac)(i:f.bytes=fs[k].bytes)(q:f.rc=fs[k].rc):PQ N n s (fs.set k f) C:=by
 have o:Full f→Full fs[k]:=fun d=>by unfold Full at d ⊢;rw[← i];exact d
 exact⟨h.zl,h.zp,h.pw,
  h.fr.set k f (fun d=>by rw[g,i];exact h.fr.at_ k hk (o d)) (fun d j r l m=>by rw[g];exact h.fr.ds k j hk r (fun e=>l e.symm) (o d) m) (fun _ _ _ _ _ _=>rfl),
  h.nm,fun p t u=>h.dk p t fun v=>u (v.set hk fun a b c=>⟨by unfold Full at a ⊢;rw[i];exact a,g.trans b,by rw[q];exact c⟩)⟩
theorem PQ.marks {N n:Nat}{s:Tx.St}{fs a:List Fr}{C:Nat→ByteArray}(h:PQ N n s fs C)(b:Qt fs a):PQ N n s a C:=by
 have r:=b.len;refine⟨h.zl,h.zp,h.pw,⟨fun i d c=>?_,fun i j d k f c g=>?_⟩,h.nm,fun p l m=>h.dk p l fun o=>m (o.marks b)⟩
 ·have e:=b.at_ i (by omega) d
  rw[e]at c ⊢;exact h.fr.at_ i (by omega) c
 ·have e:=b.at_ i (by omega) d
  have q:=b.at_ j (by omega) k;rw[e]at c ⊢;rw[q]at g ⊢;exact h.fr.ds i j (by omega) (by omega) f c g
theorem PQ.hand {N n:Nat}{s:Tx.St}{fs:List Fr}{C:Nat→ByteArray}(h:PQ N n s fs C)(x:Int):PQ N n {s with hand:=x} fs C:=⟨h.zl,h.zp,h.pw,h.fr,h.nm,h.dk⟩
theorem PQ.load {N n:Nat}{s:Tx.St}{fs:List Fr}{C:Nat→ByteArray}(h:PQ N n s fs C){k:Nat}(hk:k<fs.length){p:Nat}(d:p<n)(f:Full fs[k]→fs[k].rc=0)(b:∀ j (hj:j<fs.length),Full fs[j]→fs[j].Ac≠(p:Int)):PQ N n s (fs.set k ⟨(p:Int),C p,0,true,0⟩) C:=
 ⟨h.zl,h.zp,h.pw,
   h.fr.set k _ (fun _=>⟨p,d,rfl,rfl⟩) (fun _ j hj _ g e=>b j hj g e.symm) (fun _ _ _ _ _ _=>rfl),
   h.nm,fun q i l=>h.dk q i fun m=>l (m.set hk fun a _ c=>absurd (f a) c)⟩
theorem PQ.force {N n:Nat}{s:Tx.St}{fs:List Fr}{C:Nat→ByteArray}(h:PQ N n s fs C):(Lg.Az s.As s.log).2.2=0∧PQ N n {s with As:=(Lg.Az s.As s.log).1,log:=(Lg.Az s.As s.log).2.1} fs C∧(Lg.Az s.As s.log).2.1.end_=s.log.end_:=by
 obtain⟨d2,g2,e,c,d,f⟩:=h.pw.force;rw[e];refine⟨rfl,⟨h.zl,h.zp,c,h.fr,h.nm,fun p g i=>?_⟩,d⟩;have b:F1 d2 (1+N+4*p)=F1 s.As (1+N+4*p):=Pb fun j l _=>f j (by omega);rcases h.dk p g i with a|⟨a,k⟩
 ·exact .inl (b.trans a)
 ·exact .inr ⟨b.trans a,k⟩
theorem nR {N M:Nat}{d:Lg.Dk}{g:Lg.Lo}(h:Pw N M d g){a:Nat}{b:ByteArray}(c:b.size=512)(l:1+N≤a)(m:a+4≤M):Gy d a b 4=(Mp d a b,0):=by
 obtain⟨n,o⟩:=h.write (Fm c (i:=0) (by omega)) l (by omega);obtain⟨p,q⟩:=o.write (Fm c (i:=1) (by omega)) (i:=a+1) (by omega) (by omega);obtain⟨r,s⟩:=q.write (Fm c (i:=2) (by omega)) (i:=a+2) (by omega) (by omega);obtain⟨t,u⟩:=s.write (Fm c (i:=3) (by omega)) (i:=a+3) (by omega) (by omega);have e:Gy d a b 1=({d with sectors:=d.sectors.set a (Fh b 0)},0):=by
  rw[I5 (k:=0) rfl];exact n
 have f:Gy d a b 2=({d with sectors:=(d.sectors.set a (Fh b 0)).set (a+1) (Fh b 1)},0):=by
  rw[I5 (k:=1) (by rw[e]),e];exact p
 have j:Gy d a b 3=({d with sectors:=((d.sectors.set a (Fh b 0)).set (a+1) (Fh b 1)).set (a+2) (Fh b 2)},0):=by
  rw[I5 (k:=2) (by rw[f]),f];exact r
 rw[I5 (k:=3) (by rw[j]),j];exact t
theorem PQ.sec {N n:Nat}{s:Tx.St}{fs:List Fr}{C:Nat→ByteArray}(h:PQ N n s fs C)(p:Nat):Ef s (p:Int)=1+N+4*p:=by
 unfold Ef;rw[h.zl];omega
theorem PQ.put {N n:Nat}{s:Tx.St}{fs:List Fr}{C:Nat→ByteArray}(h:PQ N n s fs C){k:Nat}(hk:k<fs.length){p:Nat}(m:p<n)(c:fs[k].Ac=(p:Int)):
 PQ N n {s with As:=Mp s.As (1+N+4*p) (Dn (C p))} (fs.set k {fs[k]with rc:=0}) C:=by
 have i:=(Gb (h.nm p m).is).2.2.2;have o:=h.pw.len;refine⟨h.zl,h.zp,h.pw.Ac i (by omega) (by omega),
  h.fr.set k _ (fun d=>h.fr.at_ k hk d) (fun r j t f d=>h.fr.ds k j hk t (fun e=>f e.symm) r d) (fun _ _ _ _ _ _=>rfl),
  h.nm,fun q u v=>?_⟩
 by_cases a:q=p
 ·subst a
  exact .inl (fB i (by rw[o];omega))
 ·have l:=Zc s.As (1+N+4*p) (1+N+4*q) (Dn (C p)) (by omega)
  have w:¬ Pc fs q:=fun x=>v (x.set hk fun _ b _=>absurd (Int.ofNat.inj (b.symm.trans c)) a);rcases h.dk q u w with g|⟨g,y⟩
  ·exact .inl (l.trans g)
  ·exact .inr ⟨l.trans g,y⟩
structure Kp (s s':Tx.St):Prop where
 tx:s'.txns=s.txns
 nx:s'.next=s.next
 en:s'.log.end_=s.log.end_
 zf:s'.zframes=s.zframes
theorem Kp.refl (s:Tx.St):Kp s s:=⟨rfl,rfl,rfl,rfl⟩
theorem Kp.trans {s t u:Tx.St}(h:Kp s t)(k:Kp t u):Kp s u:=⟨k.tx.trans h.tx,k.nx.trans h.nx,k.en.trans h.en,k.zf.trans h.zf⟩
theorem PQ.flush {N n:Nat}{s:Tx.St}{fs:List Fr}{C:Nat→ByteArray}(h:PQ N n s fs C){k:Nat}(hk:k<fs.length)(i:fs[k].rc≠0→Full fs[k]):
 (C6 s fs k).e=0∧PQ N n (C6 s fs k).s (C6 s fs k).fs C∧Kp s (C6 s fs k).s∧Mi fs (C6 s fs k).fs∧(C6 s fs k).fs.length=fs.length∧(Dc (C6 s fs k).fs k).rc=0:=by
 by_cases b:fs[k].rc=0
 ·have e:C6 s fs k=⟨s,fs,0⟩:=by unfold C6;rw[Cg hk,if_pos b]
  rw[e];exact⟨rfl,h,Kp.refl s,Mi.refl fs,rfl,by rw[Cg hk];exact b⟩
 ·obtain⟨p,f,g,j⟩:=h.fr.at_ k hk (i b)
  obtain⟨f1,f2,f3⟩:=h.force;have c:=(Gb (h.nm p f).is).2.2.2;have l:=nR f2.pw (a:=1+N+4*p) c (by omega) (by omega);have d:=f2.put hk f g;have e:C6 s fs k=⟨{s with As:=Mp (Lg.Az s.As s.log).1 (1+N+4*p) (Dn (C p)),log:=(Lg.Az s.As s.log).2.1},fs.set k {fs[k]with rc:=0},0⟩:=by
   unfold C6;rw[Cg hk,if_neg b,if_neg (fun m=>m f1),g,j,h.sec p];rw[l]
   rfl
  rw[e];exact⟨rfl,d,⟨rfl,rfl,f3,rfl⟩,Mi.set fs k hk _ rfl rfl,List.length_set,by simp only;rw[Cg (by rw[List.length_set];exact hk),List.getElem_set_self]⟩
theorem PQ.room {N n B:Nat}{s:Tx.St}{fs:List Fr}{C:Nat→ByteArray}(h:PQ N n s fs C)(f:Wf N n B s fs):
 ((Bl s fs).1.e=0∧PQ N n (Bl s fs).1.s (Bl s fs).1.fs C∧Kp s (Bl s fs).1.s∧Mi fs (Bl s fs).1.fs∧(Full (Dc (Bl s fs).1.fs (Bl s fs).2)→(Dc (Bl s fs).1.fs (Bl s fs).2).rc=0))∨(Bl s fs).1.e=18:=by
 have t:=f.nf;unfold Bl
 split
 ·rename_i k hk
  unfold Lt at hk;obtain⟨c,b,_⟩:=List.findIdx?_eq_some_iff_getElem.1 hk;refine .inl ⟨rfl,h,Kp.refl s,Mi.refl fs,fun d=>?_⟩;simp only at d;rw[Cg c]at d;exact absurd d (by simpa using b)
 ·split
  ·exact .inr rfl
  ·rename_i k a i
   obtain⟨c,b,_⟩:=I6 fs.length (by omega) _ _ fs fs k a rfl (Nat.mod_lt _ (by omega)) (Qt.refl fs) i;have j:=b.len;have l:a[k].rc≠0→Full a[k]:=fun g=>by
    have e:=b.at_ k c (by omega);rw[e]at g ⊢;exact(f.fr k c).rz g
   obtain⟨m,o,p,q,u,r⟩:=((h.hand (((k+1)%fs.length:Nat):Int)).marks b).flush (k:=k) (by omega) l;exact .inl ⟨m,o,(show Kp s {s with hand:=(((k+1)%fs.length:Nat):Int)}from⟨rfl,rfl,rfl,rfl⟩).trans p,(Mi.marks b).trans q j,fun _=>r⟩
theorem PQ.read {N n:Nat}{s:Tx.St}{fs:List Fr}{C:Nat→ByteArray}(h:PQ N n s fs C){p:Nat}(a:p<n)(c:¬ Pc fs p):Es s (p:Int)=(C p,0):=by
 unfold Es;rw[if_neg (by rw[h.pw.up];decide),h.sec p];rcases h.dk p a c with b|⟨b,d⟩
 ·rw[b]
  have e:=Gb (h.nm p a).is;rw[if_neg (Ug (h.nm p a).is),if_pos e.2.2.1,fA (h.nm p a)]
 ·rw[if_pos b,d];rfl
theorem PQ.held {N n B:Nat}{s:Tx.St}{fs:List Fr}{C:Nat→ByteArray}(h:PQ N n s fs C)(f:Wf N n B s fs){p:Nat}(g:p<n):
 ((Bf s fs (p:Int)).1.e=0∧PQ N n (Bf s fs (p:Int)).1.s (Bf s fs (p:Int)).1.fs C∧Kp s (Bf s fs (p:Int)).1.s∧(Dc (Bf s fs (p:Int)).1.fs (Bf s fs (p:Int)).2).bytes=C p)∨Bf s fs (p:Int)=(⟨s,fs,18⟩,0):=by
 have y:=h.zp;have d:Nd s (p:Int):=⟨by omega,by omega⟩
 cases b:Ww fs (p:Int)with
 |some k=>
  obtain⟨hk,m,o⟩:=nQ b;have e:Bf s fs (p:Int)=(⟨s,fs.set k {fs[k]with mark:=true},0⟩,k):=by
   unfold Bf;rw[if_neg (fun a=>a d),b];simp only;rw[Cg hk]
  rw[e];refine .inl ⟨rfl,h.same hk rfl rfl rfl,Kp.refl s,?_⟩;simp only;rw[Cg (by rw[List.length_set];exact hk),List.getElem_set_self];obtain⟨q,_,r,t⟩:=h.fr.at_ k hk m;have:p=q:=Int.ofNat.inj (o.symm.trans r);subst this;exact t
 |none=>
  have c:=cO b;have i:=h.read g (Sj c);obtain⟨z,j,u⟩:=f.room;rcases h.room f with⟨r1,v,w,x,l⟩|r1
  ·have e:Bf s fs (p:Int)=(⟨(Bl s fs).1.s,(Bl s fs).1.fs.set (Bl s fs).2 ⟨(p:Int),C p,0,true,0⟩,0⟩,(Bl s fs).2):=by
    unfold Bf;rw[if_neg (fun a=>a d),b];simp only;rw[i,if_neg (fun a=>a rfl),if_pos r1]
   rw[e];have hk:(Bl s fs).2<(Bl s fs).1.fs.length:=(by rw[j];exact u);rw[Cg hk]at l;refine .inl ⟨rfl,v.load hk g l (x.none_ j c),w,?_⟩;simp only;rw[Cg (by rw[List.length_set];exact hk),List.getElem_set_self]
  ·right
   unfold Bf;rw[if_neg (fun a=>a d),b];simp only;rw[i,if_neg (fun a=>a rfl),if_neg (by rw[r1];decide)];unfold Gz;rw[r1,if_neg (by decide)]
theorem Pw.app {N M:Nat}{d:Lg.Dk}{g:Lg.Lo}(h:Pw N M d g){r:Rc.Rec}(a:(Lg.Aw g r).2.2=0):Pw N M d (Lg.Aw g r).1:=by
 obtain⟨b,c,e,f,i,l,m,j⟩:=h;rcases j.append r with e1|e1|⟨_,k⟩
 ·rw[e1]at a;exact absurd a (by show ¬ (1:Int)=0;decide)
 ·rw[e1]at a;exact absurd a (by show ¬ (18:Int)=0;decide)
 ·exact⟨b,c,e,f,i,_,_,k⟩
theorem PQ.uG {N n:Nat}{s:Tx.St}{fs:List Fr}{C:Nat→ByteArray}(h:PQ N n s fs C){g:Lg.Lo}(a:Pw N (1+N+4*n) s.As g)(b:List Rc.A9):PQ N n {s with log:=g,txns:=b} fs C:=⟨h.zl,h.zp,a,h.fr,h.nm,h.dk⟩
theorem PQ.Yt {N n:Nat}{s:Tx.St}{fs:List Fr}{C:Nat→ByteArray}(h:PQ N n s fs C){k:Nat}(hk:k<fs.length){p:Nat}(m:Full fs[k])(a:fs[k].Ac=(p:Int)){f:Fr}(v:Mo f.bytes)(o:f.rc≠0)(c:f.Ac=fs[k].Ac):
 PQ N n s (fs.set k f) (fun q=>if q=p then f.bytes else C q):=by
 have r:Full f:=fun e=>by have:=v.size;rw[e]at this;exact absurd this (by decide)
 obtain⟨p',t,x,z⟩:=h.fr.at_ k hk m;have:p=p':=Int.ofNat.inj (a.symm.trans x);subst this;refine⟨h.zl,h.zp,h.pw,
  h.fr.set k f (fun _=>⟨p,t,c.trans a,by rw[if_pos rfl]⟩) (fun _ j u d g=>by rw[c];exact h.fr.ds k j hk u (fun e=>d e.symm) m g) (fun j u q d g i=>if_neg fun e=>by
   subst e;exact h.fr.ds k j hk u (fun e=>d e.symm) m g (a.trans i.symm)),fun q i=>?_,fun q i w=>?_⟩
 ·by_cases e:q=p
  ·rw[if_pos e];exact v
  ·rw[if_neg e];exact h.nm q i
 ·have l:q≠p:=fun e=>w (by
   subst e;exact⟨k,by rw[List.length_set];exact hk,by rw[List.getElem_set_self];exact⟨r,c.trans a,o⟩⟩)
  rw[if_neg l];exact h.dk q i fun y=>w (y.set hk fun _ b _=>absurd (Int.ofNat.inj (b.symm.trans a)) l)
theorem PQ.change {N n B:Nat}{s:Tx.St}{fs:List Fr}{C:Nat→ByteArray}(h:PQ N n s fs C)(G:Wf N n B s fs)(r:Rc.Rec)(D:ByteArray→ByteArray×Int)(Z:∀ q,(D q).2=0→Bk (D q).1=true):
 ((Cn s fs r D).e=0∧∃ (p i:Nat) (l:Int),p<n∧r.Ac=(p:Int)∧i<s.txns.length∧(Fq s.txns i).txn=r.txn∧Rc.num l∧(D (C p)).2=0∧(Cn s fs r D).s.txns=s.txns.set i {Fq s.txns i with last:=l,next:=if r.kind=3 then r.next else l}∧
   PQ N n (Cn s fs r D).s (Cn s fs r D).fs (fun q=>if q=p then Bg (D (C p)).1 l else C q))∨
 (¬ (Cn s fs r D).e=0∧(Cn s fs r D).s=s∧(Cn s fs r D).fs=fs):=by
 have hz:=h.zp;have hN:=G.n1.2.2
 by_cases z:(r.kind=2∨r.kind=3)∧Nd s r.Ac
 ·have hp:=z.2
  unfold Nd at hp;obtain⟨p,o⟩:∃ p:Nat,r.Ac=(p:Int):=⟨r.Ac.toNat,by omega⟩;have t:p<n:=by omega
  obtain⟨H,rv,rt,A,rp,E,I,ro,J,K,L,d,g⟩:=r;simp only at z o;subst o;unfold Cn;rw[if_neg (fun c=>c z)];simp only
  cases hi:s.txns.findIdx? (fun a=>decide (a.txn=rt))with
  |none=>exact .inr ⟨by show ¬ (21:Int)=0;decide,rfl,rfl⟩
  |some i=>
   obtain⟨u,M,_⟩:=List.findIdx?_eq_some_iff_getElem.1 hi;have O:(Fq s.txns i).txn=rt:=(by rw[Jk u];simpa using M);obtain⟨R,x2,x3,S⟩:=G.held (p:Int);have T:=Pd s fs (p:Int);have U:=h.held G t;generalize Bf s fs (p:Int)=x at R x2 x3 S T U ⊢;simp only;rcases U with⟨y1,P,y3,y4⟩|y1
   ·rw[if_neg (fun c=>c y1),y4]
    by_cases v:(D (C p)).2=0
    ·rw[if_neg (fun c=>c v)]
     have V:=Z _ v;obtain⟨b,w⟩:∃ b,(D (C p)).1=b:=⟨_,rfl⟩;rw[w]at V ⊢;have hk:x.2<x.1.fs.length:=(by omega);obtain⟨_,W,X⟩:=S y1;rw[Cg hk]at W X;have j:=R.low;have y:¬ (Fp x.1.s (Dc x.1.fs x.2) (p:Int)).2.2=0∨((Fp x.1.s (Dc x.1.fs x.2) (p:Int)).2.2=0∧(Fp x.1.s (Dc x.1.fs x.2) (p:Int)).2.1≠0∧Pw N (1+N+4*n) x.1.s.As (Fp x.1.s (Dc x.1.fs x.2) (p:Int)).1∧cN N (Fp x.1.s (Dc x.1.fs x.2) (p:Int)).1):=by
      unfold Fp
      split
      ·by_cases k:(Lg.Aw x.1.s.log (Od (p:Int) (Dc x.1.fs x.2).bytes)).2.2=0
       ·exact .inr ⟨k,by rw[(Uk k).2];have:=j.e0;omega,Pw.app P.pw k,j.append _⟩
       ·exact .inl k
      ·rename_i k
       exact .inr ⟨rfl,k,P.pw,j⟩
     unfold Tq;simp only;generalize Fp x.1.s (Dc x.1.fs x.2) (p:Int)=m at y ⊢;rcases y with y|⟨m1,m2,m3,m4⟩
     ·rw[if_pos y]
      exact .inr ⟨y,rfl,rfl⟩
     ·rw[if_neg (fun c=>c m1),T.1]
      have Y:=Pw.app m3 (r:=⟨H,(Fq s.txns i).last,rt,A,(p:Int),E,I,ro,J,K,L,d,g⟩);have c:=Sk m4 hN ⟨H,(Fq s.txns i).last,rt,A,(p:Int),E,I,ro,J,K,L,d,g⟩;generalize Lg.Aw m.1 ⟨H,(Fq s.txns i).last,rt,A,(p:Int),E,I,ro,J,K,L,d,g⟩=a at Y c ⊢
      by_cases F:a.2.2=0
      ·rw[if_neg (fun c=>c F)]
       refine .inl ⟨rfl,p,i,a.2.1,t,rfl,u,O,c,v,rfl,?_⟩;have Q:=P.uG (Y F) (s.txns.set i {Fq s.txns i with last:=a.2.1,next:=if A=3 then E else a.2.1});have hq:=Q.Yt hk (f:=⟨(Dc x.1.fs x.2).Ac,Bg b a.2.1,(Dc x.1.fs x.2).pins,true,m.2.1⟩) W X (by
        have h9:=(Mg V (l:=a.2.1.toNat) (by have:=c.2;omega)).1
        rwa[show((a.2.1.toNat:Nat):Int)=a.2.1 from by have:=c.1;omega]at h9) m2 (by show(Dc x.1.fs x.2).Ac=_;rw[Cg hk])
       rw[w];exact hq
      ·rw[if_pos F]
       exact .inr ⟨F,rfl,rfl⟩
    ·rw[if_pos v]
     exact .inr ⟨v,rfl,rfl⟩
   ·rw[y1,if_pos (by show ¬ (18:Int)=0;decide)]
    exact .inr ⟨by show ¬ (18:Int)=0;decide,rfl,rfl⟩
 ·unfold Cn
  rw[if_pos z];exact .inr ⟨by show ¬ (1:Int)=0;decide,rfl,rfl⟩
def NP (fs:List Fr):Prop:=∀ x∈fs,x.pins≤0
theorem NP.at_ {fs:List Fr}(h:NP fs){k:Nat}(hk:k<fs.length):fs[k].pins≤0:=h _ (List.getElem_mem hk)
theorem NP.set {fs:List Fr}(h:NP fs)(k:Nat){f:Fr}(a:f.pins≤0):NP (fs.set k f):=fun x b=>by
 rcases List.mem_or_eq_of_mem_set b with h1|h1
 ·exact h x h1
 ·rw[h1];exact a
theorem NP.marks {fs fs':List Fr}(h:NP fs)(a:Qt fs fs'):NP fs':=fun x b=>by
 obtain⟨i,c,rfl⟩:=List.getElem_of_mem b;have d:=a.len;rw[a.at_ i (by omega) c];exact h.at_ (k:=i) (by omega)
theorem Ze (n:Nat):∀ (j a:Nat) (fs:List Fr),fs.length=n→a<n→NP fs→fs.countP (·.mark)<j→Fu n j a fs≠none
 |0,_,_,_,_,_,h=>absurd h (by omega)
 |j+1,a,fs,hl,ha,hp,hc=>by
  have hk:a<fs.length:=by omega
  have hp0:=hp.at_ hk;unfold Fu;rw[Cg hk,if_neg (by omega)]
  split
  ·rename_i hm
   have h1:0<fs.countP (·.mark):=List.countP_pos_iff.2 ⟨fs[a],List.getElem_mem hk,hm⟩;refine Ze n j _ _ (by rw[List.length_set];exact hl) (Nat.mod_lt _ (by omega)) (hp.set _ hp0) ?_;rw[List.countP_set hk,if_pos hm]
   simp
   omega
  ·exact fun h=>by cases h
section
variable {N n B : Nat} {s : Tx.St} {fs : List Fr}
theorem nS (d:Wf N n B s fs)(i:Pw N (1+N+4*n) s.As s.log)(c:NP fs){k:Nat}(hk:k<fs.length):(C6 s fs k).e=0∧Pw N (1+N+4*n) (C6 s fs k).s.As (C6 s fs k).s.log∧NP (C6 s fs k).fs:=by
 have b:=d.fr k hk;obtain⟨j,q⟩:=Uj d b.pg;have o:=d.zl;have p:=b.pg;unfold C6;rw[Cg hk]
 split
 ·exact⟨rfl,i,c⟩
 ·rename_i f
  have l:=(Gb (b.is (b.rz f))).2.2.2;obtain⟨d2,g2,e,m,_⟩:=i.force;rw[e];simp only;rw[if_neg (fun g=>g trivial)];have h:=nR m (a:=Ef s fs[k].Ac) l (by omega) j;rw[h];simp only;rw[if_neg (fun g=>g trivial)];exact⟨rfl,m.Ac l (by omega) j,c.set _ (c.at_ hk)⟩
theorem qC (f:Wf N n B s fs)(g:Pw N (1+N+4*n) s.As s.log)(a:NP fs):(Bl s fs).1.e=0∧Pw N (1+N+4*n) (Bl s fs).1.s.As (Bl s fs).1.s.log∧NP (Bl s fs).1.fs:=by
 have h:=f.nf;unfold Bl
 split
 ·exact⟨rfl,g,a⟩
 ·split
  ·rename_i b
   exact absurd b (Ze _ _ _ _ rfl (Nat.mod_lt _ (by omega)) a (Nat.lt_of_le_of_lt List.countP_le_length (by omega)))
  ·rename_i k c b
   obtain⟨i,d,_⟩:=I6 fs.length (by omega) _ _ fs fs k c rfl (Nat.mod_lt _ (by omega)) (Qt.refl fs) b;have j:=d.len;have l:(k+1)%fs.length<fs.length:=Nat.mod_lt _ (by omega);exact nS (s:={s with hand:=(((k+1)%fs.length:Nat):Int)}) ((f.hand (x:=(((k+1)%fs.length:Nat):Int)) (by omega)).marks d) g (a.marks d) (by omega)
end
def Lu (p:Prop)(w:World)(e:Ending)(w':World):Prop:=∃ b:Bool,e= .returned (.bool b)∧(b=true↔p)∧Bw w w'
def Ho {α:Type}(P:α→Prop)(l:List α)(w:World)(e:Ending)(w':World):Prop:=
 ∃ k:Int,e= .returned (.int .i64 k)∧((k= -1∧∀ x∈l,¬ P x)∨∃ (i:Nat) (h:i<l.length),k=(i:Int)∧P l[i]∧∀ j (hj:j<i),¬ P (l[j]'(by omega)))∧Bw w w'
theorem Zf {α:Type}{P:α→Prop}{l:List α}{w w':World}(h:∀ j (hj:j<l.length),¬ P l[j])(a:Bw w w'):Ho P l w (.returned (.int .i64 (-1))) w':=
 ⟨-1,rfl,.inl ⟨rfl,fun x b=>by obtain⟨j,hj,rfl⟩:=List.getElem_of_mem b;exact h j hj⟩,a⟩
theorem Um {α:Type}{P:α→Prop}{l:List α}{w w':World}{k:Nat}(hk:k<l.length)(a:P l[k])(h:∀ j (hj:j<l.length),j<k→¬ P l[j])(b:Bw w w'):Ho P l w (.returned (.int .i64 (k:Int))) w':=
 ⟨(k:Int),rfl,.inr ⟨k,hk,rfl,a,fun j hj=>h j (by omega) hj⟩,b⟩
theorem Sl (P:Fr→Prop)(g:Nat)(K:Array Value)(eg:∀ args w,(callFunc g args).run Tryz.prog w= .ok (.enter g args) w)(l:List Fr)(hl:l.length≤140737488355328)(A:Option Addr)(c:Nat)(w:World)(L:Reads w A c l.length (l.flatMap Ib))
 (M:∀ x∈l,∀ W,Bw w W→Cq g (#[.agg (Er x)]++K) W (Lu (P x) W)):
 Cq 122 #[.slice A l.length c,.func (.func g) #[] K] w (Ho P l w):=by
 have R:=Hq L;have S:=Hq M;have u:=Hq (fun h w' I=>Zf (P:=P) (l:=l) (w:=w) (w':=w') h I);have m:=Hq (fun k hk n h w' I=>Um (P:=P) (l:=l) (w:=w) (w':=w') (k:=k) hk n h I);generalize Ho P l w=Q at u m ⊢;clear L M;go_enter Tryz.func122,Tryz.ntmps122;go_wp2_with fail
 go_loopw [8] (fun i wr=>∃ k:Nat,k≤l.length∧i= .int .i64 k∧(∀ j (v:j<l.length),j<k→¬ P l[j])∧Bw w wr) (fun i _=>l.length-(intOf i).toNat)
 case atStart=>exact⟨0,Nat.zero_le _,rfl,fun _ _ h=>absurd h (by omega),Below.refl _ _⟩
 case round=>
  obtain⟨k,hk,rfl,o,d⟩:=hrel;have C:=Hq o;clear o
  by_cases p:k<l.length
  ·obtain⟨b,off,rfl,y,T,a⟩:=Bu Dh (R.out.below d) p
   have N:=Hq (fun n=>m.out k p n C.out);have O:=Hq (show ¬ P l[k]→∀ j (v:j<l.length),j<k+1→¬ P l[j]from fun h j v J=>by
    rcases Nat.lt_or_eq_of_le (Nat.le_of_lt_succ J)with h1|h1
    ·exact C.out j v h1
    ·subst h1;exact h)
   have r:=S.out l[k] (List.getElem_mem p) wr d;generalize l[k]=x at a N O r;obtain⟨D,E,F,G,H⟩:=x;have f:=Hq (show wr.rangeAt b (off+k*5) [.int .i64 D,.string E,.int .i64 F,.bool G,.int .i64 H]from a);have s:=Hq r;clear a C r;dsimp only[Er]at s;have U:(0:Int)≤(k:Int):=(by omega);have V:(k:Int)<(l.length:Int):=(by omega);have X:IntKind.i64.wrap ((k:Int)+1)=(k:Int)+1:=IntWalk.i64_in _ (by omega)
   by_cases n:P ⟨D,E,F,G,H⟩
   ·have z:=Hq n
    clear n y
    go_wp2_with(first
     |with_reducible refine wpList_load_mid rfl 116 (.tmp 14) rfl b (off+k*5) rfl [.int .i64 D,.string E,.int .i64 F,.bool G,.int .i64 H] _ f.out Fw Kr Kr ?_
     |(go_at_fn g;(with_reducible refine s.out.mono ?_);rintro e Y ⟨q,rfl,B,t⟩;obtain rfl:q=true:=B.2 z.out;clear B))
    exact N.out z.out _ (Ad d t)
   ·have z:=Hq n
    clear n y
    go_wp2_with(first
     |with_reducible refine wpList_load_mid rfl 116 (.tmp 14) rfl b (off+k*5) rfl [.int .i64 D,.string E,.int .i64 F,.bool G,.int .i64 H] _ f.out Fw Kr Kr ?_
     |(go_at_fn g;(with_reducible refine s.out.mono ?_);rintro e Y ⟨q,rfl,B,t⟩;obtain rfl:q=false:=(by cases q with|true=>exact absurd (B.1 rfl) z.out|false=>rfl);clear B))
    go_roundw
    case rel=>exact⟨k+1,by omega,by go_num,O.out z.out,Ad d t⟩
    case measure=>simp[intOf];omega
  ·have Z:=Hq (u.out (fun j v=>C.out j v (by omega)) _ d)
   go_wp2_with fail;exact Z.out
abbrev kS (t:Rc.A9):Array Value:=#[t.txn,t.last,t.next,t.done]
theorem cR (P:Rc.A9→Prop)(g:Nat)(J:Array Value)(Z:∀ args w,(callFunc g args).run Tryz.prog w= .ok (.enter g args) w)(l:List Rc.A9)(hl:l.length≤140737488355328)(A:Option Addr)(c:Nat)(w:World)(K:Reads w A c l.length (l.flatMap Fz))
 (L:∀ x∈l,∀ W,Bw w W→Cq g (#[.agg (kS x)]++J) W (Lu (P x) W)):
 Cq 176 #[.slice A l.length c,.func (.func g) #[] J] w (Ho P l w):=by
 have O:=Hq K;have R:=Hq L;have u:=Hq (fun h w' H=>Zf (P:=P) (l:=l) (w:=w) (w':=w') h H);have m:=Hq (fun k hk n h w' H=>Um (P:=P) (l:=l) (w:=w) (w':=w') (k:=k) hk n h H);generalize Ho P l w=Q at u m ⊢;clear K L;go_enter Tryz.func176,Tryz.ntmps176;go_wp2_with fail
 go_loopw [8] (fun i wr=>∃ k:Nat,k≤l.length∧i= .int .i64 k∧(∀ j (v:j<l.length),j<k→¬ P l[j])∧Bw w wr) (fun i _=>l.length-(intOf i).toNat)
 case atStart=>exact⟨0,Nat.zero_le _,rfl,fun _ _ h=>absurd h (by omega),Below.refl _ _⟩
 case round=>
  obtain⟨k,hk,rfl,o,d⟩:=hrel;have C:=Hq o;clear o
  by_cases p:k<l.length
  ·obtain⟨b,off,rfl,y,S,a⟩:=Bu Dw (O.out.below d) p
   have M:=Hq (fun n=>m.out k p n C.out);have N:=Hq (show ¬ P l[k]→∀ j (v:j<l.length),j<k+1→¬ P l[j]from fun h j v I=>by
    rcases Nat.lt_or_eq_of_le (Nat.le_of_lt_succ I)with h1|h1
    ·exact C.out j v h1
    ·subst h1;exact h)
   have r:=R.out l[k] (List.getElem_mem p) wr d;generalize l[k]=x at a M N r;obtain⟨D,E,F,G⟩:=x;have f:=Hq (show wr.rangeAt b (off+k*4) [.int .i64 D,.int .i64 E,.int .i64 F,.bool G]from a);have s:=Hq r;clear a C r;dsimp only[kS]at s;have T:(0:Int)≤(k:Int):=(by omega);have U:(k:Int)<(l.length:Int):=(by omega);have V:IntKind.i64.wrap ((k:Int)+1)=(k:Int)+1:=IntWalk.i64_in _ (by omega)
   by_cases n:P ⟨D,E,F,G⟩
   ·have z:=Hq n
    clear n y
    go_wp2_with(first
     |with_reducible refine wpList_load_mid rfl 134 (.tmp 14) rfl b (off+k*4) rfl [.int .i64 D,.int .i64 E,.int .i64 F,.bool G] _ f.out qZ Kr Kr ?_
     |(go_at_fn g;(with_reducible refine s.out.mono ?_);rintro e X ⟨q,rfl,B,t⟩;obtain rfl:q=true:=B.2 z.out;clear B))
    exact M.out z.out _ (Ad d t)
   ·have z:=Hq n
    clear n y
    go_wp2_with(first
     |with_reducible refine wpList_load_mid rfl 134 (.tmp 14) rfl b (off+k*4) rfl [.int .i64 D,.int .i64 E,.int .i64 F,.bool G] _ f.out qZ Kr Kr ?_
     |(go_at_fn g;(with_reducible refine s.out.mono ?_);rintro e X ⟨q,rfl,B,t⟩;obtain rfl:q=false:=(by cases q with|true=>exact absurd (B.1 rfl) z.out|false=>rfl);clear B))
    go_roundw
    case rel=>exact⟨k+1,by omega,by go_num,N.out z.out,Ad d t⟩
    case measure=>simp[intOf];omega
  ·have Y:=Hq (u.out (fun j v=>C.out j v (by omega)) _ d)
   go_wp2_with fail;exact Y.out
theorem Sm (l:List Fr)(q:l.length≤1000000)(A:Option Addr)(c:Nat)(w:World)(a:Reads w A c l.length (l.flatMap Ib)):
 Cq 207 #[.slice A l.length c] w fun e w'=>∃ v,e= .returned v∧En Ib 5 116 w.heap.size w' v l∧Bw w w':=by
 obtain⟨i0,k,d,f,g⟩:=info_parts Qq;have m:=Hq a
 cases A with
 |none=>
  have h:l=[]:=by
   rcases Nat.eq_zero_or_pos l.length with h0|h0
   ·exact List.eq_nil_of_length_eq_zero h0
   ·obtain⟨b,off,e,_⟩:=a h0
    cases e
  subst h;clear a m;have n:∀ w,(binOp .eql 31 (.slice none 0 c) (.slice none 0 0)).run Tryz.prog w= .ok (.bool true) w:=fun w=>Lib.run_eql_slice_nil w 31 116 none 0 c 0 0 nG;simp only[List.length_nil];go_enter Tryz.func207,Tryz.ntmps207;go_wp2_with fail;go_ret;exact⟨_,rfl,Q5 _ _ _ _,Below.refl _ _⟩
 |some ad=>
  have i:=Hq (a.below (Ab w (.cells #[] 116)));have n:∀ w,(binOp .eql 31 (.slice (some ad) l.length c) (.slice none 0 0)).run Tryz.prog w= .ok (.bool false) w:=fun w=>Lib.run_eql_slice_nil w 31 116 (some ad) l.length c 0 0 nG;clear a;go_enter Tryz.func207,Tryz.ntmps207
  go_wp2_with(at_builtin;refine Cw Kr fun K o=>Ki (w.alloc (.cells #[] 116)) (.tmp 5) (.tmp 6) 31 116 i0 (.agg #[(),"",(),false,()]) 5 48 nG k d f g rfl (by omega) rfl w.heap.size _ 0 [] rfl (Jt w 116 5) (some ad) l.length c (l.flatMap Ib) rfl i.out (by rw[Cc Dh]) (eN l) (by omega) (by omega) (by simp) ?_;intro v2 r j s p;refine o _ _ ?_)
  go_ret;rw[List.nil_append,Nat.zero_add]at j;exact⟨_,rfl,j,(Ab w (.cells #[] 116)).trans p⟩
theorem Lv (s:Tx.St)(p:SP)(N n:Nat)(b:s.zlog=(N:Int))(j:N≤3000)(k:n≤1000)(w:World):
 Cr 209 #[Ag s p,.int .i64 (n:Int)] w (.int .i64 ((1+N+4*n:Nat):Int)):=by
 have e:IntKind.i64.wrap (1+(N:Int))=1+(N:Int):=IntWalk.i64_in _ (by omega);have f:IntKind.i64.wrap (4*(n:Int))=4*(n:Int):=IntWalk.i64_in _ (by omega);have g:IntKind.i64.wrap (1+(N:Int)+4*(n:Int))=1+(N:Int)+4*(n:Int):=IntWalk.i64_in _ (by omega);have h:=Hq b;clear b;go_enter Tryz.func209,Tryz.ntmps209;go_upto_region 1 with fail;have c:=Hq (heap_alloc_new w (.cells (Aj s p) 36));have d:=Hq (Ab w (.cells (Aj s p) 36));obtain⟨i,a⟩:=ex (w.alloc (.cells (Aj s p) 36));rw[← a]at c d ⊢;clear a;have l:=show i.cell? ⟨w.heap.size,0,none⟩=some (.int .i64 (N:Int))from by rw[Aa c.out];show some (Value.int .i64 s.zlog)=_;rw[h.out]
 go_wp2_with fail;go_ret;exact⟨congrArg (fun x=>Ending.returned (.int .i64 x)) (by omega),d.out⟩
theorem Zg (s:Tx.St)(p:SP)(n:Nat)(d:s.zpages=(n:Int))(x:Int)(w:World):
 Cr 145 #[Ag s p,x] w (.bool (decide (0≤x∧x<(n:Int)))):=by
 have f:=Hq d;clear d;have g:=Hq (heap_alloc_new w (.cells (Aj s p) 36));have c:=Hq (Ab w (.cells (Aj s p) 36));have e:=Hq (show(w.alloc (.cells (Aj s p) 36)).cell? ⟨w.heap.size,1,none⟩=some (.int .i64 (n:Int))from by rw[Aa g.out];show some (Value.int .i64 s.zpages)=_;rw[f.out])
 by_cases a:0≤x
 ·by_cases b:x<(n:Int)
  ·rw[decide_eq_true (show 0≤x∧x<(n:Int)from⟨a,b⟩)]
   go_enter Tryz.func145,Tryz.ntmps145;go_upto_region 1 with fail;have i:=e.out;go_wp2_with fail;go_ret;exact⟨by simp[a,b],c.out⟩
  ·rw[decide_eq_false (show ¬ (0≤x∧x<(n:Int))from fun h=>b h.2)]
   go_enter Tryz.func145,Tryz.ntmps145;go_upto_region 1 with fail;have i:=e.out;go_wp2_with fail;go_ret;exact⟨by simp[a,b],c.out⟩
 ·rw[decide_eq_false (show ¬ (0≤x∧x<(n:Int))from fun h=>a h.1)]
  go_enter Tryz.func145,Tryz.ntmps145;go_upto_region 1 with fail;go_wp2_with fail;go_ret;exact⟨by simp[a],c.out⟩
theorem jI (b:ByteArray)(f:b.size≤140737488355328)(w:World):
 Cr 211 #[b] w (.string (Mw b)):=by
 have g:=Hq (fun W=>eE b f W);have a:=Hq (fun W=>show Cr 20 #[b,.int .i64 ((Af b).lsn:Nat)] W (.string (Mw b)) from Ge b ((Af b).lsn:Nat) f W);generalize Mw b=q at a ⊢;generalize ((Af b).lsn:Nat)=l at g a;go_enter Tryz.func211,Tryz.ntmps211
 go_wp2_with(first
  |(go_at_call 183;(with_reducible refine(g.out _).mono ?_);rintro e h ⟨rfl,c⟩)
  |(go_at_call 20;(with_reducible refine(a.out _).mono ?_);rintro e i ⟨rfl,d⟩))
 go_ret;exact⟨rfl,Ad c d⟩
theorem We {p:Prop}{w w':World}(a:p)(b:Bw w w'):Lu p w (.returned (.bool true)) w':=⟨true,rfl,⟨fun _=>a,fun _=>rfl⟩,b⟩
theorem Wg {p:Prop}{w w':World}(a:¬ p)(b:Bw w w'):Lu p w (.returned (.bool false)) w':=⟨false,rfl,⟨(fun h=>by cases h),fun h=>absurd h a⟩,b⟩
theorem Un (f:Fr)(w:World):Cq 124 #[.agg (Er f)] w (Lu (¬ Full f) w):=by
 obtain⟨c,a,d,e,g⟩:=f
 by_cases h:a=⟨#[]⟩
 ·have b:=Hq (fun w' i=>We (p:=¬ Full ⟨c,a,d,e,g⟩) (w:=w) (w':=w') (fun j=>j h) i)
  generalize Lu (¬ Full ⟨c,a,d,e,g⟩) w=Q at b ⊢;subst h;dsimp only[Er];have k:=Qr;go_enter Tryz.func124,Tryz.ntmps124;go_wp2_with fail;exact b.out _ (Ab _ _)
 ·have b:=Hq (fun w' i=>Wg (p:=¬ Full ⟨c,a,d,e,g⟩) (w:=w) (w':=w') (fun j=>j h) i)
  generalize Lu (¬ Full ⟨c,a,d,e,g⟩) w=Q at b ⊢;obtain⟨l,z2,z3⟩:=cG h;clear h;dsimp only[Er];go_enter Tryz.func124,Tryz.ntmps124;go_wp2_with fail;exact b.out _ (Ab _ _)
theorem qD (f:Fr)(x:Int)(b:Nat)(w:World)(B:w.cell? ⟨b,0,none⟩=some (.int .i64 x)):Cq 123 #[.agg (Er f),.pointer (some ⟨b,0,none⟩)] w (Lu (Full f∧f.Ac=x) w):=by
 have u:=Hq (fun W=>Un f W);have C:=Hq B;clear B;have v:b<w.heap.size:=by
  rcases Nat.lt_or_ge b w.heap.size with h|h
  ·exact h
  ·have D:=C.out
   rw[World.cell?,Array.getElem?_eq_none h]at D
   cases D
 have r:=Hq (fun W (d:Bw w W)=>show W.cell? ⟨b,0,none⟩=some (.int .i64 x)from by rw[d.cell (p:=⟨b,0,none⟩) v];exact C.out);have t:=Hq (fun w' d h=>We (p:=Full f∧f.Ac=x) (w:=w) (w':=w') h d);have s:=Hq (fun w' d h=>Wg (p:=Full f∧f.Ac=x) (w:=w) (w':=w') h d)
 by_cases k:Full f
 ·by_cases n:f.Ac=x
  ·have l:=Hq (fun w' d=>t.out w' d ⟨k,n⟩)
   generalize Lu (Full f∧f.Ac=x) w=Q at l ⊢;have y:(f.Ac==x)=true:=(by rw[n];exact beq_self_eq_true _);have g:=Hq k;clear k n t s;go_enter Tryz.func123,Tryz.ntmps123;go_upto_region 1 with fail;have i:=Hq (heap_alloc_new w (.cells (Er f) 116));have j:=Hq (Ab w (.cells (Er f) 116));obtain⟨E,c⟩:=ex (w.alloc (.cells (Er f) 116));rw[← c]at i j ⊢;clear c
   go_wp2_with(first
    |with_reducible refine lL i.out Fw ?_
    |(go_at_call 124;refine(u.out _).mono ?_;rintro e o ⟨q,rfl,m,a⟩;obtain rfl:q=false:=(by cases q with|true=>exact absurd g.out (m.1 rfl)|false=>rfl);clear m;have z:=show o.cell? ⟨w.heap.size,0,none⟩=some (.int .i64 f.Ac)from(by rw[Aa (Ae i.out a)];rfl);have A:=r.out o (Ad j.out a)))
   exact l.out _ (Ad j.out a)
  ·have l:=Hq (fun w' d=>s.out w' d fun h=>n h.2)
   generalize Lu (Full f∧f.Ac=x) w=Q at l ⊢;have y:(f.Ac==x)=false:=beq_eq_false_iff_ne.2 n;have g:=Hq k;clear k n t s;go_enter Tryz.func123,Tryz.ntmps123;go_upto_region 1 with fail;have i:=Hq (heap_alloc_new w (.cells (Er f) 116));have j:=Hq (Ab w (.cells (Er f) 116));obtain⟨E,c⟩:=ex (w.alloc (.cells (Er f) 116));rw[← c]at i j ⊢;clear c
   go_wp2_with(first
    |with_reducible refine lL i.out Fw ?_
    |(go_at_call 124;refine(u.out _).mono ?_;rintro e o ⟨q,rfl,m,a⟩;obtain rfl:q=false:=(by cases q with|true=>exact absurd g.out (m.1 rfl)|false=>rfl);clear m;have z:=show o.cell? ⟨w.heap.size,0,none⟩=some (.int .i64 f.Ac)from(by rw[Aa (Ae i.out a)];rfl);have A:=r.out o (Ad j.out a)))
   exact l.out _ (Ad j.out a)
 ·have l:=Hq (fun w' d=>s.out w' d fun h=>k h.1)
  generalize Lu (Full f∧f.Ac=x) w=Q at l ⊢;have g:=Hq k;clear k t s;go_enter Tryz.func123,Tryz.ntmps123;go_upto_region 1 with fail;have i:=Hq (heap_alloc_new w (.cells (Er f) 116));have j:=Hq (Ab w (.cells (Er f) 116));obtain⟨E,c⟩:=ex (w.alloc (.cells (Er f) 116));rw[← c]at i j ⊢;clear c
  go_wp2_with(first
   |with_reducible refine lL i.out Fw ?_
   |(go_at_call 124;refine(u.out _).mono ?_;rintro e o ⟨q,rfl,m,a⟩;obtain rfl:q=true:=m.2 g.out;clear m))
  exact l.out _ (Ad j.out a)
theorem qE (s:Tx.St)(p:SP)(fs:List Fr)(A:fs.length≤1000)(x:Int)(w:World)(h:Ao w s p fs):
 Cq 50 #[Ag s p,x] w (Ho (fun f=>Full f∧f.Ac=x) fs w):=by
 have r:=Hq (fun(b:Nat) W (d:Bw w W) (o:W.cell? ⟨b,0,none⟩=some (.int .i64 x)) (g:b<W.heap.size)=>Sl (fun f=>Full f∧f.Ac=x) 123 #[.pointer (some ⟨b,0,none⟩)] (enters_of Tryz.func123 Kr rfl) fs (by omega) p.F p.fc W (h.fr.below d) (fun f _ V t=>qD f x b V (by rw[t.cell (p:=⟨b,0,none⟩) g];exact o)));have j:=Hq h.fn;have q:=Hq (fun W e w' (d:Bw w W) (u:Ho (fun f=>Full f∧f.Ac=x) fs W e w')=>show Ho (fun f=>Full f∧f.Ac=x) fs w e w' from by
  obtain⟨k,v,y,z⟩:=u;exact⟨k,v,y,Ad d z⟩)
 generalize Ho (fun f=>Full f∧f.Ac=x) fs w=Q at q ⊢;clear h;go_enter Tryz.func50,Tryz.ntmps50;go_upto_region 1 with fail;have a:=Hp w (Aj s p) 36 #[x] 3;obtain⟨l,c⟩:=Ee a;rw[← c]at a ⊢;clear c;have o:=show l.cell? ⟨w.heap.size,11,none⟩=some (.slice p.F fs.length p.fc)from by rw[Aa a.out.Ai,← j.out];rfl
 have m:=Hq (r.out (w.heap.size+1) l a.out.below (by rw[Aa a.out.Am];rfl) (a.out.lt (i:=1) (by simp)))
 go_wp2_with(go_at_call 122;(refine m.out.mono ?_);rintro e B ⟨k,rfl,hk,n⟩)
 exact q.out l _ _ a.out.below ⟨k,rfl,hk,n⟩
theorem nT {P:Program}{op:Oper}{a:Act}{w:World}{K:Act→World→Prop}{Q:Exit→Act→World→Prop}(ty:TypeId)(x y:Operand)(g:op.op= .store ty x y)
 (b o:Nat) (part cur res:Array Value) (t:TypeId) (j:a.eval x= .pointer (some ⟨b,o,none⟩)) (hy:a.eval y= .agg part) (k:w.heap[b]? =some (.cells cur t (0,0))) (l:res=(cur.toList.take o++part.toList++cur.toList.drop (o+part.toList.length)).toArray)
 (e:decide (o+part.toList.length≤cur.size)=true) (hi:(P.info? ty).map (·.size)=some part.size) (m:part.all (·.oneCell')=true) (h:K (a.put op.dst undef) (w.setRow b res)):op.wp P a w K Q:=by
 have c:=run_storeCells_at P b o t part.toList 0 cur w k (by rw[Nat.add_zero];exact of_decide_eq_true e) (fun v n=>(Array.all_eq_true_iff_forall_mem.1 m) v (by simpa using n));rw[Nat.add_zero,← l]at c;have d:(storeVar ty ⟨b,o,none⟩ (.agg part)).run P w= .ok () (w.setRow b res):=by
  cases f:P.info? ty with
  |none=>simp[f]at hi
  |some i=>
   have p:part.size=i.size:=by simp[f]at hi;omega
   simp[storeVar,sizeOf,typeInfo,f,Value.cells,p,c]
 unfold Oper.wp execOp;simp only[g,j,hy,Instr.storeAt,Instr.sureAddr,Sem.run_bind,Sem.run_pure,Result.andThen_ok,d];exact h
theorem Ao.set {w:World}{s:Tx.St}{p:SP}{fs:List Fr}(h:Ao w s p fs){b:Nat}{cur:Array Value}{t:TypeId}{fr:Nat×Nat}(a:w.heap[b]? =some (.cells cur t fr))(c:t≠9)(d:t≠134)(e:t≠116)(j:Nat)(v:Value):Ao (w.setCell ⟨b,j,none⟩ v) s p fs:=by
 rw[setCell_eq_setRow w b j cur t fr v a];exact h.other a c d e _
theorem Ao.own {w:World}{s:Tx.St}{p:SP}{fs:List Fr}(h:Ao w s p fs){g:Nat}{cur:Array Value}{fr:Nat×Nat}(b:w.heap[g]? =some (.cells cur 116 fr))(a:∀ ad,p.F=some ad→ad.block≠g)(j:Nat)(v:Value):Ao (w.setCell ⟨g,j,none⟩ v) s p fs:=
 ⟨h.st.set b (by decide) (by decide) j v,h.fn,h.fr.off g j v (fun _=>a),h.ft.set g j v⟩
theorem Ao.As {w w':World}{s:Tx.St}{p:SP}{fs:List Fr}(h:Ao w s p fs)(b:Bw w w'){d:Lg.Dk}{A:Option Addr}{c:Nat}(l:Lg.Lo)(e:Ca w' d A c)(f:Cp 0 w' 9 A):Ao w' {s with As:=d,log:=l} {p with A:=A,c:=c} fs:=by
 have a:=h.below b;exact⟨⟨e,f,a.st.tx,a.st.tt⟩,a.fn,a.fr,a.ft⟩
theorem Mj (s:Tx.St)(p:SP)(fs:List Fr)(K:fs.length≤100)(k:Nat)(hk:k<fs.length)(f:Fr)(w:World)(h:Ao w s p fs):
 Cq 146 #[Ag s p,k,.agg (Er f)] w fun e w'=>∃ q,e= .returned (Ag s q)∧Ao w' s q (fs.set k f)∧Bw w w':=by
 have L:=Hq h;have j:=Hq h.fn;have z:=Hq (fun W (M:Bw w W)=>Sm fs (by omega) p.F p.fc W (h.fr.below M));clear h;go_enter Tryz.func146,Tryz.ntmps146;go_upto_region 1 with fail;have b:=Q6 w (Aj s p) 36 (Er f) 116 #[(),(),(),'s',(),false,(),(),(),(),"",'s',(),'s',()] 36;obtain⟨A,l⟩:=Ee b;rw[← l]at b ⊢;clear l;have N:=show A.cell? ⟨w.heap.size,11,none⟩=some (.slice p.F fs.length p.fc)from by rw[Aa b.out.Ai,← j.out];rfl
 go_upto_region 2 with(go_at_call 207;refine(z.out _ b.out.below).mono ?_;rintro e B ⟨v,rfl,C,m⟩;obtain⟨g,c2,rfl,O⟩:=Ji C (by omega);have H1:=Hq (b.out.step m);have D:=show B.cell? ⟨w.heap.size,11,none⟩=some (.slice p.F fs.length p.fc)from(by rw[Aa H1.out.Ai,← j.out];rfl);have E:=Ap H1.out.Ai 11)
 have G:w.heap.size<A.heap.size:=by have:=b.out.lt (i:=0) (by simp);omega
 have n:=Hq (show D6 w.heap.size w [((Aj s {p with F:=some ⟨g,0,none⟩,fn:=fs.length,fc:=c2}),36),((Er f),116),(#[(),(),(),'s',(),false,(),(),(),(),"",'s',(),'s',()],36)] (B.setCell ⟨w.heap.size,11,none⟩ (.slice (some ⟨g,0,none⟩) fs.length c2))from by have h:=H1.out.set 0 11 (.slice (some ⟨g,0,none⟩) fs.length c2) _ rfl;simpa using h);have c:=Hq (Jm C ⟨w.heap.size,11,none⟩ (.slice (some ⟨g,0,none⟩) fs.length c2) G);generalize B.setCell ⟨w.heap.size,11,none⟩ (.slice (some ⟨g,0,none⟩) fs.length c2)=w2 at n c ⊢;have I:(0:Int)≤(k:Int):=by omega
 have P:(k:Int)<(fs.length:Int):=by omega
 obtain⟨o,r,t⟩:=eO Dh c.out k hk f;have a:w2.there g (k*5) (Er f).size:=o;have H:=show w2.cell? ⟨w.heap.size,11,none⟩=some (.slice (some ⟨g,0,none⟩) fs.length c2)from by rw[Aa n.out.Ai];rfl
 clear N D E
 go_upto_region 3 with(first|with_reducible refine lL n.out.Am Fw ?_|with_reducible refine wpList_store_mid rfl 116 (.tmp 18) (.tmp 17) rfl g (k*5) (Er f) rfl rfl a Kr Kr ?_)
 have Q:w.heap.size+3≤A.heap.size:=b.out.lt (i:=2) (by simp);have u:=Hq (n.out.under Q t);have x:=Hq r;rw[show([.int .i64 f.Ac,.string f.bytes,.int .i64 f.pins,.bool f.mark,.int .i64 f.rc]:List Value)=Ib f from rfl];generalize w2.setCells g (k*5) (Ib f)=w3 at u x ⊢
 try simp only[Act.put]
 clear o a r t H H1 n c C m
 go_wp2_with(first|with_reducible refine lL u.out.Ai Ar ?_|with_reducible refine lS (Aj s {p with F:=some ⟨g,0,none⟩,fn:=fs.length,fc:=c2}) u.out.Cj ?_)
 refine rT1 u.out.Cj Ar ?_;have J:=(u.out.row 2 (Aj s {p with F:=some ⟨g,0,none⟩,fn:=fs.length,fc:=c2}) _ rfl).below;have y:=L.out.below J;have d:=Ew x.out (w.heap.size+2) (Aj s {p with F:=some ⟨g,0,none⟩,fn:=fs.length,fc:=c2}) (by omega);exact⟨{p with F:=some ⟨g,0,none⟩,fn:=fs.length,fc:=c2},rfl,⟨⟨y.st.dk,y.st.dt,y.st.tx,y.st.tt⟩,by rw[List.length_set],by rw[List.length_set];exact Dr (by rw[List.length_set]at d;exact d),(Cp.own d).mono (Nat.zero_le _)⟩,J⟩
theorem Zh (d:Lg.Dk)(A:Option Addr)(c:Nat)(a:Nat)(b:a+4≤d.sectors.length)(e:d.sectors.length≤1000000)(w:World):
 Cr 258 #[Cv d A c,.int .i64 (a:Int)] w (.bool true):=by
 obtain⟨L,left,down⟩:=d;simp only at b e;have g:(0:Int)≤(a:Int):=by omega
 have h:(a:Int)≤(L.length:Int)-4:=by omega
 have f:IntKind.i64.wrap ((L.length:Int)-4)=(L.length:Int)-4:=IntWalk.i64_in _ (by omega);clear b e;go_enter Tryz.func258,Tryz.ntmps258;go_wp2_with fail;go_ret;exact⟨by simp,Ab _ _⟩
theorem jJ (L:List ByteArray){a k:Nat}(h:a+k<L.length):Lg.flat ((L.drop a).take (k+1))=Lg.flat ((L.drop a).take k)++(L[a+k]?.getD ⟨#[]⟩).data.toList:=by
 have e:(L.drop a).take (k+1)=(L.drop a).take k++[L[a+k]]:=by
  rw[List.take_add_one,List.getElem?_drop,List.getElem?_eq_getElem h];rfl
 rw[e,Lg.P2,List.getElem?_eq_getElem h,Option.getD_some]
 congr 1
 unfold Lg.flat
 simp
theorem Tr (d:Lg.Dk)(r:d.down=false)(P:∀ b∈d.sectors,b.size=128)(A:Option Addr)(c:Nat)(a:Nat)(Q:a+4≤d.sectors.length)(w:World)(h:Ca w d A c):
 Cr 208 #[Cv d A c,.int .i64 (a:Int)] w (.tuple #[.string (F1 d a),()]):=by
 have HR:=Hq (fun(k:Nat) (hk:k<4) W (hb:Bw w W)=>show Cr 259 #[Cv d A c,.int .i64 ((a:Int)+(k:Int))] W (.tuple #[.string (d.sectors[a+k]?.getD ⟨#[]⟩),()]) from by
  have h9:=hJ d A c ((a:Int)+(k:Int)) W (h.below hb);have e:Lg.K5 d ((a:Int)+(k:Int))=(d.sectors[a+k]?.getD ⟨#[]⟩,0):=by
   unfold Lg.K5;rw[if_neg (by rw[r];decide),if_pos (show Lg.F6 d _ from⟨by omega,by omega⟩)];unfold Lg.Ic;rw[show((a:Int)+(k:Int)).toNat=a+k by omega]
  rw[e]at h9;exact h9)
 have D:=Hq (fun W=>Zh d A c a Q h.small W);have E:=Hq (fun(k:Nat) (hk:k<4)=>jJ d.sectors (a:=a) (k:=k) (by omega));have F:=Hq (fun(k:Nat) (hk:k<4)=>show(d.sectors[a+k]?.getD ⟨#[]⟩).size=128 from by rw[List.getElem?_eq_getElem (by omega),Option.getD_some];exact P _ (List.getElem_mem _));have G:=Hq (fun k (hk:k≤4)=>show(Lg.flat ((d.sectors.drop a).take k)).length≤512 from by
  have h1:=Lg.Cc (L:=(d.sectors.drop a).take k) (fun x hx=>P x (List.mem_of_mem_drop (List.mem_of_mem_take hx)));have h2:=List.length_take_le k (d.sectors.drop a);omega)
 have s:=Hq (show F1 d a=⟨(Lg.flat ((d.sectors.drop a).take 4)).toArray⟩from rfl);have R:=h.small;have aa:a≤1000000:=by omega
 obtain⟨L,left,down⟩:=d;simp only at r;subst r;dsimp only[Cv]at HR D ⊢;simp only at E F s G Q;generalize F1 ⟨L,left,false⟩ a=pp at s ⊢;clear h P R;clear Q;go_enter Tryz.func208,Tryz.ntmps208;go_upto_region 1 with fail;have m:=Hq (heap_alloc_new w (.cells #[.slice A L.length c,left,false] 28));have t:=Hq (Ab w (.cells #[.slice A L.length c,left,false] 28));obtain⟨W0,H⟩:=ex (w.alloc (.cells #[.slice A L.length c,left,false] 28));rw[← H]at m t ⊢;clear H;have S:=show W0.cell? ⟨w.heap.size,2,none⟩=some (.bool false)from by rw[Aa m.out];rfl
 go_upto_region 4 with(first
  |with_reducible refine lL m.out Cu ?_
  |(go_at_call 258;(with_reducible refine(D.out _).mono ?_);rintro e C ⟨rfl,f⟩))
 clear S;have I:=Hq (Ae (Ae m.out f) (Ab C (.cells #[.pointer none,'s'] 164)));have J:=Hq (heap_alloc_new C (.cells #[.pointer none,'s'] 164));have K:=Hq (Ad t.out (Ad f (Ab C (.cells #[.pointer none,'s'] 164))));have T:w.heap.size<C.heap.size:=Nat.lt_of_lt_of_le (By m.out) f.size;obtain⟨g,M⟩:=ex C.heap.size;obtain⟨U,n⟩:=ex (C.alloc (.cells #[.pointer none,'s'] 164));have hz:U.heap.size=g+1:=by rw[n,M];simp
 rw[← M,← n]at J;rw[← n]at I K;rw[← n,← M];rw[← M]at T;have HZ:=Hq hz;clear n M f m t hz
 try simp only[Act.put]
 go_wp2_with fail
 go_loopw [19] (fun i wr=>∃ k:Nat,k≤4∧i= .int .i64 (k:Int)∧Nl (g+1) wr.heap.size g (Lg.flat ((L.drop a).take k)) wr∧Ek (g+1) g U wr) (fun i _=>4-(intOf i).toNat)
 case atStart=>exact⟨0,by omega,rfl,Nl.fresh _ _ _ _ (by omega) J.out,Ek.refl _ _ _⟩
 case round=>
  obtain⟨k,hk,rfl,q,j⟩:=hrel;have u:=Hq q;have V:=Hq j;have ad:U.heap.size≤wr.heap.size:=j.size;have ae:=HZ.out;have N:Bw w wr:=K.out.trans (V.out.below (by omega) (by omega));have v:=Hq N;clear q j N
  by_cases y:k<4
  ·have af:IntKind.i64.wrap ((a:Int)+(k:Int))=(a:Int)+(k:Int):=IntWalk.i64_in _ (by omega)
   have X:=Hq (show wr.heap[w.heap.size]? =some (.cells #[.slice A L.length c,left,false] 28 (0,0))from(V.out.block _ (by omega) (by omega)).trans I.out);have O:=Hq (HR.out k y wr v.out);have z:=Hq (E.out k y);have Y:=F.out k y;generalize L[a+k]?.getD ⟨#[]⟩=x at O z Y;have B:=G.out k (by omega);generalize Lg.flat ((L.drop a).take k)=l at u z B;have Z:=Hq B;clear B
   go_wp2_with(first
    |with_reducible refine lL X.out Cu ?_
    |(go_at_call 259;(with_reducible refine O.out.mono ?_);rintro e w2 ⟨rfl,f⟩;have a1:=Hq (u.out.below f);have a6:=Hq (V.out.trans (Ek.El (by omega) f));have ag:=f.size;clear f)
    |(go_at_call 153;(with_reducible refine(L0 _ _ _ _ _ _ a1.out (by have:=Z.out;omega) (by omega)).mono ?_);rintro e w3 ⟨rfl,o,p⟩;have a7:=Hq o;have a8:=Hq (a6.out.trans p);clear o p))
   go_roundw
   case rel=>exact⟨k+1,by omega,by go_num,by rw[z.out];exact a7.out,a8.out⟩
   case measure=>simp[intOf];omega
  ·obtain rfl:k=4:=by omega
   go_wp2_with((go_at_call 154;(with_reducible refine(Mz _ _ _ _ _ u.out).mono ?_);rintro e w2 ⟨rfl,p⟩))
   go_ret2;exact⟨by rw[s.out];rfl,v.out.trans (p.below (by omega) v.out.size)⟩
end Go.Proofs.YtmldoihahndcgaaGreatDoor
namespace Go
section
variable {P : Program} {ops : Array Oper} {Q : Exit → Act → World → Prop} {md : Region.Mode} {S : World → Prop} {z : Nat}
theorem Ts {i:Nat}{oi:Oper}{v:Value}(hi:ops[i]? =some oi)(l:∀ (j:Nat) (o:Oper) cs b,ops[j]? =some o→o.op≠ .select cs b)
 (I:∀ c a w,Q (.panic c) (a.put oi.dst v) w→Q (.panic c) a w) (n:i≠z):
 ∀ (fuel:Nat) (listed:Array Bool) (a:Act) (w:World),
  (∀ j oj,ops[j]? =some oj→j≠i→listed.getD j true=false→(∀ e∈oj.after,Region.binds md e=true→e.on≠i)→oi.apart ops oj=true)→
  i∈Region.ready md ops listed→YieldsIf P ops (fun _=>True) oi v a→(listed.getD z true=false→S w)→
  Ex P md ops Q S z fuel (listed.setIfInBounds i true) (a.put oi.dst v) w→Ex P md ops Q S z (fuel+1) listed a w:=by
 intro fuel
 induction fuel with
 |zero=>
  intro listed a w _ p A C H;refine⟨fun h=>(by rw[h]at p;cases p),fun j B=>?_⟩
  by_cases d:j=i
  ·subst d;exact A.wpOp hi trivial ⟨fun h=>C (by rw[getD_set_ne true n]at h;exact h),H⟩
  ·have:=ready_mono B d
   rw[H.1]at this
   cases this
 |succ fuel ih=>
  intro listed a w f p A C H;refine⟨fun h=>(by rw[h]at p;cases p),fun j B=>?_⟩
  by_cases d:j=i
  ·subst d;exact A.wpOp hi trivial ⟨fun h=>C (by rw[getD_set_ne true n]at h;exact h),H⟩
  ·have r:=H.2 j (ready_mono B d)
   obtain⟨m,oj,q,s⟩:=mem_ready.1 B;have t:∀ e∈oj.after,Region.binds md e=true→e.on≠i:=fun e J K D=>by
    have r:=s e J K;have L:=(mem_ready.1 p).1;rw[D]at r;rw[Ov L]at r
    cases r
   have M:=wpOp_putIf q (f j oj q d m t) (fun cs b=>l i oi cs b hi) (fun cs b=>l j oj cs b q) I A r;have g:∀ k ok,ops[k]? =some ok→k≠i→(listed.setIfInBounds j true).getD k true=false→
    (∀ e∈ok.after,Region.binds md e=true→e.on≠i)→oi.apart ops ok=true:=fun k ok hk E u F=>by
    refine f k ok hk E ?_ F
    by_cases x:j=k
    ·subst x;exact m
    ·rw[getD_set_ne true x]at u;exact u
   refine wpOp_mono (fun N w' G=>?_) M;have y:(listed.setIfInBounds j true).getD z true=false→S w':=fun h=>G.2.1 (by
    rw[Array.setIfInBounds_comm _ _ (Ne.symm d),getD_set_ne true n];exact h)
   refine⟨y,ih (listed.setIfInBounds j true) N w' g (ready_mono p (Ne.symm d)) G.1 y ?_⟩;rw[Array.setIfInBounds_comm _ _ d];exact G.2.2
theorem Bv {i:Nat}{oi:Oper}{v:Value}{fuel:Nat}{listed:Array Bool}{a:Act}{w:World}(hi:ops[i]? =some oi)(b:(i != z)=true)
 (d:Region.noSelect ops=true) (e:Region.free md ops listed i=true) (f:(Region.ready md ops listed).contains i=true)
 (g:∀ c a w,Q (.panic c) (a.put oi.dst v) w→Q (.panic c) a w) (hy:YieldsIf P ops (fun _=>True) oi v a) (j:listed.getD z true=false→S w)
 (h:Ex P md ops Q S z fuel (listed.setIfInBounds i true) (a.put oi.dst v) w):Ex P md ops Q S z (fuel+1) listed a w:=
 Ts hi (Region.noSelect_spec d) g (by simpa using b) fuel listed a w (Region.free_spec hi e) (by simpa using f) hy j h
end
end Go
namespace Sc
def bit (b:ByteArray)(p:Nat):Bool:=(b.data.toList[p/8]?.getD 0).toNat.testBit (p%8)
def Bx (b:ByteArray)(p:Nat):ByteArray:=⟨(b.data.toList.set (p/8) (UInt8.ofNat ((b.data.toList[p/8]?.getD 0).toNat ^^^ 2^(p%8)))).toArray⟩
theorem E5 (b:ByteArray)(p:Nat):(Bx b p).size=b.size:=by
 show(List.set _ _ _).toArray.size=b.data.size
 simp
theorem Uo (x:UInt8){k:Nat}(hk:k<8):x.toNat ^^^ 2^k<256:=by
 have a:x.toNat<2^8:=x.toNat_lt;have b:2^k<2^8:=Nat.pow_lt_pow_right (by omega) hk;exact Nat.xor_lt_two_pow a b
theorem nU {b:ByteArray}{p:Nat}(h:p/8<b.size)(q:Nat):bit (Bx b p) q=if q=p then !bit b p else bit b q:=by
 have c:p/8<b.data.toList.length:=by simpa using h
 have d:=Uo (b.data.toList[p/8]?.getD 0) (k:=p%8) (by omega);unfold bit
 show((b.data.toList.set (p/8) _)[q/8]?.getD 0).toNat.testBit (q%8)=_
 by_cases e:p/8=q/8
 ·rw[← e,List.getElem?_set_self c,Option.getD_some]
  rw[show(UInt8.ofNat ((b.data.toList[p/8]?.getD 0).toNat ^^^ 2^(p%8))).toNat=(b.data.toList[p/8]?.getD 0).toNat ^^^ 2^(p%8)from by rw[UInt8.toNat_ofNat'];exact Nat.mod_eq_of_lt d];rw[Nat.testBit_xor,Nat.testBit_two_pow]
  by_cases a:q=p
  ·subst a
   rw[if_pos rfl,decide_eq_true rfl,Bool.xor_true]
  ·rw[if_neg a,decide_eq_false (by omega),Bool.xor_false]
 ·rw[List.getElem?_set_ne e,if_neg (by intro h;exact e (by rw[h]))]
def Cy (m:Nat):ByteArray:=⟨(1::List.replicate (m-1) 0).toArray⟩
theorem Nf {m:Nat}(h:1≤m):(Cy m).size=m:=by
 show(1::List.replicate (m-1) (0:UInt8)).toArray.size=m
 simp;omega
theorem jK (m q:Nat):bit (Cy m) q=decide (q=0):=by
 unfold bit
 show(((1:UInt8)::List.replicate (m-1) 0)[q/8]?.getD 0).toNat.testBit (q%8)=_
 by_cases h:q/8=0
 ·rw[h]
  show(1:Nat).testBit (q%8)=_
  rw[show(1:Nat)=2^0 from rfl,Nat.testBit_two_pow]
  by_cases a:q=0
  ·subst a;rfl
  ·rw[decide_eq_false (by omega),decide_eq_false a]
 ·obtain⟨j,b⟩:∃ j,q/8=j+1:=⟨q/8-1,by omega⟩
  rw[b,List.getElem?_cons_succ,decide_eq_false (by omega)]
  by_cases c:j<m-1
  ·rw[List.getElem?_replicate,if_pos c]
   show(0:Nat).testBit _=_
   exact Nat.zero_testBit _
  ·rw[List.getElem?_eq_none (by simp;omega)]
   exact Nat.zero_testBit _
end Sc
namespace Go.Proofs.YtmldoihahndcgaaGreatDoor
open Go.RowKit Sc
structure SI (n:Nat) (C:Nat→ByteArray) (b:ByteArray) (u:Nat→Nat) (V:Nat→Nat×List ByteArray:=fun _=>(0,[])):Prop where
 k0:(Af (C 0)).kind=1
 r0:(Af (C 0)).recs=[b]
 l0:(Af (C 0)).link=0
 sz:b.size=(n+7)/8
 bt:∀ p,p<n→bit b p=decide (0<u p)
 kp:∀ p,1≤p→p<n→(Af (C p)).kind=u p
 lp:∀ p,1≤p→p<n→(Af (C p)).link=(V p).1
 rp:∀ p,1≤p→p<n→(Af (C p)).recs=(V p).2
 u0:u 0=1
theorem SI.flip {n:Nat}{C c:Nat→ByteArray}{b:ByteArray}{u:Nat→Nat}{V:Nat→Nat×List ByteArray}(h:SI n C b u V){p k:Nat}(i:p<n)(j:1≤p)(hk:0<k↔¬ 0<u p)
 (c0:(Af (c 0)).kind=1∧(Af (c 0)).recs=[Bx b p]∧(Af (c 0)).link=0) (g:(Af (c p)).kind=k∧(Af (c p)).recs=[]∧(Af (c p)).link=0) (co:∀ q,1≤q→q<n→q≠p→c q=C q):
 SI n c (Bx b p) (fun q=>if q=p then k else u q) (fun q=>if q=p then(0,[])else V q):=by
 refine⟨c0.1,c0.2.1,c0.2.2,(E5 _ _).trans h.sz,fun q a=>?_,fun q d a=>?_,fun q d a=>?_,fun q d a=>?_,?_⟩
 ·rw[nU (by rw[h.sz];omega)]
  by_cases e:q=p
  ·rw[if_pos e,if_pos e,h.bt p i]
   by_cases f:0<u p
   ·rw[decide_eq_true f,decide_eq_false (fun l=>hk.1 l f)];rfl
   ·rw[decide_eq_false f,decide_eq_true (hk.2 f)];rfl
  ·rw[if_neg e,if_neg e];exact h.bt q a
 ·by_cases e:q=p
  ·rw[if_pos e,e];exact g.1
  ·rw[if_neg e,co q d a e];exact h.kp q d a
 ·by_cases e:q=p
  ·rw[if_pos e,e];exact g.2.2
  ·rw[if_neg e,co q d a e];exact h.lp q d a
 ·by_cases e:q=p
  ·rw[if_pos e,e];exact g.2.1
  ·rw[if_neg e,co q d a e];exact h.rp q d a
 ·show(if 0=p then k else u 0)=1
  rw[if_neg (by omega)];exact h.u0
theorem SI.ev {n:Nat}{C:Nat→ByteArray}{b:ByteArray}{u:Nat→Nat}{p:Nat}(h:SI n C b u (fun q=>if q=p then(0,[])else(0,[]))):SI n C b u:=by
 have e:(fun q=>if q=p then((0:Nat),([]:List ByteArray))else(0,[]))=fun _=>(0,[]):=funext fun q=>by split<;>rfl
 rwa[e]at h
def Oe (u:Nat→Nat)(p:Nat):Prop:=∀ q,q<p→0<u q
theorem jL {u:Nat→Nat}{p:Nat}(h:Oe u p)(a:0<u p):Oe u (p+1):=fun q b=>by
 by_cases e:q=p
 ·rw[e];exact a
 ·exact h q (by omega)
def Ed (u:Nat→Nat)(p:Nat):List Int:=((List.range p).filter fun q=>decide (0<u q)).map Int.ofNat
theorem Up {u:Nat→Nat}{p:Nat}(h:0<u p):Ed u (p+1)=Ed u p++[(p:Int)]:=by
 unfold Ed;rw[List.range_succ,List.filter_append,List.map_append]
 congr 1
 simp[h]
theorem Zi {u:Nat→Nat}{p:Nat}(h:¬ 0<u p):Ed u (p+1)=Ed u p:=by
 unfold Ed;rw[List.range_succ,List.filter_append]
 simp[h]
theorem Pe (u:Nat→Nat)(p:Nat):(Ed u p).length≤p:=by
 unfold Ed;rw[List.length_map];have:=List.length_filter_le (fun q=>decide (0<u q)) (List.range p);rw[List.length_range]at this;exact this
theorem nV {M a:Nat}(h:a+4≤M):F1 (Lg.K6 M) a=I4:=by
 have e:((Lg.K6 M).sectors.drop a).take 4=[Lg.Cf,Lg.Cf,Lg.Cf,Lg.Cf]:=by
  apply List.ext_getElem?
  intro j;rw[List.getElem?_take]
  split
  ·rename_i d
   rw[List.getElem?_drop]
   show(List.replicate M Lg.Cf)[a+j]? =_
   rw[List.getElem?_replicate,if_pos (by omega)];have:j=0∨j=1∨j=2∨j=3:=(by omega);rcases this with rfl|rfl|rfl|rfl<;>rfl
  ·rw[List.getElem?_eq_none (by simp;omega)]
 unfold F1;rw[e];have c:Lg.flat [Lg.Cf,Lg.Cf,Lg.Cf,Lg.Cf]=List.replicate 512 0:=by
  have b:∀ L,Lg.flat (Lg.Cf::L)=List.replicate 128 0++Lg.flat L:=fun L=>rfl;rw[b,b,b,b,Lg.mK,List.append_nil,List.replicate_append_replicate,List.replicate_append_replicate,List.replicate_append_replicate]
 rw[c]
 rfl
def D5 (k:Nat):List Fr:=List.replicate k ⟨0,⟨#[]⟩,0,false,0⟩
theorem Gv {k i:Nat}(hi:i<(D5 k).length):(D5 k)[i]=⟨0,⟨#[]⟩,0,false,0⟩:=(List.mem_replicate.1 (List.getElem_mem hi)).2
theorem Ei (k:Nat):(D5 k).length=k:=List.length_replicate
def Of (N n k:Nat):Tx.St:=⟨(N:Int),(n:Int),(k:Int),Lg.K6 (1+N+4*n),⟨1,(N:Int),0,0,⟨#[]⟩⟩,0,[],1⟩
theorem rY {N n k:Nat}(c:1≤n∧n≤60∧N≤3000)(hk:1≤k∧k≤64):PI N n (Of N n k) (D5 k) (fun _=>E6 (0:Nat)):=by
 refine⟨rfl,rfl,c,rS N (1+N+4*n) (by omega),by rw[Ei];exact hk,⟨Int.le_refl _,(by decide:(0:Int)≤64)⟩,⟨fun i a b=>?_,fun i j a d _ b _=>?_,fun i a=>?_,fun i a=>?_,fun i a=>?_⟩,fun p _=>(Im 0 (by omega)).1,fun p e _=>.inr ⟨nV (by omega),rfl⟩⟩
 ·rw[Full,Gv a]at b;exact absurd rfl b
 ·rw[Full,Gv a]at b;exact absurd rfl b
 ·rw[Gv a]
 ·rw[Gv a];exact rT
 ·rw[Gv a];exact Nat.zero_le _
structure tG (ids:List Int) (s:Tx.St):Prop where
 tl:s.txns.map (·.txn)=ids
 all:∀ a∈s.txns,Rc.I0 a
 len:ids.length≤1000
theorem tG.ex {ids:List Int}{s:Tx.St}(h:tG ids s){t:Int}(b:t∈ids):∃ a∈s.txns,a.txn=t:=by
 rw[← h.tl]at b;exact List.mem_map.1 b
theorem tG.small {ids:List Int}{s:Tx.St}(h:tG ids s):s.txns.length≤800000:=by
 have a:=congrArg List.length h.tl;rw[List.length_map]at a;have:=h.len;omega
structure SS (N n k:Nat) (ids:List Int) (c:Int) (s:Tx.St) (fs:List Fr) (C:Nat→ByteArray):Prop where
 pi:PI N n s fs C
 tx:tG ids s
 nf:fs.length=k
 used:s.log.end_≤c
theorem SS.more {N n k:Nat}{ids:List Int}{c a:Int}{s:Tx.St}{fs:List Fr}{C:Nat→ByteArray}(h:SS N n k ids c s fs C)(b:c≤a):SS N n k ids a s fs C:=⟨h.pi,h.tx,h.nf,by have:=h.used;omega⟩
end Go.Proofs.YtmldoihahndcgaaGreatDoor
