import Derived.Test.YtmldoihahndcgaaGreatDoorHq00
import Derived.Test.YtmldoihahndcgaaGreatDoorHq07
import Derived.Test.YtmldoihahndcgaaGreatDoorHq06
import Derived.Test.YtmldoihahndcgaaGreatDoorHq04
import Derived.Test.YtmldoihahndcgaaGreatDoorHq01
import Derived.Lib.Small
set_option maxRecDepth 100000
set_option maxHeartbeats 16000000
set_option linter.unusedSimpArgs false
namespace Go.Proofs.YtmldoihahndcgaaGreatDoor
open Go.RowKit Sc
theorem qP (x:Pg.C7):(⟨(Pg.C8 x).toArray⟩:ByteArray).size≤512:=by
 show(Pg.C8 x).toArray.size≤512
 by_cases h:512<Pg.Ba (Pg.trim x.recs)
 ·rw[Pg.Xu h];decide
 ·rw[List.size_toArray,Pg.Lp (by omega)];exact Nat.le_refl _
theorem Oq (p:ByteArray)(n:Int):(Cj p n).size≤512:=by
 unfold Cj
 split
 ·decide
 ·exact qP _
theorem Rg {b:ByteArray}(h:Bj b=true):b≠⟨#[]⟩:=fun e=>by
 have a:=Fa h;rw[e]at a;exact absurd a (by decide)
theorem Wg {b:ByteArray}{l:Int}(h:Bj b=true)(a:Rc.num l):Bj (Cj b l)=true:=by
 have d:=a.1;have c:=(eV h (l:=l.toNat) (by have:=a.2;omega)).1.is
 rwa[show((l.toNat:Nat):Int)=l from by omega]at c
theorem nH {b:ByteArray}(h:Bj b=true):Bj (J6 b)=true:=(tN h).1.is
structure Tr (n B:Nat) (f:Fr):Prop where
 sz:f.bytes.size≤512
 pn:0≤f.pins∧f.pins≤(B:Int)
 rc:Rc.num f.rc
 pg:0≤f.page∧f.page<(n:Int)
 is:Full f→Bj f.bytes=true
 rz:f.rc≠0→Full f
structure Wf (N n B:Nat) (s:Tx.St) (fs:List Fr):Prop where
 zl:s.zlog=(N:Int)
 zp:s.zpages=(n:Int)
 n1:1≤n∧n≤60∧N≤3000
 lb:Tx.tL s
 al:Lg.Al s.log
 ln:s.log.n=(N:Int)
 ef:s.log.end_≤(N:Int)*128
 dk:Mp (1+N+4*n) s.Am
 nf:1≤fs.length∧fs.length≤64
 hd:0≤s.hand∧s.hand≤64
 fr:∀ i (h:i<fs.length),Tr n B fs[i]
 ds:∀ i j (hi:i<fs.length) (hj:j<fs.length),i≠j→Full fs[i]→Full fs[j]→fs[i].page≠fs[j].page
 tl:s.txns.length≤800000
 tx:∀ t∈s.txns,Rc.pR t
theorem Tr.more {n B a:Nat}{f:Fr}(h:Tr n B f)(b:B≤a):Tr n a f:=⟨h.sz,⟨h.pn.1,by have:=h.pn.2;omega⟩,h.rc,h.pg,h.is,h.rz⟩
theorem Wf.more {N n B a:Nat}{s:Tx.St}{fs:List Fr}(h:Wf N n B s fs)(b:B≤a):Wf N n a s fs:=⟨h.zl,h.zp,h.n1,h.lb,h.al,h.ln,h.ef,h.dk,h.nf,h.hd,fun i c=>(h.fr i c).more b,h.ds,h.tl,h.tx⟩
theorem Tr.set {n B:Nat}{fs:List Fr}(h:∀ i (h:i<fs.length),Tr n B fs[i])(k:Nat){f:Fr}(b:Tr n B f):∀ i (h:i<(fs.set k f).length),Tr n B (fs.set k f)[i]:=fun i c=>by
 rcases Pu fs k f i c with⟨_,e⟩|⟨_,a,e⟩
 ·rw[e];exact b
 ·rw[e];exact h i a
theorem tR {fs:List Fr}(h:∀ i j (hi:i<fs.length) (hj:j<fs.length),i≠j→Full fs[i]→Full fs[j]→fs[i].page≠fs[j].page)(k:Nat)(f:Fr)(o:Full f→∀ j (hj:j<fs.length),j≠k→Full fs[j]→f.page≠fs[j].page):
 ∀ i j (hi:i<(fs.set k f).length) (hj:j<(fs.set k f).length),i≠j→Full (fs.set k f)[i]→Full (fs.set k f)[j]→(fs.set k f)[i].page≠(fs.set k f)[j].page:=fun i j hi hj d b c=>by
 rcases Pu fs k f i hi with⟨m,e⟩|⟨m,g,e⟩<;>rcases Pu fs k f j hj with⟨n,a⟩|⟨n,l,a⟩
 ·exact absurd (m.trans n.symm) d
 ·rw[e,a];rw[e]at b;rw[a]at c;exact o b j l n c
 ·rw[e,a];rw[e]at b;rw[a]at c;exact fun p=>o c i g m b p.symm
 ·rw[e,a];rw[e]at b;rw[a]at c;exact h i j g l d b c
theorem Wf.put {N n B:Nat}{s:Tx.St}{fs:List Fr}(h:Wf N n B s fs)(k:Nat){f:Fr}(a:Tr n B f)(b:Full f→∀ j (hj:j<fs.length),j≠k→Full fs[j]→f.page≠fs[j].page):Wf N n B s (fs.set k f):=
 ⟨h.zl,h.zp,h.n1,h.lb,h.al,h.ln,h.ef,h.dk,by rw[List.length_set];exact h.nf,h.hd,Tr.set h.fr k a,tR h.ds k f b,h.tl,h.tx⟩
theorem Wf.set {N n B:Nat}{s:Tx.St}{fs:List Fr}(h:Wf N n B s fs){k:Nat}(c:k<fs.length){f:Fr}(d:Tr n B f)(g:f.page=fs[k].page)(i:Full f→Full fs[k]):Wf N n B s (fs.set k f):=
 h.put k d fun l j m a b=>by rw[g];exact h.ds k j c m (fun e=>a e.symm) (i l) b
theorem Tr.mark {n B:Nat}{f:Fr}(h:Tr n B f)(m:Bool):Tr n B {f with mark:=m}:=⟨h.sz,h.pn,h.rc,h.pg,h.is,h.rz⟩
theorem Jn:Rc.num 0:=⟨by decide,by decide⟩
theorem Tr.clean {n B:Nat}{f:Fr}(h:Tr n B f):Tr n B {f with rc:=0}:=⟨h.sz,h.pn,Jn,h.pg,h.is,fun h=>absurd rfl h⟩
theorem Wf.marks {N n B:Nat}{s:Tx.St}{fs fs':List Fr}(h:Wf N n B s fs)(a:iI fs fs'):Wf N n B s fs':=
 have g:=a.len
 ⟨h.zl,h.zp,h.n1,h.lb,h.al,h.ln,h.ef,h.dk,by rw[g];exact h.nf,h.hd,fun i b=>by rw[a.at_ i (by omega) b];exact(h.fr i (by omega)).mark _,fun i j b k c d f=>by
   have e:=a.at_ i (by omega) b;have l:=a.at_ j (by omega) k;rw[e]at d ⊢;rw[l]at f ⊢;exact h.ds i j (by omega) (by omega) c d f,h.tl,h.tx⟩
theorem Wf.hand {N n B:Nat}{s:Tx.St}{fs:List Fr}(h:Wf N n B s fs){x:Int}(a:0≤x∧x≤64):Wf N n B {s with hand:=x} fs:=
 ⟨h.zl,h.zp,h.n1,⟨h.lb.e0,h.lb.e1,h.lb.t0,h.lb.t1,h.lb.f,h.lb.n0,h.lb.n1,h.lb.s0,h.lb.s1⟩,h.al,h.ln,h.ef,h.dk,h.nf,a,h.fr,h.ds,h.tl,h.tx⟩
theorem Wf.Am {N n B:Nat}{s:Tx.St}{fs:List Fr}(h:Wf N n B s fs){d:Lg.Dk}(a:Mp (1+N+4*n) d):Wf N n B {s with Am:=d} fs:=
 ⟨h.zl,h.zp,h.n1,⟨h.lb.e0,h.lb.e1,h.lb.t0,h.lb.t1,h.lb.f,h.lb.n0,h.lb.n1,h.lb.s0,h.lb.s1⟩,h.al,h.ln,h.ef,a,h.nf,h.hd,h.fr,h.ds,h.tl,h.tx⟩
structure Ww (N:Nat) (l:Lg.Lo):Prop where
 e0:0≤l.end_
 ef:l.end_≤(N:Int)*128
 t0:(l.tail.size:Int)≤l.end_
 t1:l.end_%128≤(l.tail.size:Int)
 f:l.from_=1
 n:l.n=(N:Int)
 al:Lg.Al l
theorem Wf.low {N n B:Nat}{s:Tx.St}{fs:List Fr}(h:Wf N n B s fs):Ww N s.log:=⟨h.lb.e0,h.ef,h.lb.t0,h.lb.t1,h.lb.f,h.ln,h.al⟩
theorem Wf.log {N n B:Nat}{s:Tx.St}{fs:List Fr}(h:Wf N n B s fs){l:Lg.Lo}(a:Ww N l):Wf N n B {s with log:=l} fs:=by
 have b:=h.n1.2.2;have c:=a.ef;have d:=a.n;exact⟨h.zl,h.zp,h.n1,⟨a.e0,by show l.end_≤_;omega,a.t0,a.t1,a.f,by show 0≤l.n;omega,by show l.n≤_;omega,a.al.s0,a.al.se⟩,a.al,a.n,a.ef,h.dk,h.nf,h.hd,h.fr,h.ds,h.tl,h.tx⟩
theorem Ww.forced {N:Nat}{l:Lg.Lo}(h:Ww N l):Ww N (Lg.Jz l):=by
 have b:=h.e0;have c:=h.t1;have a:((Lg.Jz l).tail.size:Int)=l.end_%128:=by
  unfold Lg.Jz
  show((l.tail.extract (l.tail.size-(l.end_%128).toNat) l.tail.size).size:Int)=_
  rw[ByteArray.size_extract];omega
 refine⟨b,h.ef,?_,?_,h.f,h.n,⟨b,Int.le_refl _,?_⟩⟩
 ·rw[a];show _≤l.end_;omega
 ·rw[a];exact Int.le_refl _
 ·rw[a];rfl
theorem Ww.force {N:Nat}{l:Lg.Lo}(h:Ww N l)(d:Lg.Dk):Ww N (Lg.Bo d l).2.1:=by
 unfold Lg.Bo
 split
 ·exact h
 ·simp only
  split
  ·exact h.forced
  ·exact h
theorem Ww.append {N:Nat}{l:Lg.Lo}(h:Ww N l)(r:Rc.Rec):Ww N (Lg.Ay l r).1:=by
 have a:=Tx.iE r h.al
 revert a
 unfold Lg.Ay;simp only
 split
 ·intro _;exact h
 ·split
  ·intro _;exact h
  ·rename_i d
   intro a;have e:=h.e0;have g:=h.t0;have i:=h.t1;have b:=h.n;have c:(⟨(Lg.Ei {r with lsn:=l.end_+1}).toArray⟩:ByteArray).size=(Lg.Ei {r with lsn:=l.end_+1}).length:=(by show(Lg.Ei {r with lsn:=l.end_+1}).toArray.size=_;simp);rw[b]at d;refine⟨?_,?_,?_,?_,h.f,b,a⟩
   ·show 0≤l.end_+_;omega
   ·show l.end_+_≤_;omega
   ·show((l.tail++_).size:Int)≤l.end_+_;rw[ByteArray.size_append,c];omega
   ·show(l.end_+_)%128≤((l.tail++_).size:Int);rw[ByteArray.size_append,c];omega
theorem Wf.force {N n B:Nat}{s:Tx.St}{fs:List Fr}(h:Wf N n B s fs):Wf N n B {s with Am:=(Lg.Bo s.Am s.log).1,log:=(Lg.Bo s.Am s.log).2.1} fs:=
 (h.log (h.low.force s.Am)).Am (h.dk.force s.log)
theorem Ux {N n B:Nat}{s:Tx.St}{fs:List Fr}(h:Wf N n B s fs){p:Int}(b:0≤p∧p<(n:Int)):Ec s p+4≤1+N+4*n∧((Ec s p:Nat):Int)=1+s.zlog+4*p:=by
 have a:=h.zl;unfold Ec;rw[a];omega
theorem Wf.flush {N n B:Nat}{s:Tx.St}{fs:List Fr}(h:Wf N n B s fs){k:Nat}(c:k<fs.length):Wf N n B (Cy s fs k).s (Cy s fs k).fs∧(Cy s fs k).fs.length=fs.length:=by
 have d:=h.force;have e:=fun a b=>d.Am (Mp.E0 d.dk a b 4);unfold Cy
 split
 ·exact⟨h,rfl⟩
 ·split
  ·exact⟨d,rfl⟩
  ·split
   ·exact⟨e _ _,rfl⟩
   ·rw[Br c]
    exact⟨(e _ _).set c (h.fr k c).clean rfl fun h=>h,List.length_set⟩
theorem Km (n:Nat)(hn:0<n):∀ (j a:Nat) (fs0 fs:List Fr) (k:Nat) (fs':List Fr),fs.length=n→a<n→iI fs0 fs→E2 n j a fs=some (k,fs')→k<n∧iI fs0 fs'∧¬ 0<(Cp fs' k).pins
 |0,_,_,_,_,_,_,_,_,h=>by cases h
 |j+1,a,fs0,fs,k,fs',hl,ha,hm,h=>by
  unfold E2 at h
  split at h
  ·exact Km n hn j _ fs0 fs k fs' hl (Nat.mod_lt _ hn) hm h
  ·split at h
   ·rw[Br (show a<fs.length by omega)]at h
    exact Km n hn j _ fs0 _ k fs' (by rw[List.length_set];exact hl) (Nat.mod_lt _ hn) (hm.set (by omega) false) h
   ·rename_i h1 _
    injection h with h
    injection h with e1 e2
    subst e1 e2;exact⟨ha,hm,h1⟩
theorem Wf.room {N n B:Nat}{s:Tx.St}{fs:List Fr}(h:Wf N n B s fs):Wf N n B (A9 s fs).1.s (A9 s fs).1.fs∧(A9 s fs).1.fs.length=fs.length∧(A9 s fs).2<fs.length:=by
 have j:=h.nf;unfold A9
 split
 ·rename_i k b
  refine⟨h,rfl,?_⟩;unfold Hb at b;exact(List.findIdx?_eq_some_iff_getElem.1 b).1
 ·split
  ·exact⟨h,rfl,by show 0<fs.length;omega⟩
  ·rename_i k a d
   obtain⟨e,c,_⟩:=Km fs.length (by omega) _ _ fs fs k a rfl (Nat.mod_lt _ (by omega)) (iI.refl fs) d;have f:=c.len;have l:(k+1)%fs.length<fs.length:=Nat.mod_lt _ (by omega);obtain⟨g,i⟩:=((h.hand (x:=(((k+1)%fs.length:Nat):Int)) (by omega)).marks c).flush (k:=k) (by omega);exact⟨g,i.trans f,e⟩
theorem iK (s:Tx.St)(fs:List Fr){k:Nat}(a:k<fs.length):Tz fs (Cy s fs k).fs:=by
 unfold Cy
 split
 ·exact Tz.refl fs
 ·split
  ·exact Tz.refl fs
  ·split
   ·exact Tz.refl fs
   ·rw[Br a]
    exact Tz.set fs k a _ rfl rfl
theorem Sy {N n B:Nat}{s:Tx.St}{fs:List Fr}(h:Wf N n B s fs):Tz fs (A9 s fs).1.fs:=by
 have d:=h.nf;unfold A9
 split
 ·exact Tz.refl fs
 ·split
  ·exact Tz.refl fs
  ·rename_i k a c
   obtain⟨e,b,_⟩:=Km fs.length (by omega) _ _ fs fs k a rfl (Nat.mod_lt _ (by omega)) (iI.refl fs) c;exact(Tz.marks b).trans (iK _ _ (by have:=b.len;omega)) b.len
theorem nI {fs:List Fr}{p:Int}(h:Jl fs p=none):∀ j (hj:j<fs.length),Full fs[j]→fs[j].page≠p:=fun j hj b e=>by
 unfold Jl at h;have a:=List.findIdx?_eq_none_iff.1 h fs[j] (List.getElem_mem hj);simp only[decide_eq_false_iff_not]at a;exact a ⟨b,e⟩
theorem Wf.back {N n B:Nat}{s:Tx.St}{fs:List Fr}(h:Wf N n B s fs){x:Px}(a:Wf N n B x.s x.fs)(b:x.fs.length=fs.length):Wf N n B (De s fs x).s (De s fs x).fs∧(De s fs x).fs.length=fs.length:=by
 unfold De
 split
 ·exact⟨a,b⟩
 ·exact⟨h,rfl⟩
theorem qQ (s:Tx.St)(p:Int)(h:(Db s p).2=0):Bj (Db s p).1=true:=by
 unfold Db at h ⊢
 split
 ·rename_i b;rw[if_pos b]at h;exact absurd h (by decide)
 ·split
  ·exact(Rf 0 (by omega)).1.is
  ·split
   ·rename_i a
    unfold Gs at a;rw[Bool.and_eq_true]at a;exact nH a.1
   ·rename_i b c a
    rw[if_neg b,if_neg c,if_neg a]at h;exact absurd h (by decide)
theorem qR (s:Tx.St)(p:Int):(Db s p).1.size≤512:=by
 unfold Db
 split
 ·decide
 ·split
  ·exact Nat.le_of_eq (Rf 0 (by omega)).1.size
  ·split
   ·exact Oq _ _
   ·decide
theorem Ns {fs:List Fr}{p:Int}{k:Nat}(h:Jl fs p=some k):∃ hk:k<fs.length,Full fs[k]∧fs[k].page=p:=by
 unfold Jl at h;obtain⟨a,b,_⟩:=List.findIdx?_eq_some_iff_getElem.1 h;exact⟨a,by simpa using b⟩
theorem Wf.held {N n B:Nat}{s:Tx.St}{fs:List Fr}(h:Wf N n B s fs)(p:Int):Wf N n B (Aq s fs p).1.s (Aq s fs p).1.fs∧(Aq s fs p).1.fs.length=fs.length∧(Aq s fs p).2<fs.length∧
 ((Aq s fs p).1.e=0→(0≤p∧p<(n:Int))∧Full (Cp (Aq s fs p).1.fs (Aq s fs p).2)∧(Cp (Aq s fs p).1.fs (Aq s fs p).2).page=p):=by
 have a:=h.nf;have D:=h.zp;have m:0<fs.length:=by omega
 by_cases c:Gh s p
 ·have b:0≤p∧p<(n:Int):=by unfold Gh at c;omega
  cases d:Jl fs p with
  |some k=>
   have e:Aq s fs p=(⟨s,fs.set k {Cp fs k with mark:=true},0⟩,k):=by
    unfold Aq;rw[if_neg (fun a=>a c),d]
   rw[e];obtain⟨f,w,x⟩:=Ns d;rw[Br f];refine⟨h.set f ((h.fr k f).mark true) rfl fun h=>h,List.length_set,f,fun _=>⟨b,?_⟩⟩;simp only;rw[Br (by rw[List.length_set];exact f),List.getElem_set_self];exact⟨w,x⟩
  |none=>
   by_cases g:(Db s p).2=0
   ·obtain⟨t,l,u⟩:=h.room
    by_cases o:(A9 s fs).1.e=0
    ·have e:Aq s fs p=(⟨(A9 s fs).1.s,(A9 s fs).1.fs.set (A9 s fs).2 ⟨p,(Db s p).1,0,true,0⟩,0⟩,(A9 s fs).2):=by
      unfold Aq;rw[if_neg (fun a=>a c),d];simp only;rw[if_neg (fun a=>a g),if_pos o]
     rw[e];have v:=qQ s p g;have q:=Rg v;refine⟨t.put _ ⟨qR s p,⟨Int.le_refl _,by show(0:Int)≤(B:Int);omega⟩,Jn,b,fun _=>v,fun h=>absurd rfl h⟩ (fun _ j y _ r=>fun z=>(Sy h).none_ l (nI d) j y r z.symm),by rw[List.length_set];exact l,u,fun _=>⟨b,?_⟩⟩;simp only;rw[Br (by rw[List.length_set,l];exact u),List.getElem_set_self];exact⟨q,rfl⟩
    ·have e:Aq s fs p=(De s fs (A9 s fs).1,0):=by
      unfold Aq;rw[if_neg (fun a=>a c),d];simp only;rw[if_neg (fun a=>a g),if_neg o]
     rw[e];obtain⟨A,C⟩:=h.back t l;refine⟨A,C,m,fun i=>absurd i ?_⟩;unfold De;simp only
     split<;>exact o
   ·have e:Aq s fs p=(⟨s,fs,(Db s p).2⟩,0):=by
     unfold Aq;rw[if_neg (fun a=>a c),d];simp only;rw[if_pos g]
    rw[e];exact⟨h,rfl,m,fun i=>absurd i g⟩
 ·have e:Aq s fs p=(⟨s,fs,1⟩,0):=by unfold Aq;rw[if_pos c]
  rw[e];exact⟨h,rfl,m,fun i=>absurd i (by show ¬ (1:Int)=0;decide)⟩
theorem Sz {N:Nat}{l:Lg.Lo}(h:Ww N l)(a:N≤3000)(r:Rc.Rec):Rc.num (Lg.Ay l r).2.1:=by
 have b:=h.e0;have c:=h.ef;unfold Lg.Ay;simp only
 split
 ·exact Jn
 ·split
  ·exact Jn
  ·exact⟨by show 0≤l.end_+1;omega,by show l.end_+1<_;omega⟩
theorem iL {l:Lg.Lo}{r:Rc.Rec}(h:(Lg.Ay l r).2.2=0):Rc.Cv {r with lsn:=l.end_+1}∧(Lg.Ay l r).2.1=l.end_+1:=by
 unfold Lg.Ay at h ⊢;simp only at h ⊢
 split at h
 ·exact absurd h (by show ¬ (1:Int)=0;decide)
 ·rename_i a
  split at h
  ·exact absurd h (by show ¬ (18:Int)=0;decide)
  ·rename_i b
   rw[if_neg a,if_neg b];exact⟨Classical.byContradiction fun c=>a c,rfl⟩
theorem cE {r:Rc.Rec}(h:Rc.Cv r)(g:r.kind=3):Rc.num r.next:=by
 cases h with
 |small kind a prev b i c d f=>exact Jn
 |change a prev b page op how root e c d f h4 h5 h6=>exact absurd g (by show ¬ (2:Int)=3;decide)
 |clr a prev b page op next c d f h4 h5 h6=>exact h6
 |nest a prev b next c d f h6=>exact h6
 |image a prev b page op c d f h4 h5=>exact absurd g (by show ¬ (8:Int)=3;decide)
 |check a prev b n ts ds c d f h4 h5=>exact absurd g (by show ¬ (9:Int)=3;decide)
theorem Ot {a:List Rc.Ci}{i:Nat}(h:i<a.length):F9 a i=a[i]:=by unfold F9;rw[List.getElem?_eq_getElem h];rfl
theorem Wf.xM {N n B:Nat}{s:Tx.St}{fs:List Fr}(h:Wf N n B s fs){x:Px}(d:Wf N n B x.s x.fs)(y:x.fs.length=fs.length){k i:Nat}(e:k<x.fs.length)(hi:i<x.s.txns.length)(r:Rc.Rec){b:ByteArray}(p:Bj b=true)(q:Full (Cp x.fs k)):
 Wf N n B (Ty x k i s fs r b).s (Ty x k i s fs r b).fs∧(Ty x k i s fs r b).fs.length=fs.length:=by
 have u:=h.n1.2.2;rw[Br e]at q;have j:Ww N (E3 x.s (Cp x.fs k) r.page).1∧Rc.num (E3 x.s (Cp x.fs k) r.page).2.1:=by
  unfold E3
  split
  ·exact⟨d.low.append _,Sz d.low u _⟩
  ·rw[Br e]
   exact⟨d.low,(d.fr k e).rc⟩
 unfold Ty;simp only;generalize E3 x.s (Cp x.fs k) r.page=m at j ⊢
 split
 ·exact⟨h,rfl⟩
 ·have v:=j.1.append {r with prev:=(F9 x.s.txns i).last}
  have g:=Sz j.1 u {r with prev:=(F9 x.s.txns i).last};have w:=iL (l:=m.1) (r:={r with prev:=(F9 x.s.txns i).last});generalize Lg.Ay m.1 {r with prev:=(F9 x.s.txns i).last}=a at v g w ⊢
  split
  ·exact⟨h,rfl⟩
  ·rename_i z
   have o:=(w (Classical.byContradiction fun A=>z A)).1;have C:=d.log v;have hF:=d.fr k e;rw[Br e];have c:=C.set e (f:=⟨x.fs[k].page,Cj b a.2.1,x.fs[k].pins,true,m.2.1⟩) ⟨Oq _ _,hF.pn,j.2,hF.pg,fun _=>Wg p g,fun _=>Rg (Wg p g)⟩ rfl (fun _=>q);refine⟨⟨c.zl,c.zp,c.n1,⟨c.lb.e0,c.lb.e1,c.lb.t0,c.lb.t1,c.lb.f,c.lb.n0,c.lb.n1,c.lb.s0,c.lb.s1⟩,c.al,c.ln,c.ef,c.dk,c.nf,c.hd,c.fr,c.ds,by show(x.s.txns.set _ _).length≤_;rw[List.length_set];exact d.tl,fun t D=>?_⟩,by simp only;rw[List.length_set];exact y⟩;rcases List.mem_or_eq_of_mem_set D with h1|h1
   ·exact d.tx t h1
   ·rw[h1,Ot hi]
    refine⟨(d.tx _ (List.getElem_mem hi)).1,g,?_⟩
    show Rc.num (if r.kind=3 then r.next else a.2.1)
    split
    ·rename_i E
     exact(show Rc.num r.next from cE (r:={({r with prev:=(F9 x.s.txns i).last}:Rc.Rec)with lsn:=m.1.end_+1}) o E)
    ·exact g
theorem cF (s:Tx.St)(fs:List Fr)(k:Nat):(Cy s fs k).s.txns=s.txns∧(Cy s fs k).s.next=s.next:=by
 unfold Cy
 split
 ·exact⟨rfl,rfl⟩
 ·split
  ·exact⟨rfl,rfl⟩
  ·split<;>exact⟨rfl,rfl⟩
theorem Uy (s:Tx.St)(fs:List Fr):(A9 s fs).1.s.txns=s.txns∧(A9 s fs).1.s.next=s.next:=by
 unfold A9
 split
 ·exact⟨rfl,rfl⟩
 ·split
  ·exact⟨rfl,rfl⟩
  ·exact cF _ _ _
theorem iM {s:Tx.St}{fs:List Fr}{x:Px}(h:x.s.txns=s.txns∧x.s.next=s.next):(De s fs x).s.txns=s.txns∧(De s fs x).s.next=s.next:=by
 unfold De
 split
 ·exact h
 ·exact⟨rfl,rfl⟩
theorem Pv (s:Tx.St)(fs:List Fr)(p:Int):(Aq s fs p).1.s.txns=s.txns∧(Aq s fs p).1.s.next=s.next:=by
 unfold Aq
 split
 ·exact⟨rfl,rfl⟩
 ·split
  ·exact⟨rfl,rfl⟩
  ·split
   ·exact⟨rfl,rfl⟩
   ·split
    ·exact Uy s fs
    ·exact iM (Uy s fs)
theorem Wf.change {N n B:Nat}{s:Tx.St}{fs:List Fr}(h:Wf N n B s fs)(r:Rc.Rec)(D:ByteArray→ByteArray×Int)(k:∀ q,(D q).2=0→Bj (D q).1=true):Wf N n B (D5 s fs r D).s (D5 s fs r D).fs∧(D5 s fs r D).fs.length=fs.length:=by
 obtain⟨a,b,l,g⟩:=h.held r.page;have j:=(Pv s fs r.page).1;unfold D5
 split
 ·exact⟨h,rfl⟩
 ·split
  ·exact⟨h,rfl⟩
  ·rename_i i m
   have c:=(List.findIdx?_eq_some_iff_getElem.1 m).1;generalize Aq s fs r.page=x at a b l g j ⊢
   split
   ·exact⟨a,b⟩
   ·rename_i o
    have d:x.1.e=0:=Classical.byContradiction fun f=>o f
    split
    ·exact⟨h,rfl⟩
    ·rename_i p
     exact h.xM a b (by omega) (by rw[j];exact c) r (k _ (Classical.byContradiction fun f=>p f)) (g d).2.1
theorem Wf.xI {N n B:Nat}{s:Tx.St}{fs:List Fr}(h:Wf N n B s fs)(p:Int):Wf N n (B+1) (My s fs p).s (My s fs p).fs∧(My s fs p).fs.length=fs.length:=by
 obtain⟨c,d,f,g⟩:=h.held p;unfold My;generalize Aq s fs p=x at c d f g ⊢
 split
 ·have e:x.2<x.1.fs.length:=by omega
  have b:=c.fr x.2 e;rw[Br e];exact⟨(c.more (Nat.le_succ B)).set e ⟨b.sz,⟨by show 0≤x.1.fs[x.2].pins+1;have:=b.pn;omega,by show x.1.fs[x.2].pins+1≤_;have:=b.pn;omega⟩,b.rc,b.pg,b.is,b.rz⟩ rfl (fun a=>a),by simp only;rw[List.length_set];exact d⟩
 ·exact⟨c.more (Nat.le_succ B),d⟩
theorem Wf.vQ {N n B:Nat}{s:Tx.St}{fs:List Fr}(h:Wf N n B s fs)(p:Int):Wf N n B (Ff s fs p).s (Ff s fs p).fs∧(Ff s fs p).fs.length=fs.length:=by
 unfold Ff
 split
 ·exact⟨h,rfl⟩
 ·split
  ·exact⟨h,rfl⟩
  ·rename_i k d
   obtain⟨c,_⟩:=Ns d;rw[Br c]
   split
   ·exact⟨h,rfl⟩
   ·have b:=h.fr k c
    exact⟨h.set c ⟨b.sz,⟨by show 0≤fs[k].pins-1;omega,by show fs[k].pins-1≤_;have:=b.pn;omega⟩,b.rc,b.pg,b.is,b.rz⟩ rfl (fun a=>a),List.length_set⟩
theorem Wf.eY {N n B:Nat}{s:Tx.St}{fs:List Fr}(h:Wf N n B s fs)(p:Int):Wf N n B (Df s fs p).s (Df s fs p).fs∧(Df s fs p).fs.length=fs.length:=by
 unfold Df
 split
 ·exact⟨h,rfl⟩
 ·split
  ·exact⟨h,rfl⟩
  ·rename_i k a
   obtain⟨b,_⟩:=Ns a;obtain⟨f1,f2⟩:=h.flush b;exact h.back f1 f2
theorem nJ {P:Program}{op:Oper}{a:Act}{w:World}{K:Act→World→Prop}{Q:Exit→Act→World→Prop}(ty:TypeId)(x y:Operand)(g:op.op= .store ty x y)
 (b o:Nat) (part cur res:Array Value) (t:TypeId) (j:a.eval x= .pointer (some ⟨b,o,none⟩)) (hy:a.eval y= .agg part) (k:w.heap[b]? =some (.cells cur t (0,0))) (l:res=(cur.toList.take o++part.toList++cur.toList.drop (o+part.toList.length)).toArray)
 (e:decide (o+part.toList.length≤cur.size)=true) (hi:(P.info? ty).map (·.size)=some part.size) (m:part.all (·.oneCell')=true) (h:K (a.put op.dst undef) (w.setRow b res)):op.wp P a w K Q:=by
 have c:=run_storeCells_at P b o t part.toList 0 cur w k (by rw[Nat.add_zero];exact of_decide_eq_true e) (fun v n=>(Array.all_eq_true_iff_forall_mem.1 m) v (by simpa using n));rw[Nat.add_zero,← l]at c;have d:(storeVar ty ⟨b,o,none⟩ (.agg part)).run P w= .ok () (w.setRow b res):=by
  cases f:P.info? ty with
  |none=>simp[f]at hi
  |some i=>
   have p:part.size=i.size:=by simp[f]at hi;omega
   simp[storeVar,sizeOf,typeInfo,f,Value.cells,p,c]
 unfold Oper.wp execOp;simp only[g,j,hy,Instr.storeAt,Instr.sureAddr,Sem.run_bind,Sem.run_pure,Result.andThen_ok,d];exact h
theorem An.set {w:World}{s:Tx.St}{p:SP}{fs:List Fr}(h:An w s p fs){b:Nat}{cur:Array Value}{t:TypeId}{fr:Nat×Nat}(a:w.heap[b]? =some (.cells cur t fr))(c:t≠9)(d:t≠134)(e:t≠116)(j:Nat)(v:Value):An (w.setCell ⟨b,j,none⟩ v) s p fs:=by
 rw[setCell_eq_setRow w b j cur t fr v a];exact h.other a c d e _
theorem An.own {w:World}{s:Tx.St}{p:SP}{fs:List Fr}(h:An w s p fs){g:Nat}{cur:Array Value}{fr:Nat×Nat}(b:w.heap[g]? =some (.cells cur 116 fr))(a:∀ ad,p.F=some ad→ad.block≠g)(j:Nat)(v:Value):An (w.setCell ⟨g,j,none⟩ v) s p fs:=
 ⟨h.st.set b (by decide) (by decide) j v,h.fn,h.fr.off g j v (fun _=>a),h.ft.set g j v⟩
theorem An.Am {w w':World}{s:Tx.St}{p:SP}{fs:List Fr}(h:An w s p fs)(b:Bw w w'){d:Lg.Dk}{A:Option Addr}{c:Nat}(l:Lg.Lo)(e:By w' d A c)(f:C4 0 w' 9 A):An w' {s with Am:=d,log:=l} {p with A:=A,c:=c} fs:=by
 have a:=h.below b;exact⟨⟨e,f,a.st.tx,a.st.tt⟩,a.fn,a.fr,a.ft⟩
theorem Gx (s:Tx.St)(p:SP)(fs:List Fr)(K:fs.length≤100)(k:Nat)(L:k<fs.length)(f:Fr)(w:World)(h:An w s p fs):
 Cq 146 #[Af s p,k,.agg (Cg f)] w fun e w'=>∃ q,e= .returned (Af s q)∧An w' s q (fs.set k f)∧Bw w w':=by
 have M:=Hq h;have j:=Hq h.fn;have z:=Hq (fun W (N:Bw w W)=>Sx fs (by omega) p.F p.fc W (h.fr.below N));clear h;go_enter Tryz.func146,Tryz.ntmps146;go_upto_region 1 with fail;have b:=Jo w (Ai s p) 36 (Cg f) 116 #[(),(),(),'s',(),false,(),(),(),(),"",'s',(),'s',()] 36;obtain⟨A,l⟩:=Dr b;rw[← l]at b ⊢;clear l;have O:=show A.cell? ⟨w.heap.size,11,none⟩=some (.slice p.F fs.length p.fc)from by rw[Aa b.out.Ag,← j.out];rfl
 go_upto_region 2 with(go_at_call 207;refine(z.out _ b.out.below).mono ?_;rintro e B ⟨v,rfl,C,m⟩;obtain⟨g,c2,rfl,P⟩:=Ol C (by omega);have H1:=Hq (b.out.step m);have D:=show B.cell? ⟨w.heap.size,11,none⟩=some (.slice p.F fs.length p.fc)from(by rw[Aa H1.out.Ag,← j.out];rfl);have E:=Ao H1.out.Ag 11)
 have G:w.heap.size<A.heap.size:=by have:=b.out.lt (i:=0) (by simp);omega
 have n:=Hq (show Dm w.heap.size w [((Ai s {p with F:=some ⟨g,0,none⟩,fn:=fs.length,fc:=c2}),36),((Cg f),116),(#[(),(),(),'s',(),false,(),(),(),(),"",'s',(),'s',()],36)] (B.setCell ⟨w.heap.size,11,none⟩ (.slice (some ⟨g,0,none⟩) fs.length c2))from by have h:=H1.out.set 0 11 (.slice (some ⟨g,0,none⟩) fs.length c2) _ rfl;simpa using h);have c:=Hq (Ja C ⟨w.heap.size,11,none⟩ (.slice (some ⟨g,0,none⟩) fs.length c2) G);generalize B.setCell ⟨w.heap.size,11,none⟩ (.slice (some ⟨g,0,none⟩) fs.length c2)=w2 at n c ⊢;have I:(0:Int)≤(k:Int):=by omega
 have Q:(k:Int)<(fs.length:Int):=by omega
 obtain⟨o,r,t⟩:=eU Cc c.out k L f;have a:w2.there g (k*5) (Cg f).size:=o;have H:=show w2.cell? ⟨w.heap.size,11,none⟩=some (.slice (some ⟨g,0,none⟩) fs.length c2)from by rw[Aa n.out.Ag];rfl
 clear O D E
 go_upto_region 3 with(first|with_reducible refine lL n.out.Ah Cw ?_|with_reducible refine wpList_store_mid rfl 116 (.tmp 18) (.tmp 17) rfl g (k*5) (Cg f) rfl rfl a Kr Kr ?_)
 have R:w.heap.size+3≤A.heap.size:=b.out.lt (i:=2) (by simp);have u:=Hq (n.out.under R t);have x:=Hq r;rw[show([.int .i64 f.page,.string f.bytes,.int .i64 f.pins,.bool f.mark,.int .i64 f.rc]:List Value)=F4 f from rfl];generalize w2.setCells g (k*5) (F4 f)=w3 at u x ⊢
 try simp only[Act.put]
 clear o a r t H H1 n c C m
 go_wp2_with(first|with_reducible refine lL u.out.Ag Ak ?_|with_reducible refine lS (Ai s {p with F:=some ⟨g,0,none⟩,fn:=fs.length,fc:=c2}) u.out.Ax ?_)
 refine rT1 u.out.Ax Ak ?_;have J:=(u.out.row 2 (Ai s {p with F:=some ⟨g,0,none⟩,fn:=fs.length,fc:=c2}) _ rfl).below;have y:=M.out.below J;have d:=I3 x.out (w.heap.size+2) (Ai s {p with F:=some ⟨g,0,none⟩,fn:=fs.length,fc:=c2}) (by omega);exact⟨{p with F:=some ⟨g,0,none⟩,fn:=fs.length,fc:=c2},rfl,⟨⟨y.st.dk,y.st.dt,y.st.tx,y.st.tt⟩,by rw[List.length_set],by rw[List.length_set];exact Dq (by rw[List.length_set]at d;exact d),(C4.own d).mono (Nat.zero_le _)⟩,J⟩
theorem Y5 (d:Lg.Dk)(A:Option Addr)(c:Nat)(a:Nat)(b:a+4≤d.sectors.length)(e:d.sectors.length≤1000000)(w:World):
 Cr 258 #[Cd d A c,.int .i64 (a:Int)] w (.bool true):=by
 obtain⟨L,left,down⟩:=d;simp only at b e;have g:(0:Int)≤(a:Int):=by omega
 have h:(a:Int)≤(L.length:Int)-4:=by omega
 have f:IntKind.i64.wrap ((L.length:Int)-4)=(L.length:Int)-4:=IntWalk.i64_in _ (by omega);clear b e;go_enter Tryz.func258,Tryz.ntmps258;go_wp2_with fail;go_ret;exact⟨by simp,Ad _ _⟩
theorem iN (L:List ByteArray){a k:Nat}(h:a+k<L.length):Lg.flat ((L.drop a).take (k+1))=Lg.flat ((L.drop a).take k)++(L[a+k]?.getD ⟨#[]⟩).data.toList:=by
 have e:(L.drop a).take (k+1)=(L.drop a).take k++[L[a+k]]:=by
  rw[List.take_add_one,List.getElem?_drop,List.getElem?_eq_getElem h];rfl
 rw[e,Lg.Yo,List.getElem?_eq_getElem h,Option.getD_some]
 congr 1
 unfold Lg.flat
 simp
theorem T5 (d:Lg.Dk)(r:d.down=false)(Q:∀ b∈d.sectors,b.size=128)(A:Option Addr)(c:Nat)(a:Nat)(R:a+4≤d.sectors.length)(w:World)(h:By w d A c):
 Cr 208 #[Cd d A c,.int .i64 (a:Int)] w (.tuple #[.string (Hg d a),()]):=by
 have HR:=Hq (fun(k:Nat) (P:k<4) W (hb:Bw w W)=>show Cr 259 #[Cd d A c,.int .i64 ((a:Int)+(k:Int))] W (.tuple #[.string (d.sectors[a+k]?.getD ⟨#[]⟩),()]) from by
  have h9:=Um d A c ((a:Int)+(k:Int)) W (h.below hb);have e:Lg.Jy d ((a:Int)+(k:Int))=(d.sectors[a+k]?.getD ⟨#[]⟩,0):=by
   unfold Lg.Jy;rw[if_neg (by rw[r];decide),if_pos (show Lg.G8 d _ from⟨by omega,by omega⟩)];unfold Lg.Io;rw[show((a:Int)+(k:Int)).toNat=a+k by omega]
  rw[e]at h9;exact h9)
 have D:=Hq (fun W=>Y5 d A c a R h.small W);have E:=Hq (fun(k:Nat) (P:k<4)=>iN d.sectors (a:=a) (k:=k) (by omega));have F:=Hq (fun(k:Nat) (P:k<4)=>show(d.sectors[a+k]?.getD ⟨#[]⟩).size=128 from by rw[List.getElem?_eq_getElem (by omega),Option.getD_some];exact Q _ (List.getElem_mem _));have G:=Hq (fun k (P:k≤4)=>show(Lg.flat ((d.sectors.drop a).take k)).length≤512 from by
  have h1:=Lg.Di (L:=(d.sectors.drop a).take k) (fun x hx=>Q x (List.mem_of_mem_drop (List.mem_of_mem_take hx)));have h2:=List.length_take_le k (d.sectors.drop a);omega)
 have s:=Hq (show Hg d a=⟨(Lg.flat ((d.sectors.drop a).take 4)).toArray⟩from rfl);have S:=h.small;have ad:a≤1000000:=by omega
 obtain⟨L,left,down⟩:=d;simp only at r;subst r;dsimp only[Cd]at HR D ⊢;simp only at E F s G R;generalize Hg ⟨L,left,false⟩ a=pp at s ⊢;clear h Q S;clear R;go_enter Tryz.func208,Tryz.ntmps208;go_upto_region 1 with fail;have m:=Hq (heap_alloc_new w (.cells #[.slice A L.length c,left,false] 28));have t:=Hq (Ad w (.cells #[.slice A L.length c,left,false] 28));obtain⟨W0,H⟩:=ex (w.alloc (.cells #[.slice A L.length c,left,false] 28));rw[← H]at m t ⊢;clear H;have T:=show W0.cell? ⟨w.heap.size,2,none⟩=some (.bool false)from by rw[Aa m.out];rfl
 go_upto_region 4 with(first
  |with_reducible refine lL m.out Bz ?_
  |(go_at_call 258;(with_reducible refine(D.out _).mono ?_);rintro e C ⟨rfl,f⟩))
 clear T;have I:=Hq (Ac (Ac m.out f) (Ad C (.cells #[.pointer none,'s'] 164)));have J:=Hq (heap_alloc_new C (.cells #[.pointer none,'s'] 164));have K:=Hq (Ae t.out (Ae f (Ad C (.cells #[.pointer none,'s'] 164))));have U:w.heap.size<C.heap.size:=Nat.lt_of_lt_of_le (C0 m.out) f.size;obtain⟨g,M⟩:=ex C.heap.size;obtain⟨V,n⟩:=ex (C.alloc (.cells #[.pointer none,'s'] 164));have hz:V.heap.size=g+1:=by rw[n,M];simp
 rw[← M,← n]at J;rw[← n]at I K;rw[← n,← M];rw[← M]at U;have HZ:=Hq hz;clear n M f m t hz
 try simp only[Act.put]
 go_wp2_with fail
 go_loopw [19] (fun i wr=>∃ k:Nat,k≤4∧i= .int .i64 (k:Int)∧Nx (g+1) wr.heap.size g (Lg.flat ((L.drop a).take k)) wr∧Fz (g+1) g V wr) (fun i _=>4-(intOf i).toNat)
 case atStart=>exact⟨0,by omega,rfl,Nx.fresh _ _ _ _ (by omega) J.out,Fz.refl _ _ _⟩
 case round=>
  obtain⟨k,P,rfl,q,j⟩:=hrel;have u:=Hq q;have X:=Hq j;have ae:V.heap.size≤wr.heap.size:=j.size;have af:=HZ.out;have N:Bw w wr:=K.out.trans (X.out.below (by omega) (by omega));have v:=Hq N;clear q j N
  by_cases y:k<4
  ·have ag:IntKind.i64.wrap ((a:Int)+(k:Int))=(a:Int)+(k:Int):=IntWalk.i64_in _ (by omega)
   have Y:=Hq (show wr.heap[w.heap.size]? =some (.cells #[.slice A L.length c,left,false] 28 (0,0))from(X.out.block _ (by omega) (by omega)).trans I.out);have O:=Hq (HR.out k y wr v.out);have z:=Hq (E.out k y);have Z:=F.out k y;generalize L[a+k]?.getD ⟨#[]⟩=x at O z Z;have B:=G.out k (by omega);generalize Lg.flat ((L.drop a).take k)=l at u z B;have a1:=Hq B;clear B
   go_wp2_with(first
    |with_reducible refine lL Y.out Bz ?_
    |(go_at_call 259;(with_reducible refine O.out.mono ?_);rintro e w2 ⟨rfl,f⟩;have a6:=Hq (u.out.below f);have a7:=Hq (X.out.trans (Fz.I9 (by omega) f));have ah:=f.size;clear f)
    |(go_at_call 153;(with_reducible refine(Ma _ _ _ _ _ _ a6.out (by have:=a1.out;omega) (by omega)).mono ?_);rintro e w3 ⟨rfl,o,p⟩;have a8:=Hq o;have aa:=Hq (a7.out.trans p);clear o p))
   go_roundw
   case rel=>exact⟨k+1,by omega,by go_num,by rw[z.out];exact a8.out,aa.out⟩
   case measure=>simp[intOf];omega
  ·obtain rfl:k=4:=by omega
   go_wp2_with((go_at_call 154;(with_reducible refine(Nc _ _ _ _ _ u.out).mono ?_);rintro e w2 ⟨rfl,p⟩))
   go_ret2;exact⟨by rw[s.out];rfl,v.out.trans (p.below (by omega) v.out.size)⟩
end Go.Proofs.YtmldoihahndcgaaGreatDoor
namespace Go
section
variable {P : Program} {ops : Array Oper} {Q : Exit → Act → World → Prop} {md : Region.Mode} {S : World → Prop} {z : Nat}
theorem T6 {i:Nat}{oi:Oper}{v:Value}(hi:ops[i]? =some oi)(l:∀ (j:Nat) (o:Oper) cs b,ops[j]? =some o→o.op≠ .select cs b)
 (I:∀ c a w,Q (.panic c) (a.put oi.dst v) w→Q (.panic c) a w) (n:i≠z):
 ∀ (fuel:Nat) (listed:Array Bool) (a:Act) (w:World),
  (∀ j oj,ops[j]? =some oj→j≠i→listed.getD j true=false→(∀ e∈oj.after,Region.binds md e=true→e.on≠i)→oi.apart ops oj=true)→
  i∈Region.ready md ops listed→YieldsIf P ops (fun _=>True) oi v a→(listed.getD z true=false→S w)→
  E9 P md ops Q S z fuel (listed.setIfInBounds i true) (a.put oi.dst v) w→E9 P md ops Q S z (fuel+1) listed a w:=by
 intro fuel
 induction fuel with
 |zero=>
  intro listed a w _ p A C H;refine⟨fun h=>(by rw[h]at p;cases p),fun j B=>?_⟩
  by_cases d:j=i
  ·subst d;exact A.wpOp hi trivial ⟨fun h=>C (by rw[getD_set_ne true n]at h;exact h),H⟩
  ·have:=ready_mono B d
   rw[H.1]at this
   cases this
 |succ fuel ih=>
  intro listed a w f p A C H;refine⟨fun h=>(by rw[h]at p;cases p),fun j B=>?_⟩
  by_cases d:j=i
  ·subst d;exact A.wpOp hi trivial ⟨fun h=>C (by rw[getD_set_ne true n]at h;exact h),H⟩
  ·have r:=H.2 j (ready_mono B d)
   obtain⟨m,oj,q,s⟩:=mem_ready.1 B;have t:∀ e∈oj.after,Region.binds md e=true→e.on≠i:=fun e J K D=>by
    have r:=s e J K;have L:=(mem_ready.1 p).1;rw[D]at r;rw[O7 L]at r
    cases r
   have M:=wpOp_putIf q (f j oj q d m t) (fun cs b=>l i oi cs b hi) (fun cs b=>l j oj cs b q) I A r;have g:∀ k ok,ops[k]? =some ok→k≠i→(listed.setIfInBounds j true).getD k true=false→
    (∀ e∈ok.after,Region.binds md e=true→e.on≠i)→oi.apart ops ok=true:=fun k ok N E u F=>by
    refine f k ok N E ?_ F
    by_cases x:j=k
    ·subst x;exact m
    ·rw[getD_set_ne true x]at u;exact u
   refine wpOp_mono (fun O w' G=>?_) M;have y:(listed.setIfInBounds j true).getD z true=false→S w':=fun h=>G.2.1 (by
    rw[Array.setIfInBounds_comm _ _ (Ne.symm d),getD_set_ne true n];exact h)
   refine⟨y,ih (listed.setIfInBounds j true) O w' g (ready_mono p (Ne.symm d)) G.1 y ?_⟩;rw[Array.setIfInBounds_comm _ _ d];exact G.2.2
theorem Ge {i:Nat}{oi:Oper}{v:Value}{fuel:Nat}{listed:Array Bool}{a:Act}{w:World}(hi:ops[i]? =some oi)(b:(i != z)=true)
 (d:Region.noSelect ops=true) (e:Region.free md ops listed i=true) (f:(Region.ready md ops listed).contains i=true)
 (g:∀ c a w,Q (.panic c) (a.put oi.dst v) w→Q (.panic c) a w) (hy:YieldsIf P ops (fun _=>True) oi v a) (j:listed.getD z true=false→S w)
 (h:E9 P md ops Q S z fuel (listed.setIfInBounds i true) (a.put oi.dst v) w):E9 P md ops Q S z (fuel+1) listed a w:=
 T6 hi (Region.noSelect_spec d) g (by simpa using b) fuel listed a w (Region.free_spec hi e) (by simpa using f) hy j h
end
end Go
namespace Go.Proofs.YtmldoihahndcgaaGreatDoor
open Go.RowKit Sc
structure xN (n:Nat) (fs:List Fr) (C:Nat→ByteArray):Prop where
 at_:∀ i (hi:i<fs.length),Full fs[i]→∃ p:Nat,p<n∧fs[i].page=(p:Int)∧fs[i].bytes=C p
 ds:∀ i j (hi:i<fs.length) (hj:j<fs.length),i≠j→Full fs[i]→Full fs[j]→fs[i].page≠fs[j].page
structure PQ (N n:Nat) (s:Tx.St) (fs:List Fr) (C:Nat→ByteArray):Prop where
 zl:s.zlog=(N:Int)
 zp:s.zpages=(n:Int)
 pw:Pw N (1+N+4*n) s.Am s.log
 fr:xN n fs C
 nm:∀ p,p<n→nF (C p)
 dk:∀ p,p<n→¬ tP fs p→Lay N s.Am p (C p)
theorem PQ.sec {N n:Nat}{s:Tx.St}{fs:List Fr}{C:Nat→ByteArray}(h:PQ N n s fs C)(p:Nat):Ec s (p:Int)=1+N+4*p:=by
 unfold Ec;rw[h.zl];omega
theorem PQ.read {N n:Nat}{s:Tx.St}{fs:List Fr}{C:Nat→ByteArray}(h:PQ N n s fs C){p:Nat}(a:p<n)(c:¬ tP fs p):Db s (p:Int)=(C p,0):=by
 unfold Db;rw[if_neg (by rw[h.pw.up];decide),h.sec p];rcases h.dk p a c with b|⟨b,d⟩
 ·rw[b]
  have e:=Ke (h.nm p a).is;rw[if_neg (iG (h.nm p a).is),if_pos e.2.2.1,qN (h.nm p a)]
 ·rw[if_pos b,d];rfl
end Go.Proofs.YtmldoihahndcgaaGreatDoor
namespace Sc
def bit (b:ByteArray)(p:Nat):Bool:=(b.data.toList[p/8]?.getD 0).toNat.testBit (p%8)
end Sc
namespace Go.Proofs.YtmldoihahndcgaaGreatDoor
open Go.RowKit Sc
theorem nK {M a:Nat}(h:a+4≤M):Hg (Lg.Ky M) a=Ij:=by
 have e:((Lg.Ky M).sectors.drop a).take 4=[Lg.Cs,Lg.Cs,Lg.Cs,Lg.Cs]:=by
  apply List.ext_getElem?
  intro j;rw[List.getElem?_take]
  split
  ·rename_i d
   rw[List.getElem?_drop]
   show(List.replicate M Lg.Cs)[a+j]? =_
   rw[List.getElem?_replicate,if_pos (by omega)];have:j=0∨j=1∨j=2∨j=3:=(by omega);rcases this with rfl|rfl|rfl|rfl<;>rfl
  ·rw[List.getElem?_eq_none (by simp;omega)]
 unfold Hg;rw[e];have c:Lg.flat [Lg.Cs,Lg.Cs,Lg.Cs,Lg.Cs]=List.replicate 512 0:=by
  have b:∀ L,Lg.flat (Lg.Cs::L)=List.replicate 128 0++Lg.flat L:=fun L=>rfl;rw[b,b,b,b,Lg.mG,List.append_nil,List.replicate_append_replicate,List.replicate_append_replicate,List.replicate_append_replicate]
 rw[c]
 rfl
def Eh (k:Nat):List Fr:=List.replicate k ⟨0,⟨#[]⟩,0,false,0⟩
theorem Hd {k i:Nat}(hi:i<(Eh k).length):(Eh k)[i]=⟨0,⟨#[]⟩,0,false,0⟩:=(List.mem_replicate.1 (List.getElem_mem hi)).2
theorem I7 (k:Nat):(Eh k).length=k:=List.length_replicate
def nL (N n k:Nat):Tx.St:=⟨(N:Int),(n:Int),(k:Int),Lg.Ky (1+N+4*n),⟨1,(N:Int),0,0,⟨#[]⟩⟩,0,[],1⟩
theorem tS {N n k:Nat}(c:1≤n∧n≤60∧N≤3000)(d:1≤k∧k≤64):PI N n (nL N n k) (Eh k) (fun _=>Gk (0:Nat)):=by
 refine⟨rfl,rfl,c,tO N (1+N+4*n) (by omega),by rw[I7];exact d,⟨Int.le_refl _,(by decide:(0:Int)≤64)⟩,⟨fun i a b=>?_,fun i j a e _ b _=>?_,fun i a=>?_,fun i a=>?_,fun i a=>?_⟩,fun p _=>(Rf 0 (by omega)).1,fun p f _=>.inr ⟨nK (by omega),rfl⟩⟩
 ·rw[Full,Hd a]at b;exact absurd rfl b
 ·rw[Full,Hd a]at b;exact absurd rfl b
 ·rw[Hd a]
 ·rw[Hd a];exact wH
 ·rw[Hd a];exact Nat.zero_le _
end Go.Proofs.YtmldoihahndcgaaGreatDoor
