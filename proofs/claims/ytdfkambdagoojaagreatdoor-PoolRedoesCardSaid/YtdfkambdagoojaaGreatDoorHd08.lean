import Derived.Test.YtdfkambdagoojaaGreatDoorHd00
import Derived.Test.YtdfkambdagoojaaGreatDoorHd07
import Derived.Test.YtdfkambdagoojaaGreatDoorHd06
import Derived.Test.YtdfkambdagoojaaGreatDoorHd04
import Derived.Test.YtdfkambdagoojaaGreatDoorHd01
import Derived.Lib.Small
set_option maxRecDepth 100000
set_option maxHeartbeats 16000000
set_option linter.unusedSimpArgs false
namespace Rc
theorem Aax:num 0:=⟨by decide,by decide⟩
theorem nG {r:Rec}(h:Bz r)(hk:r.kind≠9):(Lg.Co r).length≤1262:=by
 rw[Lg.Fp]
 unfold Bl
 rw[List.length_append,Wz]
 cases h with
 |small kind lsn prev txn hk2 h1 h2 h3=>
  have hk3:Fm (bare kind lsn prev txn)=[]:=by
   unfold Fm bare
   simp only
   rw[if_neg (by omega),if_neg (by omega),if_neg (by omega),if_neg (by omega),if_neg (by omega)]
  rw[hk3];simp
 |change lsn prev txn Ab op how root e h1 h2 h3 h4 h5 h6=>
  rw[Ob rfl]
  have ho:=Oe h5
  have ht:(M5 ⟨lsn,prev,txn,2,Ab,0,0,op,how,root,e,[],[]⟩).length≤200:=by
   unfold M5
   rcases h6 with⟨h7,_⟩|⟨h7,h8,h9,h10,h11⟩
   ·simp only at h7;subst h7;simp
   ·simp only at h7 h11
    rw[if_neg (show ¬ how=1 by omega)]
    simp only[List.length_append,Ax,Uv]
    omega
  simp only[List.length_append,Ax]
  omega
 |clr lsn prev txn Ab op next h1 h2 h3 h4 h5 h6=>
  rw[P6 rfl]
  have ho:=Oe h5
  simp only[List.length_append,Ax]
  omega
 |nest lsn prev txn next h1 h2 h3 h6=>
  rw[Tm rfl]
  simp only[Ax]
  omega
 |image lsn prev txn Ab op h1 h2 h3 h4 h5=>
  rw[P7 rfl]
  have ho:=Oe h5
  simp only[List.length_append,Ax]
  omega
 |check lsn prev txn n ts ds h1 h2 h3 h4 h5=>exact absurd rfl hk
end Rc
namespace Go.Proofs.YtdfkambdagoojaaGreatDoor
open Go.RowKit Sc
theorem PI.log {N n:Nat}{s:Tx.St}{fs:List Fr}{C:Nat→ByteArray}(h:PI N n s fs C)(r:Rc.Rec)(a:Rc.Bz {r with lsn:=s.log.end_+1})(b:r.kind≠9)(d:s.log.end_+1262≤(N:Int)*128):
 ∃ g2,Lg.Bf s.log r=(g2,s.log.end_+1,0)∧PI N n {s with log:=g2} fs C∧s.log.end_<g2.end_∧g2.end_≤s.log.end_+1262:=by
 have f:=Rc.nG a b;have g:8≤(Lg.Co {r with lsn:=s.log.end_+1}).length:=by rw[Lg.Fp];omega
 obtain⟨g2,e,c,i⟩:=h.pw.put r a (by omega);exact⟨g2,e,⟨h.zl,h.zp,h.n1,c,h.nf,h.hd,h.fr,h.nm,h.dk⟩,by omega,by omega⟩
def V6 (fs fs':List Fr):Prop:=∀ j (h:j<fs.length) (h':j<fs'.length),fs'[j].Ab=fs[j].Ab∧fs'[j].bytes=fs[j].bytes
theorem V6.refl (fs:List Fr):V6 fs fs:=fun _ _ _=>⟨rfl,rfl⟩
theorem V6.trans {fs a b:List Fr}(h:V6 fs a)(k:V6 a b)(e:a.length=fs.length):V6 fs b:=fun j c d=>
 ⟨(k j (by omega) d).1.trans (h j c (by omega)).1,(k j (by omega) d).2.trans (h j c (by omega)).2⟩
theorem V6.marks {fs a:List Fr}(h:V5 fs a):V6 fs a:=fun j b c=>by rw[h.at_ j b c];exact⟨rfl,rfl⟩
theorem V6.set (fs:List Fr)(k:Nat)(g:k<fs.length)(f:Fr)(c:f.Ab=fs[k].Ab)(d:f.bytes=fs[k].bytes):V6 fs (fs.set k f):=fun j h a=>by
 rcases Ku fs k f j a with⟨e,b⟩|⟨_,_,b⟩
 ·subst e;rw[b];exact⟨c,d⟩
 ·rw[b];exact⟨rfl,rfl⟩
theorem V6.none_ {fs a:List Fr}(h:V6 fs a)(e:a.length=fs.length){p:Int}(d:∀ j (hj:j<fs.length),Full fs[j]→fs[j].Ab≠p):∀ j (hj:j<a.length),Full a[j]→a[j].Ab≠p:=fun j hj b=>by
 have c:=h j (by omega) hj;rw[c.1];refine d j (by omega) ?_;unfold Full at b ⊢;rw[← c.2];exact b
theorem cQ {fs:List Fr}{p:Nat}(h:∀ j (hj:j<fs.length),Full fs[j]→fs[j].Ab≠(p:Int)):¬ J4 fs p:=fun⟨i,a,b,c,_⟩=>h i a b c
theorem vR (x:Pg.Dg):(⟨(Pg.Dh x).toArray⟩:ByteArray).size≤512:=by
 show(Pg.Dh x).toArray.size≤512
 by_cases h:512<Pg.Bb (Pg.trim x.recs)
 ·rw[Pg.aU h];decide
 ·rw[List.size_toArray,Pg.Nl (by omega)];exact Nat.le_refl _
theorem Qs (p:ByteArray)(n:Int):(Cj p n).size≤512:=by
 unfold Cj
 split
 ·decide
 ·exact vR _
theorem Qt {b:ByteArray}(h:Bo b=true):b≠⟨#[]⟩:=fun e=>by
 have a:=Hl h;rw[e]at a;exact absurd a (by decide)
theorem Tq {b:ByteArray}{l:Int}(h:Bo b=true)(a:Rc.num l):Bo (Cj b l)=true:=by
 have d:=a.1;have c:=(Qm h (l:=l.toNat) (by have:=a.2;omega)).1.is
 rwa[show((l.toNat:Nat):Int)=l from by omega]at c
theorem sC {b:ByteArray}(h:Bo b=true):Bo (Lw b)=true:=(gJ h).1.is
structure Vz (n B:Nat) (f:Fr):Prop where
 sz:f.bytes.size≤512
 pn:0≤f.pins∧f.pins≤(B:Int)
 rc:Rc.num f.rc
 pg:0≤f.Ab∧f.Ab<(n:Int)
 is:Full f→Bo f.bytes=true
 rz:f.rc≠0→Full f
structure Wf (N n B:Nat) (s:Tx.St) (fs:List Fr):Prop where
 zl:s.zlog=(N:Int)
 zp:s.zpages=(n:Int)
 n1:1≤n∧n≤60∧N≤3000
 lb:Tx.yW s
 al:Lg.Al s.log
 ln:s.log.n=(N:Int)
 ef:s.log.end_≤(N:Int)*128
 dk:Pm (1+N+4*n) s.Ai
 nf:1≤fs.length∧fs.length≤64
 hd:0≤s.hand∧s.hand≤64
 fr:∀ i (h:i<fs.length),Vz n B fs[i]
 ds:∀ i j (hi:i<fs.length) (hj:j<fs.length),i≠j→Full fs[i]→Full fs[j]→fs[i].Ab≠fs[j].Ab
 tl:s.txns.length≤800000
 tx:∀ t∈s.txns,Rc.Uj t
theorem Vz.more {n B a:Nat}{f:Fr}(h:Vz n B f)(b:B≤a):Vz n a f:=⟨h.sz,⟨h.pn.1,by have:=h.pn.2;omega⟩,h.rc,h.pg,h.is,h.rz⟩
theorem Wf.more {N n B a:Nat}{s:Tx.St}{fs:List Fr}(h:Wf N n B s fs)(b:B≤a):Wf N n a s fs:=⟨h.zl,h.zp,h.n1,h.lb,h.al,h.ln,h.ef,h.dk,h.nf,h.hd,fun i c=>(h.fr i c).more b,h.ds,h.tl,h.tx⟩
theorem Vz.set {n B:Nat}{fs:List Fr}(h:∀ i (h:i<fs.length),Vz n B fs[i])(k:Nat){f:Fr}(b:Vz n B f):∀ i (h:i<(fs.set k f).length),Vz n B (fs.set k f)[i]:=fun i c=>by
 rcases Ku fs k f i c with⟨_,e⟩|⟨_,a,e⟩
 ·rw[e];exact b
 ·rw[e];exact h i a
theorem zA {fs:List Fr}(h:∀ i j (hi:i<fs.length) (hj:j<fs.length),i≠j→Full fs[i]→Full fs[j]→fs[i].Ab≠fs[j].Ab)(k:Nat)(f:Fr)(o:Full f→∀ j (hj:j<fs.length),j≠k→Full fs[j]→f.Ab≠fs[j].Ab):
 ∀ i j (hi:i<(fs.set k f).length) (hj:j<(fs.set k f).length),i≠j→Full (fs.set k f)[i]→Full (fs.set k f)[j]→(fs.set k f)[i].Ab≠(fs.set k f)[j].Ab:=fun i j hi hj d b c=>by
 rcases Ku fs k f i hi with⟨m,e⟩|⟨m,g,e⟩<;>rcases Ku fs k f j hj with⟨n,a⟩|⟨n,l,a⟩
 ·exact absurd (m.trans n.symm) d
 ·rw[e,a];rw[e]at b;rw[a]at c;exact o b j l n c
 ·rw[e,a];rw[e]at b;rw[a]at c;exact fun p=>o c i g m b p.symm
 ·rw[e,a];rw[e]at b;rw[a]at c;exact h i j g l d b c
theorem Wf.put {N n B:Nat}{s:Tx.St}{fs:List Fr}(h:Wf N n B s fs)(k:Nat){f:Fr}(a:Vz n B f)(b:Full f→∀ j (hj:j<fs.length),j≠k→Full fs[j]→f.Ab≠fs[j].Ab):Wf N n B s (fs.set k f):=
 ⟨h.zl,h.zp,h.n1,h.lb,h.al,h.ln,h.ef,h.dk,by rw[List.length_set];exact h.nf,h.hd,Vz.set h.fr k a,zA h.ds k f b,h.tl,h.tx⟩
theorem Wf.set {N n B:Nat}{s:Tx.St}{fs:List Fr}(h:Wf N n B s fs){k:Nat}(c:k<fs.length){f:Fr}(d:Vz n B f)(g:f.Ab=fs[k].Ab)(i:Full f→Full fs[k]):Wf N n B s (fs.set k f):=
 h.put k d fun l j m a b=>by rw[g];exact h.ds k j c m (fun e=>a e.symm) (i l) b
theorem Vz.mark {n B:Nat}{f:Fr}(h:Vz n B f)(m:Bool):Vz n B {f with mark:=m}:=⟨h.sz,h.pn,h.rc,h.pg,h.is,h.rz⟩
theorem Jj:Rc.num 0:=⟨by decide,by decide⟩
theorem Vz.clean {n B:Nat}{f:Fr}(h:Vz n B f):Vz n B {f with rc:=0}:=⟨h.sz,h.pn,Jj,h.pg,h.is,fun h=>absurd rfl h⟩
theorem Wf.marks {N n B:Nat}{s:Tx.St}{fs a:List Fr}(h:Wf N n B s fs)(b:V5 fs a):Wf N n B s a:=
 have k:=b.len
 ⟨h.zl,h.zp,h.n1,h.lb,h.al,h.ln,h.ef,h.dk,by rw[k];exact h.nf,h.hd,fun i c=>by rw[b.at_ i (by omega) c];exact(h.fr i (by omega)).mark _,fun i j c l d f g=>by
   have e:=b.at_ i (by omega) c;have m:=b.at_ j (by omega) l;rw[e]at f ⊢;rw[m]at g ⊢;exact h.ds i j (by omega) (by omega) d f g,h.tl,h.tx⟩
theorem Wf.hand {N n B:Nat}{s:Tx.St}{fs:List Fr}(h:Wf N n B s fs){x:Int}(a:0≤x∧x≤64):Wf N n B {s with hand:=x} fs:=
 ⟨h.zl,h.zp,h.n1,⟨h.lb.e0,h.lb.e1,h.lb.t0,h.lb.t1,h.lb.f,h.lb.n0,h.lb.n1,h.lb.s0,h.lb.s1⟩,h.al,h.ln,h.ef,h.dk,h.nf,a,h.fr,h.ds,h.tl,h.tx⟩
theorem Wf.Ai {N n B:Nat}{s:Tx.St}{fs:List Fr}(h:Wf N n B s fs){d:Lg.Dk}(a:Pm (1+N+4*n) d):Wf N n B {s with Ai:=d} fs:=
 ⟨h.zl,h.zp,h.n1,⟨h.lb.e0,h.lb.e1,h.lb.t0,h.lb.t1,h.lb.f,h.lb.n0,h.lb.n1,h.lb.s0,h.lb.s1⟩,h.al,h.ln,h.ef,a,h.nf,h.hd,h.fr,h.ds,h.tl,h.tx⟩
structure Zc (N:Nat) (l:Lg.Lo):Prop where
 e0:0≤l.end_
 ef:l.end_≤(N:Int)*128
 t0:(l.tail.size:Int)≤l.end_
 t1:l.end_%128≤(l.tail.size:Int)
 f:l.from_=1
 n:l.n=(N:Int)
 al:Lg.Al l
theorem Wf.low {N n B:Nat}{s:Tx.St}{fs:List Fr}(h:Wf N n B s fs):Zc N s.log:=⟨h.lb.e0,h.ef,h.lb.t0,h.lb.t1,h.lb.f,h.ln,h.al⟩
theorem Wf.log {N n B:Nat}{s:Tx.St}{fs:List Fr}(h:Wf N n B s fs){l:Lg.Lo}(a:Zc N l):Wf N n B {s with log:=l} fs:=by
 have b:=h.n1.2.2;have c:=a.ef;have d:=a.n;exact⟨h.zl,h.zp,h.n1,⟨a.e0,by show l.end_≤_;omega,a.t0,a.t1,a.f,by show 0≤l.n;omega,by show l.n≤_;omega,a.al.s0,a.al.se⟩,a.al,a.n,a.ef,h.dk,h.nf,h.hd,h.fr,h.ds,h.tl,h.tx⟩
theorem Zc.forced {N:Nat}{l:Lg.Lo}(h:Zc N l):Zc N (Lg.Lm l):=by
 have b:=h.e0;have c:=h.t1;have a:((Lg.Lm l).tail.size:Int)=l.end_%128:=by
  unfold Lg.Lm
  show((l.tail.extract (l.tail.size-(l.end_%128).toNat) l.tail.size).size:Int)=_
  rw[ByteArray.size_extract];omega
 refine⟨b,h.ef,?_,?_,h.f,h.n,⟨b,Int.le_refl _,?_⟩⟩
 ·rw[a];show _≤l.end_;omega
 ·rw[a];exact Int.le_refl _
 ·rw[a];rfl
theorem Zc.force {N:Nat}{l:Lg.Lo}(h:Zc N l)(d:Lg.Dk):Zc N (Lg.A4 d l).2.1:=by
 unfold Lg.A4
 split
 ·exact h
 ·simp only
  split
  ·exact h.forced
  ·exact h
theorem Zc.append {N:Nat}{l:Lg.Lo}(h:Zc N l)(r:Rc.Rec):Zc N (Lg.Bf l r).1:=by
 have a:=Tx.nB r h.al
 revert a
 unfold Lg.Bf;simp only
 split
 ·intro _;exact h
 ·split
  ·intro _;exact h
  ·rename_i d
   intro a;have e:=h.e0;have g:=h.t0;have i:=h.t1;have b:=h.n;have c:(⟨(Lg.Co {r with lsn:=l.end_+1}).toArray⟩:ByteArray).size=(Lg.Co {r with lsn:=l.end_+1}).length:=(by show(Lg.Co {r with lsn:=l.end_+1}).toArray.size=_;simp);rw[b]at d;refine⟨?_,?_,?_,?_,h.f,b,a⟩
   ·show 0≤l.end_+_;omega
   ·show l.end_+_≤_;omega
   ·show((l.tail++_).size:Int)≤l.end_+_;rw[ByteArray.size_append,c];omega
   ·show(l.end_+_)%128≤((l.tail++_).size:Int);rw[ByteArray.size_append,c];omega
theorem Wf.force {N n B:Nat}{s:Tx.St}{fs:List Fr}(h:Wf N n B s fs):Wf N n B {s with Ai:=(Lg.A4 s.Ai s.log).1,log:=(Lg.A4 s.Ai s.log).2.1} fs:=
 (h.log (h.low.force s.Ai)).Ai (h.dk.force s.log)
theorem Ol {N n B:Nat}{s:Tx.St}{fs:List Fr}(h:Wf N n B s fs){p:Int}(b:0≤p∧p<(n:Int)):F9 s p+4≤1+N+4*n∧((F9 s p:Nat):Int)=1+s.zlog+4*p:=by
 have a:=h.zl;unfold F9;rw[a];omega
theorem Wf.flush {N n B:Nat}{s:Tx.St}{fs:List Fr}(h:Wf N n B s fs){k:Nat}(c:k<fs.length):Wf N n B (Cu s fs k).s (Cu s fs k).fs∧(Cu s fs k).fs.length=fs.length:=by
 have d:=h.force;have e:=fun a b=>d.Ai (Pm.F5 d.dk a b 4);unfold Cu
 split
 ·exact⟨h,rfl⟩
 ·split
  ·exact⟨d,rfl⟩
  ·split
   ·exact⟨e _ _,rfl⟩
   ·rw[Bh c]
    exact⟨(e _ _).set c (h.fr k c).clean rfl fun h=>h,List.length_set⟩
theorem Ii (n:Nat)(hn:0<n):∀ (j a:Nat) (fs0 fs:List Fr) (k:Nat) (fs':List Fr),fs.length=n→a<n→V5 fs0 fs→Mg n j a fs=some (k,fs')→k<n∧V5 fs0 fs'∧¬ 0<(Cz fs' k).pins
 |0,_,_,_,_,_,_,_,_,h=>by cases h
 |j+1,a,fs0,fs,k,fs',hl,ha,hm,h=>by
  unfold Mg at h
  split at h
  ·exact Ii n hn j _ fs0 fs k fs' hl (Nat.mod_lt _ hn) hm h
  ·split at h
   ·rw[Bh (show a<fs.length by omega)]at h
    exact Ii n hn j _ fs0 _ k fs' (by rw[List.length_set];exact hl) (Nat.mod_lt _ hn) (hm.set (by omega) false) h
   ·rename_i h1 _
    injection h with h
    injection h with e1 e2
    subst e1 e2;exact⟨ha,hm,h1⟩
theorem Wf.room {N n B:Nat}{s:Tx.St}{fs:List Fr}(h:Wf N n B s fs):Wf N n B (Bc s fs).1.s (Bc s fs).1.fs∧(Bc s fs).1.fs.length=fs.length∧(Bc s fs).2<fs.length:=by
 have j:=h.nf;unfold Bc
 split
 ·rename_i k b
  refine⟨h,rfl,?_⟩;unfold Mh at b;exact(List.findIdx?_eq_some_iff_getElem.1 b).1
 ·split
  ·exact⟨h,rfl,by show 0<fs.length;omega⟩
  ·rename_i k a d
   obtain⟨e,c,_⟩:=Ii fs.length (by omega) _ _ fs fs k a rfl (Nat.mod_lt _ (by omega)) (V5.refl fs) d;have f:=c.len;have l:(k+1)%fs.length<fs.length:=Nat.mod_lt _ (by omega);obtain⟨g,i⟩:=((h.hand (x:=(((k+1)%fs.length:Nat):Int)) (by omega)).marks c).flush (k:=k) (by omega);exact⟨g,i.trans f,e⟩
theorem nH (s:Tx.St)(fs:List Fr){k:Nat}(a:k<fs.length):V6 fs (Cu s fs k).fs:=by
 unfold Cu
 split
 ·exact V6.refl fs
 ·split
  ·exact V6.refl fs
  ·split
   ·exact V6.refl fs
   ·rw[Bh a]
    exact V6.set fs k a _ rfl rfl
theorem Vg {N n B:Nat}{s:Tx.St}{fs:List Fr}(h:Wf N n B s fs):V6 fs (Bc s fs).1.fs:=by
 have d:=h.nf;unfold Bc
 split
 ·exact V6.refl fs
 ·split
  ·exact V6.refl fs
  ·rename_i k a c
   obtain⟨e,b,_⟩:=Ii fs.length (by omega) _ _ fs fs k a rfl (Nat.mod_lt _ (by omega)) (V5.refl fs) c;exact(V6.marks b).trans (nH _ _ (by have:=b.len;omega)) b.len
theorem Vh {fs:List Fr}{p:Int}(h:Oz fs p=none):∀ j (hj:j<fs.length),Full fs[j]→fs[j].Ab≠p:=fun j hj b e=>by
 unfold Oz at h;have a:=List.findIdx?_eq_none_iff.1 h fs[j] (List.getElem_mem hj);simp only[decide_eq_false_iff_not]at a;exact a ⟨b,e⟩
theorem Wf.back {N n B:Nat}{s:Tx.St}{fs:List Fr}(h:Wf N n B s fs){x:Px}(a:Wf N n B x.s x.fs)(b:x.fs.length=fs.length):Wf N n B (Dz s fs x).s (Dz s fs x).fs∧(Dz s fs x).fs.length=fs.length:=by
 unfold Dz
 split
 ·exact⟨a,b⟩
 ·exact⟨h,rfl⟩
theorem vS (s:Tx.St)(p:Int)(h:(D7 s p).2=0):Bo (D7 s p).1=true:=by
 unfold D7 at h ⊢
 split
 ·rename_i b;rw[if_pos b]at h;exact absurd h (by decide)
 ·split
  ·exact(Qn 0 (by omega)).1.is
  ·split
   ·rename_i a
    unfold Jx at a;rw[Bool.and_eq_true]at a;exact sC a.1
   ·rename_i b c a
    rw[if_neg b,if_neg c,if_neg a]at h;exact absurd h (by decide)
theorem vT (s:Tx.St)(p:Int):(D7 s p).1.size≤512:=by
 unfold D7
 split
 ·decide
 ·split
  ·exact Nat.le_of_eq (Qn 0 (by omega)).1.size
  ·split
   ·exact Qs _ _
   ·decide
theorem I6 {fs:List Fr}{p:Int}{k:Nat}(h:Oz fs p=some k):∃ hk:k<fs.length,Full fs[k]∧fs[k].Ab=p:=by
 unfold Oz at h;obtain⟨a,b,_⟩:=List.findIdx?_eq_some_iff_getElem.1 h;exact⟨a,by simpa using b⟩
theorem Wf.held {N n B:Nat}{s:Tx.St}{fs:List Fr}(h:Wf N n B s fs)(p:Int):Wf N n B (Ao s fs p).1.s (Ao s fs p).1.fs∧(Ao s fs p).1.fs.length=fs.length∧(Ao s fs p).2<fs.length∧
 ((Ao s fs p).1.e=0→(0≤p∧p<(n:Int))∧Full (Cz (Ao s fs p).1.fs (Ao s fs p).2)∧(Cz (Ao s fs p).1.fs (Ao s fs p).2).Ab=p):=by
 have a:=h.nf;have D:=h.zp;have m:0<fs.length:=by omega
 by_cases c:Im s p
 ·have b:0≤p∧p<(n:Int):=by unfold Im at c;omega
  cases d:Oz fs p with
  |some k=>
   have e:Ao s fs p=(⟨s,fs.set k {Cz fs k with mark:=true},0⟩,k):=by
    unfold Ao;rw[if_neg (fun a=>a c),d]
   rw[e];obtain⟨f,w,x⟩:=I6 d;rw[Bh f];refine⟨h.set f ((h.fr k f).mark true) rfl fun h=>h,List.length_set,f,fun _=>⟨b,?_⟩⟩;simp only;rw[Bh (by rw[List.length_set];exact f),List.getElem_set_self];exact⟨w,x⟩
  |none=>
   by_cases g:(D7 s p).2=0
   ·obtain⟨t,l,u⟩:=h.room
    by_cases o:(Bc s fs).1.e=0
    ·have e:Ao s fs p=(⟨(Bc s fs).1.s,(Bc s fs).1.fs.set (Bc s fs).2 ⟨p,(D7 s p).1,0,true,0⟩,0⟩,(Bc s fs).2):=by
      unfold Ao;rw[if_neg (fun a=>a c),d];simp only;rw[if_neg (fun a=>a g),if_pos o]
     rw[e];have v:=vS s p g;have q:=Qt v;refine⟨t.put _ ⟨vT s p,⟨Int.le_refl _,by show(0:Int)≤(B:Int);omega⟩,Jj,b,fun _=>v,fun h=>absurd rfl h⟩ (fun _ j y _ r=>fun z=>(Vg h).none_ l (Vh d) j y r z.symm),by rw[List.length_set];exact l,u,fun _=>⟨b,?_⟩⟩;simp only;rw[Bh (by rw[List.length_set,l];exact u),List.getElem_set_self];exact⟨q,rfl⟩
    ·have e:Ao s fs p=(Dz s fs (Bc s fs).1,0):=by
      unfold Ao;rw[if_neg (fun a=>a c),d];simp only;rw[if_neg (fun a=>a g),if_neg o]
     rw[e];obtain⟨A,C⟩:=h.back t l;refine⟨A,C,m,fun i=>absurd i ?_⟩;unfold Dz;simp only
     split<;>exact o
   ·have e:Ao s fs p=(⟨s,fs,(D7 s p).2⟩,0):=by
     unfold Ao;rw[if_neg (fun a=>a c),d];simp only;rw[if_pos g]
    rw[e];exact⟨h,rfl,m,fun i=>absurd i g⟩
 ·have e:Ao s fs p=(⟨s,fs,1⟩,0):=by unfold Ao;rw[if_pos c]
  rw[e];exact⟨h,rfl,m,fun i=>absurd i (by show ¬ (1:Int)=0;decide)⟩
theorem Vi {N:Nat}{l:Lg.Lo}(h:Zc N l)(a:N≤3000)(r:Rc.Rec):Rc.num (Lg.Bf l r).2.1:=by
 have b:=h.e0;have c:=h.ef;unfold Lg.Bf;simp only
 split
 ·exact Jj
 ·split
  ·exact Jj
  ·exact⟨by show 0≤l.end_+1;omega,by show l.end_+1<_;omega⟩
theorem nI {l:Lg.Lo}{r:Rc.Rec}(h:(Lg.Bf l r).2.2=0):Rc.Bz {r with lsn:=l.end_+1}∧(Lg.Bf l r).2.1=l.end_+1:=by
 unfold Lg.Bf at h ⊢;simp only at h ⊢
 split at h
 ·exact absurd h (by show ¬ (1:Int)=0;decide)
 ·rename_i a
  split at h
  ·exact absurd h (by show ¬ (18:Int)=0;decide)
  ·rename_i b
   rw[if_neg a,if_neg b];exact⟨Classical.byContradiction fun c=>a c,rfl⟩
theorem gP {r:Rc.Rec}(h:Rc.Bz r)(g:r.kind=3):Rc.num r.next:=by
 cases h with
 |small kind a prev b i c d f=>exact Jj
 |change a prev b Ab op how root e c d f h4 h5 h6=>exact absurd g (by show ¬ (2:Int)=3;decide)
 |clr a prev b Ab op next c d f h4 h5 h6=>exact h6
 |nest a prev b next c d f h6=>exact h6
 |image a prev b Ab op c d f h4 h5=>exact absurd g (by show ¬ (8:Int)=3;decide)
 |check a prev b n ts ds c d f h4 h5=>exact absurd g (by show ¬ (9:Int)=3;decide)
theorem kF {a:List Rc.Cw}{i:Nat}(h:i<a.length):Lc a i=a[i]:=by unfold Lc;rw[List.getElem?_eq_getElem h];rfl
theorem Wf.chg {N n B:Nat}{s:Tx.St}{fs:List Fr}(h:Wf N n B s fs){x:Px}(d:Wf N n B x.s x.fs)(z:x.fs.length=fs.length){k i:Nat}(e:k<x.fs.length)(hi:i<x.s.txns.length)(r:Rc.Rec){b:ByteArray}(q:Bo b=true)(u:Full (Cz x.fs k)):
 Wf N n B (Tc x k i s fs r b).s (Tc x k i s fs r b).fs∧(Tc x k i s fs r b).fs.length=fs.length:=by
 have v:=h.n1.2.2;rw[Bh e]at u;have j:Zc N (Hf x.s (Cz x.fs k) r.Ab).1∧Rc.num (Hf x.s (Cz x.fs k) r.Ab).2.1:=by
  unfold Hf
  split
  ·exact⟨d.low.append _,Vi d.low v _⟩
  ·rw[Bh e]
   exact⟨d.low,(d.fr k e).rc⟩
 unfold Tc;simp only;generalize Hf x.s (Cz x.fs k) r.Ab=m at j ⊢
 split
 ·exact⟨h,rfl⟩
 ·have w:=j.1.append {r with prev:=(Lc x.s.txns i).last}
  have g:=Vi j.1 v {r with prev:=(Lc x.s.txns i).last};have y:=nI (l:=m.1) (r:={r with prev:=(Lc x.s.txns i).last});generalize Lg.Bf m.1 {r with prev:=(Lc x.s.txns i).last}=a at w g y ⊢
  split
  ·exact⟨h,rfl⟩
  ·rename_i A
   have o:=(y (Classical.byContradiction fun C=>A C)).1;have D:=d.log w;have hF:=d.fr k e;rw[Bh e];have c:=D.set e (f:=⟨x.fs[k].Ab,Cj b a.2.1,x.fs[k].pins,true,m.2.1⟩) ⟨Qs _ _,hF.pn,j.2,hF.pg,fun _=>Tq q g,fun _=>Qt (Tq q g)⟩ rfl (fun _=>u);refine⟨⟨c.zl,c.zp,c.n1,⟨c.lb.e0,c.lb.e1,c.lb.t0,c.lb.t1,c.lb.f,c.lb.n0,c.lb.n1,c.lb.s0,c.lb.s1⟩,c.al,c.ln,c.ef,c.dk,c.nf,c.hd,c.fr,c.ds,by show(x.s.txns.set _ _).length≤_;rw[List.length_set];exact d.tl,fun t E=>?_⟩,by simp only;rw[List.length_set];exact z⟩;rcases List.mem_or_eq_of_mem_set E with p|p
   ·exact d.tx t p
   ·rw[p,kF hi]
    refine⟨(d.tx _ (List.getElem_mem hi)).1,g,?_⟩
    show Rc.num (if r.kind=3 then r.next else a.2.1)
    split
    ·rename_i F
     exact(show Rc.num r.next from gP (r:={({r with prev:=(Lc x.s.txns i).last}:Rc.Rec)with lsn:=m.1.end_+1}) o F)
    ·exact g
theorem gQ (s:Tx.St)(fs:List Fr)(k:Nat):(Cu s fs k).s.txns=s.txns∧(Cu s fs k).s.next=s.next:=by
 unfold Cu
 split
 ·exact⟨rfl,rfl⟩
 ·split
  ·exact⟨rfl,rfl⟩
  ·split<;>exact⟨rfl,rfl⟩
theorem Xj (s:Tx.St)(fs:List Fr):(Bc s fs).1.s.txns=s.txns∧(Bc s fs).1.s.next=s.next:=by
 unfold Bc
 split
 ·exact⟨rfl,rfl⟩
 ·split
  ·exact⟨rfl,rfl⟩
  ·exact gQ _ _ _
theorem nJ {s:Tx.St}{fs:List Fr}{x:Px}(h:x.s.txns=s.txns∧x.s.next=s.next):(Dz s fs x).s.txns=s.txns∧(Dz s fs x).s.next=s.next:=by
 unfold Dz
 split
 ·exact h
 ·exact⟨rfl,rfl⟩
theorem Xk (s:Tx.St)(fs:List Fr)(p:Int):(Ao s fs p).1.s.txns=s.txns∧(Ao s fs p).1.s.next=s.next:=by
 unfold Ao
 split
 ·exact⟨rfl,rfl⟩
 ·split
  ·exact⟨rfl,rfl⟩
  ·split
   ·exact⟨rfl,rfl⟩
   ·split
    ·exact Xj s fs
    ·exact nJ (Xj s fs)
theorem Wf.change {N n B:Nat}{s:Tx.St}{fs:List Fr}(h:Wf N n B s fs)(r:Rc.Rec)(D:ByteArray→ByteArray×Int)(k:∀ q,(D q).2=0→Bo (D q).1=true):Wf N n B (Dy s fs r D).s (Dy s fs r D).fs∧(Dy s fs r D).fs.length=fs.length:=by
 obtain⟨a,b,l,g⟩:=h.held r.Ab;have j:=(Xk s fs r.Ab).1;unfold Dy
 split
 ·exact⟨h,rfl⟩
 ·split
  ·exact⟨h,rfl⟩
  ·rename_i i m
   have c:=(List.findIdx?_eq_some_iff_getElem.1 m).1;generalize Ao s fs r.Ab=x at a b l g j ⊢
   split
   ·exact⟨a,b⟩
   ·rename_i o
    have d:x.1.e=0:=Classical.byContradiction fun f=>o f
    split
    ·exact⟨h,rfl⟩
    ·rename_i p
     exact h.chg a b (by omega) (by rw[j];exact c) r (k _ (Classical.byContradiction fun f=>p f)) (g d).2.1
theorem Wf.pin {N n B:Nat}{s:Tx.St}{fs:List Fr}(h:Wf N n B s fs)(p:Int):Wf N n (B+1) (Qr s fs p).s (Qr s fs p).fs∧(Qr s fs p).fs.length=fs.length:=by
 obtain⟨c,d,f,g⟩:=h.held p;unfold Qr;generalize Ao s fs p=x at c d f g ⊢
 split
 ·have e:x.2<x.1.fs.length:=by omega
  have b:=c.fr x.2 e;rw[Bh e];exact⟨(c.more (Nat.le_succ B)).set e ⟨b.sz,⟨by show 0≤x.1.fs[x.2].pins+1;have:=b.pn;omega,by show x.1.fs[x.2].pins+1≤_;have:=b.pn;omega⟩,b.rc,b.pg,b.is,b.rz⟩ rfl (fun a=>a),by simp only;rw[List.length_set];exact d⟩
 ·exact⟨c.more (Nat.le_succ B),d⟩
theorem Wf.Vj {N n B:Nat}{s:Tx.St}{fs:List Fr}(h:Wf N n B s fs)(p:Int):Wf N n B (E7 s fs p).s (E7 s fs p).fs∧(E7 s fs p).fs.length=fs.length:=by
 unfold E7
 split
 ·exact⟨h,rfl⟩
 ·split
  ·exact⟨h,rfl⟩
  ·rename_i k d
   obtain⟨c,_⟩:=I6 d;rw[Bh c]
   split
   ·exact⟨h,rfl⟩
   ·have b:=h.fr k c
    exact⟨h.set c ⟨b.sz,⟨by show 0≤fs[k].pins-1;omega,by show fs[k].pins-1≤_;have:=b.pn;omega⟩,b.rc,b.pg,b.is,b.rz⟩ rfl (fun a=>a),List.length_set⟩
theorem Wf.Kv {N n B:Nat}{s:Tx.St}{fs:List Fr}(h:Wf N n B s fs)(p:Int):Wf N n B (D4 s fs p).s (D4 s fs p).fs∧(D4 s fs p).fs.length=fs.length:=by
 unfold D4
 split
 ·exact⟨h,rfl⟩
 ·split
  ·exact⟨h,rfl⟩
  ·rename_i k a
   obtain⟨b,_⟩:=I6 a;obtain⟨f1,f2⟩:=h.flush b;exact h.back f1 f2
theorem Aay {P:Program}{op:Oper}{a:Act}{w:World}{K:Act→World→Prop}{Q:Exit→Act→World→Prop}(ty:TypeId)(x y:Operand)(g:op.op= .store ty x y)
 (b o:Nat) (part cur res:Array Value) (t:TypeId) (j:a.eval x= .pointer (some ⟨b,o,none⟩)) (hy:a.eval y= .agg part) (k:w.heap[b]? =some (.cells cur t (0,0))) (l:res=(cur.toList.take o++part.toList++cur.toList.drop (o+part.toList.length)).toArray)
 (e:decide (o+part.toList.length≤cur.size)=true) (hi:(P.info? ty).map (·.size)=some part.size) (m:part.all (·.oneCell')=true) (h:K (a.put op.dst undef) (w.setRow b res)):op.wp P a w K Q:=by
 have c:=run_storeCells_at P b o t part.toList 0 cur w k (by rw[Nat.add_zero];exact of_decide_eq_true e) (fun v n=>(Array.all_eq_true_iff_forall_mem.1 m) v (by simpa using n));rw[Nat.add_zero,← l]at c;have d:(storeVar ty ⟨b,o,none⟩ (.agg part)).run P w= .ok () (w.setRow b res):=by
  cases f:P.info? ty with
  |none=>simp[f]at hi
  |some i=>
   have p:part.size=i.size:=by simp[f]at hi;omega
   simp[storeVar,sizeOf,typeInfo,f,Value.cells,p,c]
 unfold Oper.wp execOp;simp only[g,j,hy,Instr.storeAt,Instr.sureAddr,Sem.run_bind,Sem.run_pure,Result.andThen_ok,d];exact h
theorem Ba.set {w:World}{s:Tx.St}{p:SP}{fs:List Fr}(h:Ba w s p fs){b:Nat}{cur:Array Value}{t:TypeId}{fr:Nat×Nat}(a:w.heap[b]? =some (.cells cur t fr))(c:t≠9)(d:t≠83)(e:t≠95)(j:Nat)(v:Value):Ba (w.setCell ⟨b,j,none⟩ v) s p fs:=by
 rw[setCell_eq_setRow w b j cur t fr v a];exact h.other a c d e _
theorem Ba.own {w:World}{s:Tx.St}{p:SP}{fs:List Fr}(h:Ba w s p fs){g:Nat}{cur:Array Value}{fr:Nat×Nat}(b:w.heap[g]? =some (.cells cur 95 fr))(a:∀ ad,p.F=some ad→ad.block≠g)(j:Nat)(v:Value):Ba (w.setCell ⟨g,j,none⟩ v) s p fs:=
 ⟨h.st.set b (by decide) (by decide) j v,h.fn,h.fr.off g j v (fun _=>a),h.ft.set g j v⟩
theorem Ba.Ai {w w':World}{s:Tx.St}{p:SP}{fs:List Fr}(h:Ba w s p fs)(b:Bw w w'){d:Lg.Dk}{A:Option Addr}{c:Nat}(l:Lg.Lo)(e:Dv w' d A c)(f:Df 0 w' 9 A):Ba w' {s with Ai:=d,log:=l} {p with A:=A,c:=c} fs:=by
 have a:=h.below b;exact⟨⟨e,f,a.st.tx,a.st.tt⟩,a.fn,a.fr,a.ft⟩
theorem Ht (s:Tx.St)(p:SP)(fs:List Fr)(K:fs.length≤100)(k:Nat)(L:k<fs.length)(f:Fr)(w:World)(h:Ba w s p fs):
 Cq 75 #[Ar s p,k,.agg (Gc f)] w fun e w'=>∃ q,e= .returned (Ar s q)∧Ba w' s q (fs.set k f)∧Bw w w':=by
 have M:=Hq h;have j:=Hq h.fn;have z:=Hq (fun W (N:Bw w W)=>Vc fs (by omega) p.F p.fc W (h.fr.below N));clear h;go_enter Tryz.func75,Tryz.ntmps75;go_upto_region 1 with fail;have b:=Ti w (Au s p) 36 (Gc f) 95 #[(),(),(),'s',(),false,(),(),(),(),"",'s',(),'s',()] 36;obtain⟨A,l⟩:=Gz b;rw[← l]at b ⊢;clear l;have O:=show A.cell? ⟨w.heap.size,11,none⟩=some (.slice p.F fs.length p.fc)from by rw[Aa b.out.Am,← j.out];rfl
 go_upto_region 2 with(go_at_call 126;refine(z.out _ b.out.below).mono ?_;rintro e B ⟨v,rfl,C,m⟩;obtain⟨g,c2,rfl,P⟩:=Za C (by omega);have H1:=Hq (b.out.step m);have D:=show B.cell? ⟨w.heap.size,11,none⟩=some (.slice p.F fs.length p.fc)from(by rw[Aa H1.out.Am,← j.out];rfl);have E:=Aj H1.out.Am 11)
 have G:w.heap.size<A.heap.size:=by have:=b.out.lt (i:=0) (by simp);omega
 have n:=Hq (show Fc w.heap.size w [((Au s {p with F:=some ⟨g,0,none⟩,fn:=fs.length,fc:=c2}),36),((Gc f),95),(#[(),(),(),'s',(),false,(),(),(),(),"",'s',(),'s',()],36)] (B.setCell ⟨w.heap.size,11,none⟩ (.slice (some ⟨g,0,none⟩) fs.length c2))from by have h:=H1.out.set 0 11 (.slice (some ⟨g,0,none⟩) fs.length c2) _ rfl;simpa using h);have c:=Hq (Lq C ⟨w.heap.size,11,none⟩ (.slice (some ⟨g,0,none⟩) fs.length c2) G);generalize B.setCell ⟨w.heap.size,11,none⟩ (.slice (some ⟨g,0,none⟩) fs.length c2)=w2 at n c ⊢;have I:(0:Int)≤(k:Int):=by omega
 have Q:(k:Int)<(fs.length:Int):=by omega
 obtain⟨o,r,t⟩:=vM E3 c.out k L f;have a:w2.there g (k*5) (Gc f).size:=o;have H:=show w2.cell? ⟨w.heap.size,11,none⟩=some (.slice (some ⟨g,0,none⟩) fs.length c2)from by rw[Aa n.out.Am];rfl
 clear O D E
 go_upto_region 3 with(first|with_reducible refine lL n.out.As J5 ?_|with_reducible refine wpList_store_mid rfl 95 (.tmp 18) (.tmp 17) rfl g (k*5) (Gc f) rfl rfl a Kr Kr ?_)
 have R:w.heap.size+3≤A.heap.size:=b.out.lt (i:=2) (by simp);have u:=Hq (n.out.under R t);have x:=Hq r;rw[show([.int .i64 f.Ab,.string f.bytes,.int .i64 f.pins,.bool f.mark,.int .i64 f.rc]:List Value)=Me f from rfl];generalize w2.setCells g (k*5) (Me f)=w3 at u x ⊢
 try simp only[Act.put]
 clear o a r t H H1 n c C m
 go_wp2_with(first|with_reducible refine lL u.out.Am Az ?_|with_reducible refine lS (Au s {p with F:=some ⟨g,0,none⟩,fn:=fs.length,fc:=c2}) u.out.Cc ?_)
 refine rT1 u.out.Cc Az ?_;have J:=(u.out.row 2 (Au s {p with F:=some ⟨g,0,none⟩,fn:=fs.length,fc:=c2}) _ rfl).below;have y:=M.out.below J;have d:=N6 x.out (w.heap.size+2) (Au s {p with F:=some ⟨g,0,none⟩,fn:=fs.length,fc:=c2}) (by omega);exact⟨{p with F:=some ⟨g,0,none⟩,fn:=fs.length,fc:=c2},rfl,⟨⟨y.st.dk,y.st.dt,y.st.tx,y.st.tt⟩,by rw[List.length_set],by rw[List.length_set];exact Ex (by rw[List.length_set]at d;exact d),(Df.own d).mono (Nat.zero_le _)⟩,J⟩
theorem cR (d:Lg.Dk)(A:Option Addr)(c:Nat)(a:Nat)(b:a+4≤d.Ad.length)(e:d.Ad.length≤1000000)(w:World):
 Cr 187 #[Dj d A c,.int .i64 (a:Int)] w (.bool true):=by
 obtain⟨L,left,down⟩:=d;simp only at b e;have g:(0:Int)≤(a:Int):=by omega
 have h:(a:Int)≤(L.length:Int)-4:=by omega
 have f:IntKind.i64.wrap ((L.length:Int)-4)=(L.length:Int)-4:=IntWalk.i64_in _ (by omega);clear b e;go_enter Tryz.func187,Tryz.ntmps187;go_wp2_with fail;go_ret;exact⟨by simp,Ag _ _⟩
theorem nK (L:List ByteArray){a k:Nat}(h:a+k<L.length):Lg.flat ((L.drop a).take (k+1))=Lg.flat ((L.drop a).take k)++(L[a+k]?.getD ⟨#[]⟩).data.toList:=by
 have e:(L.drop a).take (k+1)=(L.drop a).take k++[L[a+k]]:=by
  rw[List.take_add_one,List.getElem?_drop,List.getElem?_eq_getElem h];rfl
 rw[e,Lg.Si,List.getElem?_eq_getElem h,Option.getD_some]
 congr 1
 unfold Lg.flat
 simp
theorem V7 (d:Lg.Dk)(r:d.down=false)(Q:∀ b∈d.Ad,b.size=128)(A:Option Addr)(c:Nat)(a:Nat)(R:a+4≤d.Ad.length)(w:World)(h:Dv w d A c):
 Cr 167 #[Dj d A c,.int .i64 (a:Int)] w (.tuple #[.string (Gm d a),()]):=by
 have HR:=Hq (fun(k:Nat) (P:k<4) W (hb:Bw w W)=>show Cr 203 #[Dj d A c,.int .i64 ((a:Int)+(k:Int))] W (.tuple #[.string (d.Ad[a+k]?.getD ⟨#[]⟩),()]) from by
  have h9:=W8 d A c ((a:Int)+(k:Int)) W (h.below hb);have e:Lg.Fy d ((a:Int)+(k:Int))=(d.Ad[a+k]?.getD ⟨#[]⟩,0):=by
   unfold Lg.Fy;rw[if_neg (by rw[r];decide),if_pos (show Lg.Hi d _ from⟨by omega,by omega⟩)];unfold Lg.Qb;rw[show((a:Int)+(k:Int)).toNat=a+k by omega]
  rw[e]at h9;exact h9)
 have D:=Hq (fun W=>cR d A c a R h.small W);have E:=Hq (fun(k:Nat) (P:k<4)=>nK d.Ad (a:=a) (k:=k) (by omega));have F:=Hq (fun(k:Nat) (P:k<4)=>show(d.Ad[a+k]?.getD ⟨#[]⟩).size=128 from by rw[List.getElem?_eq_getElem (by omega),Option.getD_some];exact Q _ (List.getElem_mem _));have G:=Hq (fun k (P:k≤4)=>show(Lg.flat ((d.Ad.drop a).take k)).length≤512 from by
  have h1:=Lg.Dc (L:=(d.Ad.drop a).take k) (fun x hx=>Q x (List.mem_of_mem_drop (List.mem_of_mem_take hx)));have h2:=List.length_take_le k (d.Ad.drop a);omega)
 have s:=Hq (show Gm d a=⟨(Lg.flat ((d.Ad.drop a).take 4)).toArray⟩from rfl);have S:=h.small;have ad:a≤1000000:=by omega
 obtain⟨L,left,down⟩:=d;simp only at r;subst r;dsimp only[Dj]at HR D ⊢;simp only at E F s G R;generalize Gm ⟨L,left,false⟩ a=pp at s ⊢;clear h Q S;clear R;go_enter Tryz.func167,Tryz.ntmps167;go_upto_region 1 with fail;have m:=Hq (heap_alloc_new w (.cells #[.slice A L.length c,left,false] 28));have t:=Hq (Ag w (.cells #[.slice A L.length c,left,false] 28));obtain⟨W0,H⟩:=ex (w.alloc (.cells #[.slice A L.length c,left,false] 28));rw[← H]at m t ⊢;clear H;have T:=show W0.cell? ⟨w.heap.size,2,none⟩=some (.bool false)from by rw[Aa m.out];rfl
 go_upto_region 4 with(first
  |with_reducible refine lL m.out Ej ?_
  |(go_at_call 187;(with_reducible refine(D.out _).mono ?_);rintro e C ⟨rfl,f⟩))
 clear T;have I:=Hq (Ae (Ae m.out f) (Ag C (.cells #[.pointer none,'s'] 186)));have J:=Hq (heap_alloc_new C (.cells #[.pointer none,'s'] 186));have K:=Hq (Af t.out (Af f (Ag C (.cells #[.pointer none,'s'] 186))));have U:w.heap.size<C.heap.size:=Nat.lt_of_lt_of_le (C8 m.out) f.size;obtain⟨g,M⟩:=ex C.heap.size;obtain⟨V,n⟩:=ex (C.alloc (.cells #[.pointer none,'s'] 186));have hz:V.heap.size=g+1:=by rw[n,M];simp
 rw[← M,← n]at J;rw[← n]at I K;rw[← n,← M];rw[← M]at U;have HZ:=Hq hz;clear n M f m t hz
 try simp only[Act.put]
 go_wp2_with fail
 go_loopw [19] (fun i wr=>∃ k:Nat,k≤4∧i= .int .i64 (k:Int)∧Pr (g+1) wr.heap.size g (Lg.flat ((L.drop a).take k)) wr∧C7 (g+1) g V wr) (fun i _=>4-(intOf i).toNat)
 case atStart=>exact⟨0,by omega,rfl,Pr.fresh _ _ _ _ (by omega) J.out,C7.refl _ _ _⟩
 case round=>
  obtain⟨k,P,rfl,q,j⟩:=hrel;have u:=Hq q;have X:=Hq j;have ae:V.heap.size≤wr.heap.size:=j.size;have af:=HZ.out;have N:Bw w wr:=K.out.trans (X.out.below (by omega) (by omega));have v:=Hq N;clear q j N
  by_cases y:k<4
  ·have ag:IntKind.i64.wrap ((a:Int)+(k:Int))=(a:Int)+(k:Int):=IntWalk.i64_in _ (by omega)
   have Y:=Hq (show wr.heap[w.heap.size]? =some (.cells #[.slice A L.length c,left,false] 28 (0,0))from(X.out.block _ (by omega) (by omega)).trans I.out);have O:=Hq (HR.out k y wr v.out);have z:=Hq (E.out k y);have Z:=F.out k y;generalize L[a+k]?.getD ⟨#[]⟩=x at O z Z;have B:=G.out k (by omega);generalize Lg.flat ((L.drop a).take k)=l at u z B;have a1:=Hq B;clear B
   go_wp2_with(first
    |with_reducible refine lL Y.out Ej ?_
    |(go_at_call 203;(with_reducible refine O.out.mono ?_);rintro e w2 ⟨rfl,f⟩;have a6:=Hq (u.out.below f);have a7:=Hq (X.out.trans (C7.Jf (by omega) f));have ah:=f.size;clear f)
    |(go_at_call 181;(with_reducible refine(N5 _ _ _ _ _ _ a6.out (by have:=a1.out;omega) (by omega)).mono ?_);rintro e w3 ⟨rfl,o,p⟩;have a8:=Hq o;have aa:=Hq (a7.out.trans p);clear o p))
   go_roundw
   case rel=>exact⟨k+1,by omega,by go_num,by rw[z.out];exact a8.out,aa.out⟩
   case measure=>simp[intOf];omega
  ·obtain rfl:k=4:=by omega
   go_wp2_with((go_at_call 182;(with_reducible refine(O1 _ _ _ _ _ u.out).mono ?_);rintro e w2 ⟨rfl,p⟩))
   go_ret2;exact⟨by rw[s.out];rfl,v.out.trans (p.below (by omega) v.out.size)⟩
end Go.Proofs.YtdfkambdagoojaaGreatDoor
namespace Go
section
variable {P : Program} {ops : Array Oper} {Q : Exit → Act → World → Prop} {md : Region.Mode} {S : World → Prop} {z : Nat}
theorem V8 {i:Nat}{oi:Oper}{v:Value}(hi:ops[i]? =some oi)(l:∀ (j:Nat) (o:Oper) cs b,ops[j]? =some o→o.op≠ .select cs b)
 (I:∀ c a w,Q (.panic c) (a.put oi.dst v) w→Q (.panic c) a w) (n:i≠z):
 ∀ (fuel:Nat) (listed:Array Bool) (a:Act) (w:World),
  (∀ j oj,ops[j]? =some oj→j≠i→listed.getD j true=false→(∀ e∈oj.after,Region.binds md e=true→e.on≠i)→oi.apart ops oj=true)→
  i∈Region.ready md ops listed→YieldsIf P ops (fun _=>True) oi v a→(listed.getD z true=false→S w)→
  Fl P md ops Q S z fuel (listed.setIfInBounds i true) (a.put oi.dst v) w→Fl P md ops Q S z (fuel+1) listed a w:=by
 intro fuel
 induction fuel with
 |zero=>
  intro listed a w _ p A C H;refine⟨fun h=>(by rw[h]at p;cases p),fun j B=>?_⟩
  by_cases d:j=i
  ·subst d;exact A.wpOp hi trivial ⟨fun h=>C (by rw[getD_set_ne true n]at h;exact h),H⟩
  ·have:=ready_mono B d
   rw[H.1]at this
   cases this
 |succ fuel ih=>
  intro listed a w f p A C H;refine⟨fun h=>(by rw[h]at p;cases p),fun j B=>?_⟩
  by_cases d:j=i
  ·subst d;exact A.wpOp hi trivial ⟨fun h=>C (by rw[getD_set_ne true n]at h;exact h),H⟩
  ·have r:=H.2 j (ready_mono B d)
   obtain⟨m,oj,q,s⟩:=mem_ready.1 B;have t:∀ e∈oj.after,Region.binds md e=true→e.on≠i:=fun e J K D=>by
    have r:=s e J K;have L:=(mem_ready.1 p).1;rw[D]at r;rw[Q6 L]at r
    cases r
   have M:=wpOp_putIf q (f j oj q d m t) (fun cs b=>l i oi cs b hi) (fun cs b=>l j oj cs b q) I A r;have g:∀ k ok,ops[k]? =some ok→k≠i→(listed.setIfInBounds j true).getD k true=false→
    (∀ e∈ok.after,Region.binds md e=true→e.on≠i)→oi.apart ops ok=true:=fun k ok N E u F=>by
    refine f k ok N E ?_ F
    by_cases x:j=k
    ·subst x;exact m
    ·rw[getD_set_ne true x]at u;exact u
   refine wpOp_mono (fun O w' G=>?_) M;have y:(listed.setIfInBounds j true).getD z true=false→S w':=fun h=>G.2.1 (by
    rw[Array.setIfInBounds_comm _ _ (Ne.symm d),getD_set_ne true n];exact h)
   refine⟨y,ih (listed.setIfInBounds j true) O w' g (ready_mono p (Ne.symm d)) G.1 y ?_⟩;rw[Array.setIfInBounds_comm _ _ d];exact G.2.2
theorem J7 {i:Nat}{oi:Oper}{v:Value}{fuel:Nat}{listed:Array Bool}{a:Act}{w:World}(hi:ops[i]? =some oi)(b:(i != z)=true)
 (d:Region.noSelect ops=true) (e:Region.free md ops listed i=true) (f:(Region.ready md ops listed).contains i=true)
 (g:∀ c a w,Q (.panic c) (a.put oi.dst v) w→Q (.panic c) a w) (hy:YieldsIf P ops (fun _=>True) oi v a) (j:listed.getD z true=false→S w)
 (h:Fl P md ops Q S z fuel (listed.setIfInBounds i true) (a.put oi.dst v) w):Fl P md ops Q S z (fuel+1) listed a w:=
 V8 hi (Region.noSelect_spec d) g (by simpa using b) fuel listed a w (Region.free_spec hi e) (by simpa using f) hy j h
end
end Go
namespace Go.Proofs.YtdfkambdagoojaaGreatDoor
open Go.RowKit Sc
structure FrP (n:Nat) (fs:List Fr) (C:Nat→ByteArray):Prop where
 at_:∀ i (hi:i<fs.length),Full fs[i]→∃ p:Nat,p<n∧fs[i].Ab=(p:Int)∧fs[i].bytes=C p
 ds:∀ i j (hi:i<fs.length) (hj:j<fs.length),i≠j→Full fs[i]→Full fs[j]→fs[i].Ab≠fs[j].Ab
structure PQ (N n:Nat) (s:Tx.St) (fs:List Fr) (C:Nat→ByteArray):Prop where
 zl:s.zlog=(N:Int)
 zp:s.zpages=(n:Int)
 pw:Pw N (1+N+4*n) s.Ai s.log
 fr:FrP n fs C
 nm:∀ p,p<n→gI (C p)
 dk:∀ p,p<n→¬ J4 fs p→Lay N s.Ai p (C p)
theorem zB {N M:Nat}{d:Lg.Dk}{g:Lg.Lo}(h:Pw N M d g){a:Nat}{b:ByteArray}(c:b.size=512)(l:1+N≤a)(m:a+4≤M):F5 d a b 4=(gL d a b,0):=by
 obtain⟨n,o⟩:=h.write (Hr c (i:=0) (by omega)) l (by omega);obtain⟨p,q⟩:=o.write (Hr c (i:=1) (by omega)) (i:=a+1) (by omega) (by omega);obtain⟨r,s⟩:=q.write (Hr c (i:=2) (by omega)) (i:=a+2) (by omega) (by omega);obtain⟨t,u⟩:=s.write (Hr c (i:=3) (by omega)) (i:=a+3) (by omega) (by omega);have e:F5 d a b 1=({d with Ad:=d.Ad.set a (F8 b 0)},0):=by
  rw[He (k:=0) rfl];exact n
 have f:F5 d a b 2=({d with Ad:=(d.Ad.set a (F8 b 0)).set (a+1) (F8 b 1)},0):=by
  rw[He (k:=1) (by rw[e]),e];exact p
 have j:F5 d a b 3=({d with Ad:=((d.Ad.set a (F8 b 0)).set (a+1) (F8 b 1)).set (a+2) (F8 b 2)},0):=by
  rw[He (k:=2) (by rw[f]),f];exact r
 rw[He (k:=3) (by rw[j]),j];exact t
theorem PQ.sec {N n:Nat}{s:Tx.St}{fs:List Fr}{C:Nat→ByteArray}(h:PQ N n s fs C)(p:Nat):F9 s (p:Int)=1+N+4*p:=by
 unfold F9;rw[h.zl];omega
theorem PQ.read {N n:Nat}{s:Tx.St}{fs:List Fr}{C:Nat→ByteArray}(h:PQ N n s fs C){p:Nat}(a:p<n)(c:¬ J4 fs p):D7 s (p:Int)=(C p,0):=by
 unfold D7;rw[if_neg (by rw[h.pw.up];decide),h.sec p];rcases h.dk p a c with b|⟨b,d⟩
 ·rw[b]
  have e:=Ig (h.nm p a).is;rw[if_neg (Xe (h.nm p a).is),if_pos e.2.2.1,kE (h.nm p a)]
 ·rw[if_pos b,d];rfl
end Go.Proofs.YtdfkambdagoojaaGreatDoor
namespace Sc
def bit (b:ByteArray)(p:Nat):Bool:=(b.data.toList[p/8]?.getD 0).toNat.testBit (p%8)
end Sc
namespace Go.Proofs.YtdfkambdagoojaaGreatDoor
open Go.RowKit Sc
theorem sE {M a:Nat}(h:a+4≤M):Gm (Lg.Kp M) a=M7:=by
 have e:((Lg.Kp M).Ad.drop a).take 4=[Lg.Cy,Lg.Cy,Lg.Cy,Lg.Cy]:=by
  apply List.ext_getElem?
  intro j;rw[List.getElem?_take]
  split
  ·rename_i d
   rw[List.getElem?_drop]
   show(List.replicate M Lg.Cy)[a+j]? =_
   rw[List.getElem?_replicate,if_pos (by omega)];have:j=0∨j=1∨j=2∨j=3:=(by omega);rcases this with rfl|rfl|rfl|rfl<;>rfl
  ·rw[List.getElem?_eq_none (by simp;omega)]
 unfold Gm;rw[e];have c:Lg.flat [Lg.Cy,Lg.Cy,Lg.Cy,Lg.Cy]=List.replicate 512 0:=by
  have b:∀ L,Lg.flat (Lg.Cy::L)=List.replicate 128 0++Lg.flat L:=fun L=>rfl;rw[b,b,b,b,Lg.qV,List.append_nil,List.replicate_append_replicate,List.replicate_append_replicate,List.replicate_append_replicate]
 rw[c]
 rfl
def Ed (k:Nat):List Fr:=List.replicate k ⟨0,⟨#[]⟩,0,false,0⟩
theorem Es {k i:Nat}(hi:i<(Ed k).length):(Ed k)[i]=⟨0,⟨#[]⟩,0,false,0⟩:=(List.mem_replicate.1 (List.getElem_mem hi)).2
theorem Hu (k:Nat):(Ed k).length=k:=List.length_replicate
def sF (N n k:Nat):Tx.St:=⟨(N:Int),(n:Int),(k:Int),Lg.Kp (1+N+4*n),⟨1,(N:Int),0,0,⟨#[]⟩⟩,0,[],1⟩
theorem zC {N n k:Nat}(c:1≤n∧n≤60∧N≤3000)(d:1≤k∧k≤64):PI N n (sF N n k) (Ed k) (fun _=>Gj (0:Nat)):=by
 refine⟨rfl,rfl,c,yX N (1+N+4*n) (by omega),by rw[Hu];exact d,⟨Int.le_refl _,(by decide:(0:Int)≤64)⟩,⟨fun i a b=>?_,fun i j a e _ b _=>?_,fun i a=>?_,fun i a=>?_,fun i a=>?_⟩,fun p _=>(Qn 0 (by omega)).1,fun p f _=>.inr ⟨sE (by omega),rfl⟩⟩
 ·rw[Full,Es a]at b;exact absurd rfl b
 ·rw[Full,Es a]at b;exact absurd rfl b
 ·rw[Es a]
 ·rw[Es a];exact Aby
 ·rw[Es a];exact Nat.zero_le _
end Go.Proofs.YtdfkambdagoojaaGreatDoor
