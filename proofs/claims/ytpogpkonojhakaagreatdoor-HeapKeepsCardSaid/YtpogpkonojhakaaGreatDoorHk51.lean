import Derived.Test.YtpogpkonojhakaaGreatDoorHk00
import Derived.Test.YtpogpkonojhakaaGreatDoorHk08
import Derived.Lib.Small
set_option maxRecDepth 100000
set_option maxHeartbeats 16000000
set_option linter.unusedSimpArgs false
namespace Go.Proofs.YtpogpkonojhakaaGreatDoor
open Go.RowKit Sc
structure U8 (M:Nat) (d:Lg.Dk):Prop where
 sz:∀ x∈d.sectors,x.size=128
 lb: -9223372036854775808≤d.left∧d.left≤9223372036854775807
 len:d.sectors.length=M
theorem U8.write {M:Nat}{d:Lg.Dk}(h:U8 M d)(a:Int)(b:ByteArray):U8 M (Lg.C8 d a b).1:=by
 unfold Lg.C8
 split
 ·exact h
 ·split
  ·exact h
  ·rename_i e
   split
   ·exact⟨h.sz,h.lb,h.len⟩
   ·refine⟨fun x f=>?_,?_,by show(d.sectors.set _ _).length=M;rw[List.length_set];exact h.len⟩
    ·rcases List.mem_or_eq_of_mem_set f with h1|h1
     ·exact h.sz x h1
     ·rw[h1]
      by_cases c:b.size=128
      ·exact c
      ·exact absurd (fun g=>c g.2) e
    ·have:=h.lb
     show _≤(if 0<d.left then d.left-1 else d.left)∧(if 0<d.left then d.left-1 else d.left)≤_
     split<;>omega
theorem U8.Cp {M:Nat}(base:Int)(all:List ByteArray):∀ (i:Nat) (d:Lg.Dk),U8 M d→U8 M (Lg.Cp base all i d).1
 |0,_,h=>h
 |i+1,d,h=>by
  have h1:=h.write (base+(i:Int)) (all[i]?.getD ⟨#[]⟩);unfold Lg.Cp
  split
  ·exact U8.Cp base all i _ h1
  ·exact h1
theorem U8.force {M:Nat}{d:Lg.Dk}(h:U8 M d)(l:Lg.Lo):U8 M (Lg.Bf d l).1:=by
 unfold Lg.Bf
 split
 ·exact h
 ·simp only
  split
  ·exact U8.Cp _ _ _ _ h
  ·exact U8.Cp _ _ _ _ h
def Rn (d:Lg.Dk)(a:Nat)(b:ByteArray):Nat→Lg.Dk×Int
 |0=>(d,0)
 |k+1=>if(Rn d a b k).2=0 then Lg.C8 (Rn d a b k).1 ((a:Int)+(k:Int)) (Gx b k)else Rn d a b k
theorem V3 {d:Lg.Dk}{a:Nat}{b:ByteArray}{k:Nat}(h:¬ (Rn d a b k).2=0):∀ j,Rn d a b (k+j)=Rn d a b k
 |0=>rfl
 |j+1=>by
  have ih:=V3 h j
  show(if(Rn d a b (k+j)).2=0 then _ else Rn d a b (k+j))=_
  rw[ih,if_neg h]
theorem Mr {d:Lg.Dk}{a:Nat}{b:ByteArray}{k:Nat}(h:(Rn d a b k).2=0):Rn d a b (k+1)=Lg.C8 (Rn d a b k).1 ((a:Int)+(k:Int)) (Gx b k):=by
 show(if(Rn d a b k).2=0 then _ else _)=_
 rw[if_pos h]
theorem U8.Rn {M:Nat}{d:Lg.Dk}(h:U8 M d)(a:Nat)(b:ByteArray):∀ k,U8 M (Rn d a b k).1
 |0=>h
 |k+1=>by
  have ih:=U8.Rn h a b k
  by_cases h0:(Go.Proofs.YtpogpkonojhakaaGreatDoor.Rn d a b k).2=0
  ·rw[Mr h0];exact ih.write _ _
  ·rw[V3 h0 1];exact ih
structure Px where
 s:Tx.St
 fs:List Fr
 e:Int
def zS:Fr:=⟨0,⟨#[]⟩,0,false,0⟩
def Dt (fs:List Fr)(k:Nat):Fr:=fs[k]?.getD zS
theorem Cx {fs:List Fr}{k:Nat}(h:k<fs.length):Dt fs k=fs[k]:=by unfold Dt;rw[List.getElem?_eq_getElem h];rfl
def Ev (s:Tx.St)(p:Int):Nat:=(1+s.zlog+4*p).toNat
def Ew (s:Tx.St)(p:Int):ByteArray×Int:=
 if s.Ay.down=true then(⟨#[]⟩,20)else
 if Gb s.Ay (Ev s p)=Jm then(Gm 0,0)else
 if Ia (Gb s.Ay (Ev s p))=true then(Ny (Gb s.Ay (Ev s p)),0)else(⟨#[]⟩,19)
def eH (n:Nat):Nat→Nat→List Fr→Option (Nat×List Fr)
 |0,_,_=>none
 |j+1,a,fs=>if 0<(Dt fs a).pins then eH n j ((a+1)%n) fs else if(Dt fs a).mark=true then eH n j ((a+1)%n) (fs.set a {Dt fs a with mark:=false})else some (a,fs)
def Dy (s:Tx.St)(fs:List Fr)(k:Nat):Px:=
 if(Dt fs k).rc=0 then⟨s,fs,0⟩else
 if ¬ (Lg.Bf s.Ay s.log).2.2=0 then⟨{s with Ay:=(Lg.Bf s.Ay s.log).1,log:=(Lg.Bf s.Ay s.log).2.1},fs,(Lg.Bf s.Ay s.log).2.2⟩else
 if ¬ (Rn (Lg.Bf s.Ay s.log).1 (Ev s (Dt fs k).Ae) (Ek (Dt fs k).bytes) 4).2=0 then
  ⟨{s with Ay:=(Rn (Lg.Bf s.Ay s.log).1 (Ev s (Dt fs k).Ae) (Ek (Dt fs k).bytes) 4).1,log:=(Lg.Bf s.Ay s.log).2.1},fs,(Rn (Lg.Bf s.Ay s.log).1 (Ev s (Dt fs k).Ae) (Ek (Dt fs k).bytes) 4).2⟩
 else⟨{s with Ay:=(Rn (Lg.Bf s.Ay s.log).1 (Ev s (Dt fs k).Ae) (Ek (Dt fs k).bytes) 4).1,log:=(Lg.Bf s.Ay s.log).2.1},fs.set k {Dt fs k with rc:=0},0⟩
noncomputable def Yn (fs:List Fr) (p:Int):Option Nat:=by
 classical exact fs.findIdx? fun f=>decide (Full f∧f.Ae=p)
noncomputable def Im (fs:List Fr):Option Nat:=by
 classical exact fs.findIdx? fun f=>decide (¬ Full f)
theorem T5 {α:Type}{P:α→Bool}{l:List α}(h:∀ x∈l,P x=false):l.findIdx? P=none:=List.findIdx?_eq_none_iff.2 h
theorem T6 {α:Type}{P:α→Bool}{l:List α}{k:Nat}(hk:k<l.length)(a:P l[k]=true)(b:∀ j (hj:j<l.length),j<k→P l[j]=false):l.findIdx? P=some k:=by
 rw[List.findIdx?_eq_some_iff_getElem];refine⟨hk,a,fun j hj=>?_⟩;rw[b j (by omega) hj]
 decide
theorem qI {fs:List Fr}{p:Int}(h:∀ x∈fs,¬ (Full x∧x.Ae=p)):Yn fs p=none:=by
 unfold Yn;exact T5 fun x a=>by simpa using h x a
theorem qJ {fs:List Fr}{p:Int}{k:Nat}(hk:k<fs.length)(b:Full fs[k]∧fs[k].Ae=p)(c:∀ j (hj:j<fs.length),j<k→¬ (Full fs[j]∧fs[j].Ae=p)):Yn fs p=some k:=by
 unfold Yn;exact T6 hk (by simpa using b) fun j hj a=>by simpa using c j hj a
theorem eI {fs:List Fr}(h:∀ x∈fs,¬ ¬ Full x):Im fs=none:=by
 unfold Im;exact T5 fun x a=>by simpa using h x a
theorem eJ {fs:List Fr}{k:Nat}(hk:k<fs.length)(b:¬ Full fs[k])(c:∀ j (hj:j<fs.length),j<k→¬ ¬ Full fs[j]):Im fs=some k:=by
 unfold Im;exact T6 hk (by simpa using b) fun j hj a=>by simpa using c j hj a
noncomputable def Bp (s:Tx.St) (fs:List Fr):Px×Nat:=
 match Im fs with
 |some k=>(⟨s,fs,0⟩,k)
 |none=>match eH fs.length (2*fs.length) (s.hand.toNat%fs.length) fs with
  |none=>(⟨s,fs,18⟩,0)
  |some (k,fs')=>(Dy {s with hand:=(((k+1)%fs.length:Nat):Int)} fs' k,k)
def Hi (s:Tx.St)(fs:List Fr)(x:Px):Px:=if x.e=0∨x.e=20 then x else⟨s,fs,x.e⟩
def Ok (s:Tx.St)(p:Int):Prop:=0≤p∧p<s.zpages
instance (s:Tx.St) (p:Int):Decidable (Ok s p):=by unfold Ok;exact inferInstance
noncomputable def Bg (s:Tx.St) (fs:List Fr) (p:Int):Px×Nat:=
 if ¬ Ok s p then(⟨s,fs,1⟩,0)else
 match Yn fs p with
 |some k=>(⟨s,fs.set k {Dt fs k with mark:=true},0⟩,k)
 |none=>if ¬ (Ew s p).2=0 then(⟨s,fs,(Ew s p).2⟩,0)else
  if(Bp s fs).1.e=0 then(⟨(Bp s fs).1.s,(Bp s fs).1.fs.set (Bp s fs).2 ⟨p,(Ew s p).1,0,true,0⟩,0⟩,(Bp s fs).2)
  else(Hi s fs (Bp s fs).1,0)
noncomputable def Np (s:Tx.St) (fs:List Fr) (p:Int):Px×ByteArray:=
 ((Bg s fs p).1,if(Bg s fs p).1.e=0 then(Dt (Bg s fs p).1.fs (Bg s fs p).2).bytes else⟨#[]⟩)
def Pc (p:Int)(b:ByteArray):Rc.Rec:=⟨0,0,0,8,p,0,0,⟨7,0,⟨#[]⟩,b⟩,0,0,Rc.Cg,[],[]⟩
noncomputable def Fm (s:Tx.St) (f:Fr) (p:Int):Lg.Lo×Int×Int:=if f.rc=0 then Lg.As s.log (Pc p f.bytes)else(s.log,f.rc,0)
def Fo (ts:List Rc.Bc)(i:Nat):Rc.Bc:=ts[i]?.getD ⟨0,0,0,false⟩
noncomputable def T7 (x:Px) (k i:Nat) (s:Tx.St) (fs:List Fr) (r:Rc.Rec) (b:ByteArray):Px:=
 let m:=Fm x.s (Dt x.fs k) r.Ae
 if ¬ m.2.2=0 then⟨s,fs,m.2.2⟩else
 let a:=Lg.As m.1 {r with prev:=(Fo x.s.txns i).last}
 if ¬ a.2.2=0 then⟨s,fs,a.2.2⟩else
 ⟨{x.s with log:=a.1,txns:=x.s.txns.set i {Fo x.s.txns i with last:=a.2.1,next:=if r.kind=3 then r.next else a.2.1}},x.fs.set k ⟨(Dt x.fs k).Ae,Bk b a.2.1,(Dt x.fs k).pins,true,m.2.1⟩,0⟩
noncomputable def Cj (s:Tx.St) (fs:List Fr) (r:Rc.Rec) (D:ByteArray→ByteArray×Int):Px:=
 if ¬ ((r.kind=2∨r.kind=3)∧Ok s r.Ae)then⟨s,fs,1⟩else
 match s.txns.findIdx? fun a=>decide (a.txn=r.txn)with
 |none=>⟨s,fs,21⟩
 |some i=>if ¬ (Bg s fs r.Ae).1.e=0 then(Bg s fs r.Ae).1 else
  if ¬ (D (Dt (Bg s fs r.Ae).1.fs (Bg s fs r.Ae).2).bytes).2=0 then⟨s,fs,(D (Dt (Bg s fs r.Ae).1.fs (Bg s fs r.Ae).2).bytes).2⟩else
  T7 (Bg s fs r.Ae).1 (Bg s fs r.Ae).2 i s fs r (D (Dt (Bg s fs r.Ae).1.fs (Bg s fs r.Ae).2).bytes).1
theorem tI (x:Pg.Cw):(⟨(Pg.C0 x).toArray⟩:ByteArray).size≤512:=by
 show(Pg.C0 x).toArray.size≤512
 by_cases h:512<Pg.Au (Pg.trim x.Ai)
 ·rw[Pg.Zf h];decide
 ·rw[List.size_toArray,Pg.Me (by omega)];exact Nat.le_refl _
theorem bA (p:ByteArray)(n:Int):(Bk p n).size≤512:=by
 unfold Bk
 split
 ·decide
 ·exact tI _
theorem gX {b:ByteArray}(h:Bi b=true):b≠⟨#[]⟩:=fun e=>by
 have a:=Hm h;rw[e]at a;exact absurd a (by decide)
theorem gY {b:ByteArray}{l:Int}(h:Bi b=true)(a:Rc.num l):Bi (Bk b l)=true:=by
 have d:=a.1;have c:=(Pb h (l:=l.toNat) (by have:=a.2;omega)).1.is
 rwa[show((l.toNat:Nat):Int)=l from by omega]at c
theorem vY {b:ByteArray}(h:Bi b=true):Bi (Ny b)=true:=(vT h).1.is
structure gZ (n B:Nat) (f:Fr):Prop where
 sz:f.bytes.size≤512
 pn:0≤f.pins∧f.pins≤(B:Int)
 rc:Rc.num f.rc
 pg:0≤f.Ae∧f.Ae<(n:Int)
 is:Full f→Bi f.bytes=true
 rz:f.rc≠0→Full f
structure Wf (N n B:Nat) (s:Tx.St) (fs:List Fr):Prop where
 zl:s.zlog=(N:Int)
 zp:s.zpages=(n:Int)
 n1:1≤n∧n≤60∧N≤3000
 lb:Tx.aS s
 al:Lg.Al s.log
 ln:s.log.n=(N:Int)
 ef:s.log.end_≤(N:Int)*128
 dk:U8 (1+N+4*n) s.Ay
 nf:1≤fs.length∧fs.length≤64
 hd:0≤s.hand∧s.hand≤64
 fr:∀ i (h:i<fs.length),gZ n B fs[i]
 ds:∀ i j (hi:i<fs.length) (hj:j<fs.length),i≠j→Full fs[i]→Full fs[j]→fs[i].Ae≠fs[j].Ae
 tl:s.txns.length≤800000
 tx:∀ t∈s.txns,Rc.Jj t
theorem gZ.set {n B:Nat}{fs:List Fr}(h:∀ i (h:i<fs.length),gZ n B fs[i])(k:Nat){f:Fr}(b:gZ n B f):∀ i (h:i<(fs.set k f).length),gZ n B (fs.set k f)[i]:=fun i c=>by
 rcases Hb fs k f i c with⟨_,e⟩|⟨_,a,e⟩
 ·rw[e];exact b
 ·rw[e];exact h i a
theorem vZ {fs:List Fr}(h:∀ i j (hi:i<fs.length) (hj:j<fs.length),i≠j→Full fs[i]→Full fs[j]→fs[i].Ae≠fs[j].Ae)(k:Nat)(f:Fr)(o:Full f→∀ j (hj:j<fs.length),j≠k→Full fs[j]→f.Ae≠fs[j].Ae):
 ∀ i j (hi:i<(fs.set k f).length) (hj:j<(fs.set k f).length),i≠j→Full (fs.set k f)[i]→Full (fs.set k f)[j]→(fs.set k f)[i].Ae≠(fs.set k f)[j].Ae:=fun i j hi hj d b c=>by
 rcases Hb fs k f i hi with⟨m,e⟩|⟨m,g,e⟩<;>rcases Hb fs k f j hj with⟨n,a⟩|⟨n,l,a⟩
 ·exact absurd (m.trans n.symm) d
 ·rw[e,a];rw[e]at b;rw[a]at c;exact o b j l n c
 ·rw[e,a];rw[e]at b;rw[a]at c;exact fun p=>o c i g m b p.symm
 ·rw[e,a];rw[e]at b;rw[a]at c;exact h i j g l d b c
theorem Wf.put {N n B:Nat}{s:Tx.St}{fs:List Fr}(h:Wf N n B s fs)(k:Nat){f:Fr}(a:gZ n B f)(b:Full f→∀ j (hj:j<fs.length),j≠k→Full fs[j]→f.Ae≠fs[j].Ae):Wf N n B s (fs.set k f):=
 ⟨h.zl,h.zp,h.n1,h.lb,h.al,h.ln,h.ef,h.dk,by rw[List.length_set];exact h.nf,h.hd,gZ.set h.fr k a,vZ h.ds k f b,h.tl,h.tx⟩
theorem Wf.set {N n B:Nat}{s:Tx.St}{fs:List Fr}(h:Wf N n B s fs){k:Nat}(hk:k<fs.length){f:Fr}(c:gZ n B f)(d:f.Ae=fs[k].Ae)(g:Full f→Full fs[k]):Wf N n B s (fs.set k f):=
 h.put k c fun i j l a b=>by rw[d];exact h.ds k j hk l (fun e=>a e.symm) (g i) b
theorem gZ.mark {n B:Nat}{f:Fr}(h:gZ n B f)(m:Bool):gZ n B {f with mark:=m}:=⟨h.sz,h.pn,h.rc,h.pg,h.is,h.rz⟩
theorem Ky:Rc.num 0:=⟨by decide,by decide⟩
theorem gZ.clean {n B:Nat}{f:Fr}(h:gZ n B f):gZ n B {f with rc:=0}:=⟨h.sz,h.pn,Ky,h.pg,h.is,fun h=>absurd rfl h⟩
theorem Wf.marks {N n B:Nat}{s:Tx.St}{fs fs':List Fr}(h:Wf N n B s fs)(a:Tw fs fs'):Wf N n B s fs':=
 have g:=a.len
 ⟨h.zl,h.zp,h.n1,h.lb,h.al,h.ln,h.ef,h.dk,by rw[g];exact h.nf,h.hd,fun i b=>by rw[a.at_ i (by omega) b];exact(h.fr i (by omega)).mark _,fun i j b k c d f=>by
   have e:=a.at_ i (by omega) b;have l:=a.at_ j (by omega) k;rw[e]at d ⊢;rw[l]at f ⊢;exact h.ds i j (by omega) (by omega) c d f,h.tl,h.tx⟩
theorem Wf.hand {N n B:Nat}{s:Tx.St}{fs:List Fr}(h:Wf N n B s fs){x:Int}(a:0≤x∧x≤64):Wf N n B {s with hand:=x} fs:=
 ⟨h.zl,h.zp,h.n1,⟨h.lb.e0,h.lb.e1,h.lb.t0,h.lb.t1,h.lb.f,h.lb.n0,h.lb.n1,h.lb.s0,h.lb.s1⟩,h.al,h.ln,h.ef,h.dk,h.nf,a,h.fr,h.ds,h.tl,h.tx⟩
theorem Wf.Ay {N n B:Nat}{s:Tx.St}{fs:List Fr}(h:Wf N n B s fs){d:Lg.Dk}(a:U8 (1+N+4*n) d):Wf N n B {s with Ay:=d} fs:=
 ⟨h.zl,h.zp,h.n1,⟨h.lb.e0,h.lb.e1,h.lb.t0,h.lb.t1,h.lb.f,h.lb.n0,h.lb.n1,h.lb.s0,h.lb.s1⟩,h.al,h.ln,h.ef,a,h.nf,h.hd,h.fr,h.ds,h.tl,h.tx⟩
structure bB (N:Nat) (l:Lg.Lo):Prop where
 e0:0≤l.end_
 ef:l.end_≤(N:Int)*128
 t0:(l.tail.size:Int)≤l.end_
 t1:l.end_%128≤(l.tail.size:Int)
 f:l.from_=1
 n:l.n=(N:Int)
 al:Lg.Al l
theorem Wf.low {N n B:Nat}{s:Tx.St}{fs:List Fr}(h:Wf N n B s fs):bB N s.log:=⟨h.lb.e0,h.ef,h.lb.t0,h.lb.t1,h.lb.f,h.ln,h.al⟩
theorem Wf.log {N n B:Nat}{s:Tx.St}{fs:List Fr}(h:Wf N n B s fs){l:Lg.Lo}(a:bB N l):Wf N n B {s with log:=l} fs:=by
 have b:=h.n1.2.2;have c:=a.ef;have d:=a.n;exact⟨h.zl,h.zp,h.n1,⟨a.e0,by show l.end_≤_;omega,a.t0,a.t1,a.f,by show 0≤l.n;omega,by show l.n≤_;omega,a.al.s0,a.al.se⟩,a.al,a.n,a.ef,h.dk,h.nf,h.hd,h.fr,h.ds,h.tl,h.tx⟩
theorem bB.forced {N:Nat}{l:Lg.Lo}(h:bB N l):bB N (Lg.J0 l):=by
 have b:=h.e0;have c:=h.t1;have a:((Lg.J0 l).tail.size:Int)=l.end_%128:=by
  unfold Lg.J0
  show((l.tail.extract (l.tail.size-(l.end_%128).toNat) l.tail.size).size:Int)=_
  rw[ByteArray.size_extract];omega
 refine⟨b,h.ef,?_,?_,h.f,h.n,⟨b,Int.le_refl _,?_⟩⟩
 ·rw[a];show _≤l.end_;omega
 ·rw[a];exact Int.le_refl _
 ·rw[a];rfl
theorem bB.force {N:Nat}{l:Lg.Lo}(h:bB N l)(d:Lg.Dk):bB N (Lg.Bf d l).2.1:=by
 unfold Lg.Bf
 split
 ·exact h
 ·simp only
  split
  ·exact h.forced
  ·exact h
theorem bB.append {N:Nat}{l:Lg.Lo}(h:bB N l)(r:Rc.Rec):bB N (Lg.As l r).1:=by
 have a:=Tx.lG r h.al
 revert a
 unfold Lg.As;simp only
 split
 ·intro _;exact h
 ·split
  ·intro _;exact h
  ·rename_i d
   intro a;have e:=h.e0;have g:=h.t0;have i:=h.t1;have b:=h.n;have c:(⟨(Lg.D9 {r with lsn:=l.end_+1}).toArray⟩:ByteArray).size=(Lg.D9 {r with lsn:=l.end_+1}).length:=(by show(Lg.D9 {r with lsn:=l.end_+1}).toArray.size=_;simp);rw[b]at d;refine⟨?_,?_,?_,?_,h.f,b,a⟩
   ·show 0≤l.end_+_;omega
   ·show l.end_+_≤_;omega
   ·show((l.tail++_).size:Int)≤l.end_+_;rw[ByteArray.size_append,c];omega
   ·show(l.end_+_)%128≤((l.tail++_).size:Int);rw[ByteArray.size_append,c];omega
theorem Wf.force {N n B:Nat}{s:Tx.St}{fs:List Fr}(h:Wf N n B s fs):Wf N n B {s with Ay:=(Lg.Bf s.Ay s.log).1,log:=(Lg.Bf s.Ay s.log).2.1} fs:=
 (h.log (h.low.force s.Ay)).Ay (h.dk.force s.log)
theorem V4 {N n B:Nat}{s:Tx.St}{fs:List Fr}(h:Wf N n B s fs){p:Int}(b:0≤p∧p<(n:Int)):Ev s p+4≤1+N+4*n∧((Ev s p:Nat):Int)=1+s.zlog+4*p:=by
 have a:=h.zl;unfold Ev;rw[a];omega
theorem Wf.flush {N n B:Nat}{s:Tx.St}{fs:List Fr}(h:Wf N n B s fs){k:Nat}(hk:k<fs.length):Wf N n B (Dy s fs k).s (Dy s fs k).fs∧(Dy s fs k).fs.length=fs.length:=by
 have c:=h.force;have d:=fun a b=>c.Ay (U8.Rn c.dk a b 4);unfold Dy
 split
 ·exact⟨h,rfl⟩
 ·split
  ·exact⟨c,rfl⟩
  ·split
   ·exact⟨d _ _,rfl⟩
   ·rw[Cx hk]
    exact⟨(d _ _).set hk (h.fr k hk).clean rfl fun h=>h,List.length_set⟩
theorem Kz (n:Nat)(hn:0<n):∀ (j a:Nat) (fs0 fs:List Fr) (k:Nat) (fs':List Fr),fs.length=n→a<n→Tw fs0 fs→eH n j a fs=some (k,fs')→k<n∧Tw fs0 fs'∧¬ 0<(Dt fs' k).pins
 |0,_,_,_,_,_,_,_,_,h=>by cases h
 |j+1,a,fs0,fs,k,fs',hl,ha,hm,h=>by
  unfold eH at h
  split at h
  ·exact Kz n hn j _ fs0 fs k fs' hl (Nat.mod_lt _ hn) hm h
  ·split at h
   ·rw[Cx (show a<fs.length by omega)]at h
    exact Kz n hn j _ fs0 _ k fs' (by rw[List.length_set];exact hl) (Nat.mod_lt _ hn) (hm.set (by omega) false) h
   ·rename_i h1 _
    injection h with h
    injection h with e1 e2
    subst e1 e2;exact⟨ha,hm,h1⟩
theorem Wf.room {N n B:Nat}{s:Tx.St}{fs:List Fr}(h:Wf N n B s fs):Wf N n B (Bp s fs).1.s (Bp s fs).1.fs∧(Bp s fs).1.fs.length=fs.length∧(Bp s fs).2<fs.length:=by
 have i:=h.nf;unfold Bp
 split
 ·rename_i k hk
  refine⟨h,rfl,?_⟩;unfold Im at hk;exact(List.findIdx?_eq_some_iff_getElem.1 hk).1
 ·split
  ·exact⟨h,rfl,by show 0<fs.length;omega⟩
  ·rename_i k a c
   obtain⟨d,b,_⟩:=Kz fs.length (by omega) _ _ fs fs k a rfl (Nat.mod_lt _ (by omega)) (Tw.refl fs) c;have e:=b.len;have j:(k+1)%fs.length<fs.length:=Nat.mod_lt _ (by omega);obtain⟨f,g⟩:=((h.hand (x:=(((k+1)%fs.length:Nat):Int)) (by omega)).marks b).flush (k:=k) (by omega);exact⟨f,g.trans e,d⟩
theorem lV (s:Tx.St)(fs:List Fr){k:Nat}(hk:k<fs.length):Nd fs (Dy s fs k).fs:=by
 unfold Dy
 split
 ·exact Nd.refl fs
 ·split
  ·exact Nd.refl fs
  ·split
   ·exact Nd.refl fs
   ·rw[Cx hk]
    exact Nd.set fs k hk _ rfl rfl
theorem qK {N n B:Nat}{s:Tx.St}{fs:List Fr}(h:Wf N n B s fs):Nd fs (Bp s fs).1.fs:=by
 have d:=h.nf;unfold Bp
 split
 ·exact Nd.refl fs
 ·split
  ·exact Nd.refl fs
  ·rename_i k a c
   obtain⟨e,b,_⟩:=Kz fs.length (by omega) _ _ fs fs k a rfl (Nat.mod_lt _ (by omega)) (Tw.refl fs) c;exact(Nd.marks b).trans (lV _ _ (by have:=b.len;omega)) b.len
theorem eK {fs:List Fr}{p:Int}(h:Yn fs p=none):∀ j (hj:j<fs.length),Full fs[j]→fs[j].Ae≠p:=fun j hj b e=>by
 unfold Yn at h;have a:=List.findIdx?_eq_none_iff.1 h fs[j] (List.getElem_mem hj);simp only[decide_eq_false_iff_not]at a;exact a ⟨b,e⟩
theorem Wf.back {N n B:Nat}{s:Tx.St}{fs:List Fr}(h:Wf N n B s fs){x:Px}(a:Wf N n B x.s x.fs)(b:x.fs.length=fs.length):Wf N n B (Hi s fs x).s (Hi s fs x).fs∧(Hi s fs x).fs.length=fs.length:=by
 unfold Hi
 split
 ·exact⟨a,b⟩
 ·exact⟨h,rfl⟩
theorem tJ (s:Tx.St)(p:Int)(h:(Ew s p).2=0):Bi (Ew s p).1=true:=by
 unfold Ew at h ⊢
 split
 ·rename_i b;rw[if_pos b]at h;exact absurd h (by decide)
 ·split
  ·exact(Ln 0 (by omega)).1.is
  ·split
   ·rename_i a
    unfold Ia at a;rw[Bool.and_eq_true]at a;exact vY a.1
   ·rename_i b c a
    rw[if_neg b,if_neg c,if_neg a]at h;exact absurd h (by decide)
theorem tK (s:Tx.St)(p:Int):(Ew s p).1.size≤512:=by
 unfold Ew
 split
 ·decide
 ·split
  ·exact Nat.le_of_eq (Ln 0 (by omega)).1.size
  ·split
   ·exact bA _ _
   ·decide
theorem qL {fs:List Fr}{p:Int}{k:Nat}(h:Yn fs p=some k):∃ hk:k<fs.length,Full fs[k]∧fs[k].Ae=p:=by
 unfold Yn at h;obtain⟨a,b,_⟩:=List.findIdx?_eq_some_iff_getElem.1 h;exact⟨a,by simpa using b⟩
theorem Wf.held {N n B:Nat}{s:Tx.St}{fs:List Fr}(h:Wf N n B s fs)(p:Int):Wf N n B (Bg s fs p).1.s (Bg s fs p).1.fs∧(Bg s fs p).1.fs.length=fs.length∧(Bg s fs p).2<fs.length∧
 ((Bg s fs p).1.e=0→(0≤p∧p<(n:Int))∧Full (Dt (Bg s fs p).1.fs (Bg s fs p).2)∧(Dt (Bg s fs p).1.fs (Bg s fs p).2).Ae=p):=by
 have a:=h.nf;have C:=h.zp;have l:0<fs.length:=by omega
 by_cases c:Ok s p
 ·have b:0≤p∧p<(n:Int):=by unfold Ok at c;omega
  cases d:Yn fs p with
  |some k=>
   have e:Bg s fs p=(⟨s,fs.set k {Dt fs k with mark:=true},0⟩,k):=by
    unfold Bg;rw[if_neg (fun a=>a c),d]
   rw[e];obtain⟨hk,v,w⟩:=qL d;rw[Cx hk];refine⟨h.set hk ((h.fr k hk).mark true) rfl fun h=>h,List.length_set,hk,fun _=>⟨b,?_⟩⟩;simp only;rw[Cx (by rw[List.length_set];exact hk),List.getElem_set_self];exact⟨v,w⟩
  |none=>
   by_cases f:(Ew s p).2=0
   ·obtain⟨r,i,t⟩:=h.room
    by_cases m:(Bp s fs).1.e=0
    ·have e:Bg s fs p=(⟨(Bp s fs).1.s,(Bp s fs).1.fs.set (Bp s fs).2 ⟨p,(Ew s p).1,0,true,0⟩,0⟩,(Bp s fs).2):=by
      unfold Bg;rw[if_neg (fun a=>a c),d];simp only;rw[if_neg (fun a=>a f),if_pos m]
     rw[e];have u:=tJ s p f;have o:=gX u;refine⟨r.put _ ⟨tK s p,⟨Int.le_refl _,by show(0:Int)≤(B:Int);omega⟩,Ky,b,fun _=>u,fun h=>absurd rfl h⟩ (fun _ j x _ q=>fun y=>(qK h).none_ i (eK d) j x q y.symm),by rw[List.length_set];exact i,t,fun _=>⟨b,?_⟩⟩;simp only;rw[Cx (by rw[List.length_set,i];exact t),List.getElem_set_self];exact⟨o,rfl⟩
    ·have e:Bg s fs p=(Hi s fs (Bp s fs).1,0):=by
      unfold Bg;rw[if_neg (fun a=>a c),d];simp only;rw[if_neg (fun a=>a f),if_neg m]
     rw[e];obtain⟨z,A⟩:=h.back r i;refine⟨z,A,l,fun g=>absurd g ?_⟩;unfold Hi;simp only
     split<;>exact m
   ·have e:Bg s fs p=(⟨s,fs,(Ew s p).2⟩,0):=by
     unfold Bg;rw[if_neg (fun a=>a c),d];simp only;rw[if_pos f]
    rw[e];exact⟨h,rfl,l,fun g=>absurd g f⟩
 ·have e:Bg s fs p=(⟨s,fs,1⟩,0):=by unfold Bg;rw[if_pos c]
  rw[e];exact⟨h,rfl,l,fun g=>absurd g (by show ¬ (1:Int)=0;decide)⟩
theorem T8 {N:Nat}{l:Lg.Lo}(h:bB N l)(a:N≤3000)(r:Rc.Rec):Rc.num (Lg.As l r).2.1:=by
 have b:=h.e0;have c:=h.ef;unfold Lg.As;simp only
 split
 ·exact Ky
 ·split
  ·exact Ky
  ·exact⟨by show 0≤l.end_+1;omega,by show l.end_+1<_;omega⟩
theorem V5 {l:Lg.Lo}{r:Rc.Rec}(h:(Lg.As l r).2.2=0):Rc.Bx {r with lsn:=l.end_+1}∧(Lg.As l r).2.1=l.end_+1:=by
 unfold Lg.As at h ⊢;simp only at h ⊢
 split at h
 ·exact absurd h (by show ¬ (1:Int)=0;decide)
 ·rename_i a
  split at h
  ·exact absurd h (by show ¬ (18:Int)=0;decide)
  ·rename_i b
   rw[if_neg a,if_neg b];exact⟨Classical.byContradiction fun c=>a c,rfl⟩
theorem eL {r:Rc.Rec}(h:Rc.Bx r)(hk:r.kind=3):Rc.num r.next:=by
 cases h with
 |small kind a prev b g c d f=>exact Ky
 |change a prev b Ae op how root e c d f h4 h5 h6=>exact absurd hk (by show ¬ (2:Int)=3;decide)
 |clr a prev b Ae op next c d f h4 h5 h6=>exact h6
 |nest a prev b next c d f h6=>exact h6
 |image a prev b Ae op c d f h4 h5=>exact absurd hk (by show ¬ (8:Int)=3;decide)
 |check a prev b n ts ds c d f h4 h5=>exact absurd hk (by show ¬ (9:Int)=3;decide)
theorem J5 {a:List Rc.Bc}{i:Nat}(h:i<a.length):Fo a i=a[i]:=by unfold Fo;rw[List.getElem?_eq_getElem h];rfl
theorem Wf.chg {N n B:Nat}{s:Tx.St}{fs:List Fr}(h:Wf N n B s fs){x:Px}(d:Wf N n B x.s x.fs)(y:x.fs.length=fs.length){k i:Nat}(hk:k<x.fs.length)(hi:i<x.s.txns.length)(r:Rc.Rec){b:ByteArray}(o:Bi b=true)(p:Full (Dt x.fs k)):
 Wf N n B (T7 x k i s fs r b).s (T7 x k i s fs r b).fs∧(T7 x k i s fs r b).fs.length=fs.length:=by
 have q:=h.n1.2.2;rw[Cx hk]at p;have g:bB N (Fm x.s (Dt x.fs k) r.Ae).1∧Rc.num (Fm x.s (Dt x.fs k) r.Ae).2.1:=by
  unfold Fm
  split
  ·exact⟨d.low.append _,T8 d.low q _⟩
  ·rw[Cx hk]
   exact⟨d.low,(d.fr k hk).rc⟩
 unfold T7;simp only;generalize Fm x.s (Dt x.fs k) r.Ae=m at g ⊢
 split
 ·exact⟨h,rfl⟩
 ·have u:=g.1.append {r with prev:=(Fo x.s.txns i).last}
  have e:=T8 g.1 q {r with prev:=(Fo x.s.txns i).last};have v:=V5 (l:=m.1) (r:={r with prev:=(Fo x.s.txns i).last});generalize Lg.As m.1 {r with prev:=(Fo x.s.txns i).last}=a at u e v ⊢
  split
  ·exact⟨h,rfl⟩
  ·rename_i z
   have j:=(v (Classical.byContradiction fun A=>z A)).1;have C:=d.log u;have w:=d.fr k hk;rw[Cx hk];have c:=C.set hk (f:=⟨x.fs[k].Ae,Bk b a.2.1,x.fs[k].pins,true,m.2.1⟩) ⟨bA _ _,w.pn,g.2,w.pg,fun _=>gY o e,fun _=>gX (gY o e)⟩ rfl (fun _=>p);refine⟨⟨c.zl,c.zp,c.n1,⟨c.lb.e0,c.lb.e1,c.lb.t0,c.lb.t1,c.lb.f,c.lb.n0,c.lb.n1,c.lb.s0,c.lb.s1⟩,c.al,c.ln,c.ef,c.dk,c.nf,c.hd,c.fr,c.ds,by show(x.s.txns.set _ _).length≤_;rw[List.length_set];exact d.tl,fun t D=>?_⟩,by simp only;rw[List.length_set];exact y⟩;rcases List.mem_or_eq_of_mem_set D with h1|h1
   ·exact d.tx t h1
   ·rw[h1,J5 hi]
    refine⟨(d.tx _ (List.getElem_mem hi)).1,e,?_⟩
    show Rc.num (if r.kind=3 then r.next else a.2.1)
    split
    ·rename_i E
     exact(show Rc.num r.next from eL (r:={({r with prev:=(Fo x.s.txns i).last}:Rc.Rec)with lsn:=m.1.end_+1}) j E)
    ·exact e
theorem eM (s:Tx.St)(fs:List Fr)(k:Nat):(Dy s fs k).s.txns=s.txns∧(Dy s fs k).s.next=s.next:=by
 unfold Dy
 split
 ·exact⟨rfl,rfl⟩
 ·split
  ·exact⟨rfl,rfl⟩
  ·split<;>exact⟨rfl,rfl⟩
theorem V6 (s:Tx.St)(fs:List Fr):(Bp s fs).1.s.txns=s.txns∧(Bp s fs).1.s.next=s.next:=by
 unfold Bp
 split
 ·exact⟨rfl,rfl⟩
 ·split
  ·exact⟨rfl,rfl⟩
  ·exact eM _ _ _
theorem lW {s:Tx.St}{fs:List Fr}{x:Px}(h:x.s.txns=s.txns∧x.s.next=s.next):(Hi s fs x).s.txns=s.txns∧(Hi s fs x).s.next=s.next:=by
 unfold Hi
 split
 ·exact h
 ·exact⟨rfl,rfl⟩
theorem Qf (s:Tx.St)(fs:List Fr)(p:Int):(Bg s fs p).1.s.txns=s.txns∧(Bg s fs p).1.s.next=s.next:=by
 unfold Bg
 split
 ·exact⟨rfl,rfl⟩
 ·split
  ·exact⟨rfl,rfl⟩
  ·split
   ·exact⟨rfl,rfl⟩
   ·split
    ·exact V6 s fs
    ·exact lW (V6 s fs)
theorem Wf.change {N n B:Nat}{s:Tx.St}{fs:List Fr}(h:Wf N n B s fs)(r:Rc.Rec)(D:ByteArray→ByteArray×Int)(k:∀ q,(D q).2=0→Bi (D q).1=true):Wf N n B (Cj s fs r D).s (Cj s fs r D).fs∧(Cj s fs r D).fs.length=fs.length:=by
 obtain⟨a,b,l,g⟩:=h.held r.Ae;have j:=(Qf s fs r.Ae).1;unfold Cj
 split
 ·exact⟨h,rfl⟩
 ·split
  ·exact⟨h,rfl⟩
  ·rename_i i m
   have c:=(List.findIdx?_eq_some_iff_getElem.1 m).1;generalize Bg s fs r.Ae=x at a b l g j ⊢
   split
   ·exact⟨a,b⟩
   ·rename_i o
    have d:x.1.e=0:=Classical.byContradiction fun f=>o f
    split
    ·exact⟨h,rfl⟩
    ·rename_i p
     exact h.chg a b (by omega) (by rw[j];exact c) r (k _ (Classical.byContradiction fun f=>p f)) (g d).2.1
structure yO (n:Nat) (fs:List Fr) (C:Nat→ByteArray):Prop where
 at_:∀ i (hi:i<fs.length),Full fs[i]→∃ p:Nat,p<n∧fs[i].Ae=(p:Int)∧fs[i].bytes=C p
 ds:∀ i j (hi:i<fs.length) (hj:j<fs.length),i≠j→Full fs[i]→Full fs[j]→fs[i].Ae≠fs[j].Ae
structure PQ (N n:Nat) (s:Tx.St) (fs:List Fr) (C:Nat→ByteArray):Prop where
 zl:s.zlog=(N:Int)
 zp:s.zpages=(n:Int)
 pw:Pw N (1+N+4*n) s.Ay s.log
 fr:yO n fs C
 nm:∀ p,p<n→K8 (C p)
 dk:∀ p,p<n→¬ Qe fs p→yY N s.Ay p (C p)
theorem yO.set {n:Nat}{fs:List Fr}{C C':Nat→ByteArray}(h:yO n fs C)(k:Nat)(f:Fr)
 (t:Full f→∃ p:Nat,p<n∧f.Ae=(p:Int)∧f.bytes=C' p) (r:Full f→∀ j (hj:j<fs.length),j≠k→Full fs[j]→f.Ae≠fs[j].Ae)
 (hC:∀ j (hj:j<fs.length) (p:Nat),j≠k→Full fs[j]→fs[j].Ae=(p:Int)→C' p=C p):yO n (fs.set k f) C':=by
 refine⟨fun i m a=>?_,fun i j m hj g a d=>?_⟩
 ·rcases Hb fs k f i m with⟨_,e⟩|⟨u,b,e⟩
  ·rw[e]at a ⊢;exact t a
  ·rw[e]at a ⊢
   obtain⟨p,v,s,w⟩:=h.at_ i b a;exact⟨p,v,s,by rw[w,hC i b p u a s]⟩
 ·rcases Hb fs k f i m with⟨o,e⟩|⟨o,b,e⟩<;>rcases Hb fs k f j hj with⟨q,c⟩|⟨q,l,c⟩
  ·exact absurd (o.trans q.symm) g
  ·rw[e,c];rw[e]at a;rw[c]at d;exact r a j l q d
  ·rw[e,c];rw[e]at a;rw[c]at d;exact fun x=>r d i b o a x.symm
  ·rw[e,c];rw[e]at a;rw[c]at d;exact h.ds i j b l g a d
theorem PQ.same {N n:Nat}{s:Tx.St}{fs:List Fr}{C:Nat→ByteArray}(h:PQ N n s fs C){k:Nat}(hk:k<fs.length){f:Fr}(g:f.Ae=fs[k].Ae)(i:f.bytes=fs[k].bytes)(q:f.rc=fs[k].rc):PQ N n s (fs.set k f) C:=by
 have o:Full f→Full fs[k]:=fun d=>by unfold Full at d ⊢;rw[← i];exact d
 exact⟨h.zl,h.zp,h.pw,
  h.fr.set k f (fun d=>by rw[g,i];exact h.fr.at_ k hk (o d)) (fun d j r l m=>by rw[g];exact h.fr.ds k j hk r (fun e=>l e.symm) (o d) m) (fun _ _ _ _ _ _=>rfl),
  h.nm,fun p t u=>h.dk p t fun v=>u (v.set hk fun a b c=>⟨by unfold Full at a ⊢;rw[i];exact a,g.trans b,by rw[q];exact c⟩)⟩
theorem PQ.marks {N n:Nat}{s:Tx.St}{fs a:List Fr}{C:Nat→ByteArray}(h:PQ N n s fs C)(b:Tw fs a):PQ N n s a C:=by
 have r:=b.len;refine⟨h.zl,h.zp,h.pw,⟨fun i d c=>?_,fun i j d k f c g=>?_⟩,h.nm,fun p l m=>h.dk p l fun o=>m (o.marks b)⟩
 ·have e:=b.at_ i (by omega) d
  rw[e]at c ⊢;exact h.fr.at_ i (by omega) c
 ·have e:=b.at_ i (by omega) d
  have q:=b.at_ j (by omega) k;rw[e]at c ⊢;rw[q]at g ⊢;exact h.fr.ds i j (by omega) (by omega) f c g
theorem PQ.hand {N n:Nat}{s:Tx.St}{fs:List Fr}{C:Nat→ByteArray}(h:PQ N n s fs C)(x:Int):PQ N n {s with hand:=x} fs C:=⟨h.zl,h.zp,h.pw,h.fr,h.nm,h.dk⟩
theorem PQ.load {N n:Nat}{s:Tx.St}{fs:List Fr}{C:Nat→ByteArray}(h:PQ N n s fs C){k:Nat}(hk:k<fs.length){p:Nat}(d:p<n)(f:Full fs[k]→fs[k].rc=0)(b:∀ j (hj:j<fs.length),Full fs[j]→fs[j].Ae≠(p:Int)):PQ N n s (fs.set k ⟨(p:Int),C p,0,true,0⟩) C:=
 ⟨h.zl,h.zp,h.pw,
   h.fr.set k _ (fun _=>⟨p,d,rfl,rfl⟩) (fun _ j hj _ g e=>b j hj g e.symm) (fun _ _ _ _ _ _=>rfl),
   h.nm,fun q i l=>h.dk q i fun m=>l (m.set hk fun a _ c=>absurd (f a) c)⟩
theorem PQ.force {N n:Nat}{s:Tx.St}{fs:List Fr}{C:Nat→ByteArray}(h:PQ N n s fs C):(Lg.Bf s.Ay s.log).2.2=0∧PQ N n {s with Ay:=(Lg.Bf s.Ay s.log).1,log:=(Lg.Bf s.Ay s.log).2.1} fs C∧(Lg.Bf s.Ay s.log).2.1.end_=s.log.end_:=by
 obtain⟨d2,g2,e,c,d,f⟩:=h.pw.force;rw[e];refine⟨rfl,⟨h.zl,h.zp,c,h.fr,h.nm,fun p g i=>?_⟩,d⟩;have b:Gb d2 (1+N+4*p)=Gb s.Ay (1+N+4*p):=Qd fun j l _=>f j (by omega);rcases h.dk p g i with a|⟨a,k⟩
 ·exact .inl (b.trans a)
 ·exact .inr ⟨b.trans a,k⟩
theorem qM {N M:Nat}{d:Lg.Dk}{g:Lg.Lo}(h:Pw N M d g){a:Nat}{b:ByteArray}(c:b.size=512)(l:1+N≤a)(m:a+4≤M):Rn d a b 4=(No d a b,0):=by
 obtain⟨n,o⟩:=h.write (Fj c (i:=0) (by omega)) l (by omega);obtain⟨p,q⟩:=o.write (Fj c (i:=1) (by omega)) (i:=a+1) (by omega) (by omega);obtain⟨r,s⟩:=q.write (Fj c (i:=2) (by omega)) (i:=a+2) (by omega) (by omega);obtain⟨t,u⟩:=s.write (Fj c (i:=3) (by omega)) (i:=a+3) (by omega) (by omega);have e:Rn d a b 1=({d with sectors:=d.sectors.set a (Gx b 0)},0):=by
  rw[Mr (k:=0) rfl];exact n
 have f:Rn d a b 2=({d with sectors:=(d.sectors.set a (Gx b 0)).set (a+1) (Gx b 1)},0):=by
  rw[Mr (k:=1) (by rw[e]),e];exact p
 have j:Rn d a b 3=({d with sectors:=((d.sectors.set a (Gx b 0)).set (a+1) (Gx b 1)).set (a+2) (Gx b 2)},0):=by
  rw[Mr (k:=2) (by rw[f]),f];exact r
 rw[Mr (k:=3) (by rw[j]),j];exact t
theorem PQ.sec {N n:Nat}{s:Tx.St}{fs:List Fr}{C:Nat→ByteArray}(h:PQ N n s fs C)(p:Nat):Ev s (p:Int)=1+N+4*p:=by
 unfold Ev;rw[h.zl];omega
theorem PQ.put {N n:Nat}{s:Tx.St}{fs:List Fr}{C:Nat→ByteArray}(h:PQ N n s fs C){k:Nat}(hk:k<fs.length){p:Nat}(m:p<n)(c:fs[k].Ae=(p:Int)):
 PQ N n {s with Ay:=No s.Ay (1+N+4*p) (Ek (C p))} (fs.set k {fs[k]with rc:=0}) C:=by
 have i:=(G7 (h.nm p m).is).2.2.2;have o:=h.pw.len;refine⟨h.zl,h.zp,h.pw.Ae i (by omega) (by omega),
  h.fr.set k _ (fun d=>h.fr.at_ k hk d) (fun r j t f d=>h.fr.ds k j hk t (fun e=>f e.symm) r d) (fun _ _ _ _ _ _=>rfl),
  h.nm,fun q u v=>?_⟩
 by_cases a:q=p
 ·subst a
  exact .inl (gV i (by rw[o];omega))
 ·have l:=aW s.Ay (1+N+4*p) (1+N+4*q) (Ek (C p)) (by omega)
  have w:¬ Qe fs q:=fun x=>v (x.set hk fun _ b _=>absurd (Int.ofNat.inj (b.symm.trans c)) a);rcases h.dk q u w with g|⟨g,y⟩
  ·exact .inl (l.trans g)
  ·exact .inr ⟨l.trans g,y⟩
structure Kp (s s':Tx.St):Prop where
 tx:s'.txns=s.txns
 nx:s'.next=s.next
 en:s'.log.end_=s.log.end_
 zf:s'.zframes=s.zframes
theorem Kp.refl (s:Tx.St):Kp s s:=⟨rfl,rfl,rfl,rfl⟩
theorem Kp.trans {s t u:Tx.St}(h:Kp s t)(k:Kp t u):Kp s u:=⟨k.tx.trans h.tx,k.nx.trans h.nx,k.en.trans h.en,k.zf.trans h.zf⟩
theorem PQ.flush {N n:Nat}{s:Tx.St}{fs:List Fr}{C:Nat→ByteArray}(h:PQ N n s fs C){k:Nat}(hk:k<fs.length)(i:fs[k].rc≠0→Full fs[k]):
 (Dy s fs k).e=0∧PQ N n (Dy s fs k).s (Dy s fs k).fs C∧Kp s (Dy s fs k).s∧Nd fs (Dy s fs k).fs∧(Dy s fs k).fs.length=fs.length∧(Dt (Dy s fs k).fs k).rc=0:=by
 by_cases b:fs[k].rc=0
 ·have e:Dy s fs k=⟨s,fs,0⟩:=by unfold Dy;rw[Cx hk,if_pos b]
  rw[e];exact⟨rfl,h,Kp.refl s,Nd.refl fs,rfl,by rw[Cx hk];exact b⟩
 ·obtain⟨p,f,g,j⟩:=h.fr.at_ k hk (i b)
  obtain⟨f1,f2,f3⟩:=h.force;have c:=(G7 (h.nm p f).is).2.2.2;have l:=qM f2.pw (a:=1+N+4*p) c (by omega) (by omega);have d:=f2.put hk f g;have e:Dy s fs k=⟨{s with Ay:=No (Lg.Bf s.Ay s.log).1 (1+N+4*p) (Ek (C p)),log:=(Lg.Bf s.Ay s.log).2.1},fs.set k {fs[k]with rc:=0},0⟩:=by
   unfold Dy;rw[Cx hk,if_neg b,if_neg (fun m=>m f1),g,j,h.sec p];rw[l]
   rfl
  rw[e];exact⟨rfl,d,⟨rfl,rfl,f3,rfl⟩,Nd.set fs k hk _ rfl rfl,List.length_set,by simp only;rw[Cx (by rw[List.length_set];exact hk),List.getElem_set_self]⟩
theorem PQ.room {N n B:Nat}{s:Tx.St}{fs:List Fr}{C:Nat→ByteArray}(h:PQ N n s fs C)(f:Wf N n B s fs):
 ((Bp s fs).1.e=0∧PQ N n (Bp s fs).1.s (Bp s fs).1.fs C∧Kp s (Bp s fs).1.s∧Nd fs (Bp s fs).1.fs∧(Full (Dt (Bp s fs).1.fs (Bp s fs).2)→(Dt (Bp s fs).1.fs (Bp s fs).2).rc=0))∨(Bp s fs).1.e=18:=by
 have t:=f.nf;unfold Bp
 split
 ·rename_i k hk
  unfold Im at hk;obtain⟨c,b,_⟩:=List.findIdx?_eq_some_iff_getElem.1 hk;refine .inl ⟨rfl,h,Kp.refl s,Nd.refl fs,fun d=>?_⟩;simp only at d;rw[Cx c]at d;exact absurd d (by simpa using b)
 ·split
  ·exact .inr rfl
  ·rename_i k a i
   obtain⟨c,b,_⟩:=Kz fs.length (by omega) _ _ fs fs k a rfl (Nat.mod_lt _ (by omega)) (Tw.refl fs) i;have j:=b.len;have l:a[k].rc≠0→Full a[k]:=fun g=>by
    have e:=b.at_ k c (by omega);rw[e]at g ⊢;exact(f.fr k c).rz g
   obtain⟨m,o,p,q,u,r⟩:=((h.hand (((k+1)%fs.length:Nat):Int)).marks b).flush (k:=k) (by omega) l;exact .inl ⟨m,o,(show Kp s {s with hand:=(((k+1)%fs.length:Nat):Int)}from⟨rfl,rfl,rfl,rfl⟩).trans p,(Nd.marks b).trans q j,fun _=>r⟩
theorem PQ.read {N n:Nat}{s:Tx.St}{fs:List Fr}{C:Nat→ByteArray}(h:PQ N n s fs C){p:Nat}(a:p<n)(c:¬ Qe fs p):Ew s (p:Int)=(C p,0):=by
 unfold Ew;rw[if_neg (by rw[h.pw.up];decide),h.sec p];rcases h.dk p a c with b|⟨b,d⟩
 ·rw[b]
  have e:=G7 (h.nm p a).is;rw[if_neg (Vw (h.nm p a).is),if_pos e.2.2.1,gU (h.nm p a)]
 ·rw[if_pos b,d];rfl
theorem PQ.held {N n B:Nat}{s:Tx.St}{fs:List Fr}{C:Nat→ByteArray}(h:PQ N n s fs C)(f:Wf N n B s fs){p:Nat}(g:p<n):
 ((Bg s fs (p:Int)).1.e=0∧PQ N n (Bg s fs (p:Int)).1.s (Bg s fs (p:Int)).1.fs C∧Kp s (Bg s fs (p:Int)).1.s∧(Dt (Bg s fs (p:Int)).1.fs (Bg s fs (p:Int)).2).bytes=C p)∨Bg s fs (p:Int)=(⟨s,fs,18⟩,0):=by
 have y:=h.zp;have d:Ok s (p:Int):=⟨by omega,by omega⟩
 cases b:Yn fs (p:Int)with
 |some k=>
  obtain⟨hk,m,o⟩:=qL b;have e:Bg s fs (p:Int)=(⟨s,fs.set k {fs[k]with mark:=true},0⟩,k):=by
   unfold Bg;rw[if_neg (fun a=>a d),b];simp only;rw[Cx hk]
  rw[e];refine .inl ⟨rfl,h.same hk rfl rfl rfl,Kp.refl s,?_⟩;simp only;rw[Cx (by rw[List.length_set];exact hk),List.getElem_set_self];obtain⟨q,_,r,t⟩:=h.fr.at_ k hk m;have:p=q:=Int.ofNat.inj (o.symm.trans r);subst this;exact t
 |none=>
  have c:=eK b;have i:=h.read g (Ty c);obtain⟨z,j,u⟩:=f.room;rcases h.room f with⟨r1,v,w,x,l⟩|r1
  ·have e:Bg s fs (p:Int)=(⟨(Bp s fs).1.s,(Bp s fs).1.fs.set (Bp s fs).2 ⟨(p:Int),C p,0,true,0⟩,0⟩,(Bp s fs).2):=by
    unfold Bg;rw[if_neg (fun a=>a d),b];simp only;rw[i,if_neg (fun a=>a rfl),if_pos r1]
   rw[e];have hk:(Bp s fs).2<(Bp s fs).1.fs.length:=(by rw[j];exact u);rw[Cx hk]at l;refine .inl ⟨rfl,v.load hk g l (x.none_ j c),w,?_⟩;simp only;rw[Cx (by rw[List.length_set];exact hk),List.getElem_set_self]
  ·right
   unfold Bg;rw[if_neg (fun a=>a d),b];simp only;rw[i,if_neg (fun a=>a rfl),if_neg (by rw[r1];decide)];unfold Hi;rw[r1,if_neg (by decide)]
theorem Pw.app {N M:Nat}{d:Lg.Dk}{g:Lg.Lo}(h:Pw N M d g){r:Rc.Rec}(a:(Lg.As g r).2.2=0):Pw N M d (Lg.As g r).1:=by
 obtain⟨b,c,e,f,i,l,m,j⟩:=h;rcases j.append r with e1|e1|⟨_,k⟩
 ·rw[e1]at a;exact absurd a (by show ¬ (1:Int)=0;decide)
 ·rw[e1]at a;exact absurd a (by show ¬ (18:Int)=0;decide)
 ·exact⟨b,c,e,f,i,_,_,k⟩
theorem PQ.yZ {N n:Nat}{s:Tx.St}{fs:List Fr}{C:Nat→ByteArray}(h:PQ N n s fs C){g:Lg.Lo}(a:Pw N (1+N+4*n) s.Ay g)(b:List Rc.Bc):PQ N n {s with log:=g,txns:=b} fs C:=⟨h.zl,h.zp,a,h.fr,h.nm,h.dk⟩
theorem PQ.U4 {N n:Nat}{s:Tx.St}{fs:List Fr}{C:Nat→ByteArray}(h:PQ N n s fs C){k:Nat}(hk:k<fs.length){p:Nat}(m:Full fs[k])(a:fs[k].Ae=(p:Int)){f:Fr}(v:K8 f.bytes)(o:f.rc≠0)(c:f.Ae=fs[k].Ae):
 PQ N n s (fs.set k f) (fun q=>if q=p then f.bytes else C q):=by
 have r:Full f:=fun e=>by have:=v.size;rw[e]at this;exact absurd this (by decide)
 obtain⟨p',t,x,z⟩:=h.fr.at_ k hk m;have:p=p':=Int.ofNat.inj (a.symm.trans x);subst this;refine⟨h.zl,h.zp,h.pw,
  h.fr.set k f (fun _=>⟨p,t,c.trans a,by rw[if_pos rfl]⟩) (fun _ j u d g=>by rw[c];exact h.fr.ds k j hk u (fun e=>d e.symm) m g) (fun j u q d g i=>if_neg fun e=>by
   subst e;exact h.fr.ds k j hk u (fun e=>d e.symm) m g (a.trans i.symm)),fun q i=>?_,fun q i w=>?_⟩
 ·by_cases e:q=p
  ·rw[if_pos e];exact v
  ·rw[if_neg e];exact h.nm q i
 ·have l:q≠p:=fun e=>w (by
   subst e;exact⟨k,by rw[List.length_set];exact hk,by rw[List.getElem_set_self];exact⟨r,c.trans a,o⟩⟩)
  rw[if_neg l];exact h.dk q i fun y=>w (y.set hk fun _ b _=>absurd (Int.ofNat.inj (b.symm.trans a)) l)
theorem PQ.change {N n B:Nat}{s:Tx.St}{fs:List Fr}{C:Nat→ByteArray}(h:PQ N n s fs C)(G:Wf N n B s fs)(r:Rc.Rec)(D:ByteArray→ByteArray×Int)(Z:∀ q,(D q).2=0→Bi (D q).1=true):
 ((Cj s fs r D).e=0∧∃ (p i:Nat) (l:Int),p<n∧r.Ae=(p:Int)∧i<s.txns.length∧(Fo s.txns i).txn=r.txn∧Rc.num l∧(D (C p)).2=0∧(Cj s fs r D).s.txns=s.txns.set i {Fo s.txns i with last:=l,next:=if r.kind=3 then r.next else l}∧
   PQ N n (Cj s fs r D).s (Cj s fs r D).fs (fun q=>if q=p then Bk (D (C p)).1 l else C q))∨
 (¬ (Cj s fs r D).e=0∧(Cj s fs r D).s=s∧(Cj s fs r D).fs=fs):=by
 have hz:=h.zp;have hN:=G.n1.2.2
 by_cases z:(r.kind=2∨r.kind=3)∧Ok s r.Ae
 ·have hp:=z.2
  unfold Ok at hp;obtain⟨p,o⟩:∃ p:Nat,r.Ae=(p:Int):=⟨r.Ae.toNat,by omega⟩;have t:p<n:=by omega
  obtain⟨H,rv,rt,A,rp,E,I,ro,J,K,L,d,g⟩:=r;simp only at z o;subst o;unfold Cj;rw[if_neg (fun c=>c z)];simp only
  cases hi:s.txns.findIdx? (fun a=>decide (a.txn=rt))with
  |none=>exact .inr ⟨by show ¬ (21:Int)=0;decide,rfl,rfl⟩
  |some i=>
   obtain⟨u,M,_⟩:=List.findIdx?_eq_some_iff_getElem.1 hi;have O:(Fo s.txns i).txn=rt:=(by rw[J5 u];simpa using M);obtain⟨R,x2,x3,S⟩:=G.held (p:Int);have T:=Qf s fs (p:Int);have U:=h.held G t;generalize Bg s fs (p:Int)=x at R x2 x3 S T U ⊢;simp only;rcases U with⟨y1,P,y3,y4⟩|y1
   ·rw[if_neg (fun c=>c y1),y4]
    by_cases v:(D (C p)).2=0
    ·rw[if_neg (fun c=>c v)]
     have V:=Z _ v;obtain⟨b,w⟩:∃ b,(D (C p)).1=b:=⟨_,rfl⟩;rw[w]at V ⊢;have hk:x.2<x.1.fs.length:=(by omega);obtain⟨_,W,X⟩:=S y1;rw[Cx hk]at W X;have j:=R.low;have y:¬ (Fm x.1.s (Dt x.1.fs x.2) (p:Int)).2.2=0∨((Fm x.1.s (Dt x.1.fs x.2) (p:Int)).2.2=0∧(Fm x.1.s (Dt x.1.fs x.2) (p:Int)).2.1≠0∧Pw N (1+N+4*n) x.1.s.Ay (Fm x.1.s (Dt x.1.fs x.2) (p:Int)).1∧bB N (Fm x.1.s (Dt x.1.fs x.2) (p:Int)).1):=by
      unfold Fm
      split
      ·by_cases k:(Lg.As x.1.s.log (Pc (p:Int) (Dt x.1.fs x.2).bytes)).2.2=0
       ·exact .inr ⟨k,by rw[(V5 k).2];have:=j.e0;omega,Pw.app P.pw k,j.append _⟩
       ·exact .inl k
      ·rename_i k
       exact .inr ⟨rfl,k,P.pw,j⟩
     unfold T7;simp only;generalize Fm x.1.s (Dt x.1.fs x.2) (p:Int)=m at y ⊢;rcases y with y|⟨m1,m2,m3,m4⟩
     ·rw[if_pos y]
      exact .inr ⟨y,rfl,rfl⟩
     ·rw[if_neg (fun c=>c m1),T.1]
      have Y:=Pw.app m3 (r:=⟨H,(Fo s.txns i).last,rt,A,(p:Int),E,I,ro,J,K,L,d,g⟩);have c:=T8 m4 hN ⟨H,(Fo s.txns i).last,rt,A,(p:Int),E,I,ro,J,K,L,d,g⟩;generalize Lg.As m.1 ⟨H,(Fo s.txns i).last,rt,A,(p:Int),E,I,ro,J,K,L,d,g⟩=a at Y c ⊢
      by_cases F:a.2.2=0
      ·rw[if_neg (fun c=>c F)]
       refine .inl ⟨rfl,p,i,a.2.1,t,rfl,u,O,c,v,rfl,?_⟩;have Q:=P.yZ (Y F) (s.txns.set i {Fo s.txns i with last:=a.2.1,next:=if A=3 then E else a.2.1});have hq:=Q.U4 hk (f:=⟨(Dt x.1.fs x.2).Ae,Bk b a.2.1,(Dt x.1.fs x.2).pins,true,m.2.1⟩) W X (by
        have h9:=(Pb V (l:=a.2.1.toNat) (by have:=c.2;omega)).1
        rwa[show((a.2.1.toNat:Nat):Int)=a.2.1 from by have:=c.1;omega]at h9) m2 (by show(Dt x.1.fs x.2).Ae=_;rw[Cx hk])
       rw[w];exact hq
      ·rw[if_pos F]
       exact .inr ⟨F,rfl,rfl⟩
    ·rw[if_pos v]
     exact .inr ⟨v,rfl,rfl⟩
   ·rw[y1,if_pos (by show ¬ (18:Int)=0;decide)]
    exact .inr ⟨by show ¬ (18:Int)=0;decide,rfl,rfl⟩
 ·unfold Cj
  rw[if_pos z];exact .inr ⟨by show ¬ (1:Int)=0;decide,rfl,rfl⟩
def NP (fs:List Fr):Prop:=∀ x∈fs,x.pins≤0
theorem NP.at_ {fs:List Fr}(h:NP fs){k:Nat}(hk:k<fs.length):fs[k].pins≤0:=h _ (List.getElem_mem hk)
theorem NP.set {fs:List Fr}(h:NP fs)(k:Nat){f:Fr}(a:f.pins≤0):NP (fs.set k f):=fun x b=>by
 rcases List.mem_or_eq_of_mem_set b with h1|h1
 ·exact h x h1
 ·rw[h1];exact a
theorem NP.marks {fs fs':List Fr}(h:NP fs)(a:Tw fs fs'):NP fs':=fun x b=>by
 obtain⟨i,c,rfl⟩:=List.getElem_of_mem b;have d:=a.len;rw[a.at_ i (by omega) c];exact h.at_ (k:=i) (by omega)
theorem bD (n:Nat):∀ (j a:Nat) (fs:List Fr),fs.length=n→a<n→NP fs→fs.countP (·.mark)<j→eH n j a fs≠none
 |0,_,_,_,_,_,h=>absurd h (by omega)
 |j+1,a,fs,hl,ha,hp,hc=>by
  have hk:a<fs.length:=by omega
  have hp0:=hp.at_ hk;unfold eH;rw[Cx hk,if_neg (by omega)]
  split
  ·rename_i hm
   have h1:0<fs.countP (·.mark):=List.countP_pos_iff.2 ⟨fs[a],List.getElem_mem hk,hm⟩;refine bD n j _ _ (by rw[List.length_set];exact hl) (Nat.mod_lt _ (by omega)) (hp.set _ hp0) ?_;rw[List.countP_set hk,if_pos hm]
   simp
   omega
  ·exact fun h=>by cases h
section
variable {N n B : Nat} {s : Tx.St} {fs : List Fr}
theorem qN (d:Wf N n B s fs)(i:Pw N (1+N+4*n) s.Ay s.log)(c:NP fs){k:Nat}(hk:k<fs.length):(Dy s fs k).e=0∧Pw N (1+N+4*n) (Dy s fs k).s.Ay (Dy s fs k).s.log∧NP (Dy s fs k).fs:=by
 have b:=d.fr k hk;obtain⟨j,q⟩:=V4 d b.pg;have o:=d.zl;have p:=b.pg;unfold Dy;rw[Cx hk]
 split
 ·exact⟨rfl,i,c⟩
 ·rename_i f
  have l:=(G7 (b.is (b.rz f))).2.2.2;obtain⟨d2,g2,e,m,_⟩:=i.force;rw[e];simp only;rw[if_neg (fun g=>g trivial)];have h:=qM m (a:=Ev s fs[k].Ae) l (by omega) j;rw[h];simp only;rw[if_neg (fun g=>g trivial)];exact⟨rfl,m.Ae l (by omega) j,c.set _ (c.at_ hk)⟩
theorem tL (f:Wf N n B s fs)(g:Pw N (1+N+4*n) s.Ay s.log)(a:NP fs):(Bp s fs).1.e=0∧Pw N (1+N+4*n) (Bp s fs).1.s.Ay (Bp s fs).1.s.log∧NP (Bp s fs).1.fs:=by
 have h:=f.nf;unfold Bp
 split
 ·exact⟨rfl,g,a⟩
 ·split
  ·rename_i b
   exact absurd b (bD _ _ _ _ rfl (Nat.mod_lt _ (by omega)) a (Nat.lt_of_le_of_lt List.countP_le_length (by omega)))
  ·rename_i k c b
   obtain⟨i,d,_⟩:=Kz fs.length (by omega) _ _ fs fs k c rfl (Nat.mod_lt _ (by omega)) (Tw.refl fs) b;have j:=d.len;have l:(k+1)%fs.length<fs.length:=Nat.mod_lt _ (by omega);exact qN (s:={s with hand:=(((k+1)%fs.length:Nat):Int)}) ((f.hand (x:=(((k+1)%fs.length:Nat):Int)) (by omega)).marks d) g (a.marks d) (by omega)
end
end Go.Proofs.YtpogpkonojhakaaGreatDoor
