import Derived.Test.YtdfkambdagoojaaGreatDoorHa00
import Derived.Test.YtdfkambdagoojaaGreatDoorHa10
set_option maxRecDepth 100000
set_option maxHeartbeats 16000000
set_option linter.unusedSimpArgs false
namespace Go.Proofs.YtdfkambdagoojaaGreatDoor
open Go.RowKit Sc
structure DkW (M:Nat) (d:Lg.Dk):Prop where
 sz:∀ x∈d.sectors,x.size=128
 lb: -9223372036854775808≤d.left∧d.left≤9223372036854775807
 len:d.sectors.length=M
theorem DkW.write {M:Nat}{d:Lg.Dk}(h:DkW M d)(a:Int)(b:ByteArray):DkW M (Lg.writeD d a b).1:=by
 unfold Lg.writeD
 split
 ·exact h
 ·split
  ·exact h
  ·rename_i hb
   split
   ·exact⟨h.sz,h.lb,h.len⟩
   ·refine⟨fun x hx=>?_,?_,by show(d.sectors.set _ _).length=M;rw[List.length_set];exact h.len⟩
    ·rcases List.mem_or_eq_of_mem_set hx with h1|h1
     ·exact h.sz x h1
     ·rw[h1]
      by_cases h2:b.size=128
      ·exact h2
      ·exact absurd (fun hn=>h2 hn.2) hb
    ·have:=h.lb
     show _≤(if 0<d.left then d.left-1 else d.left)∧(if 0<d.left then d.left-1 else d.left)≤_
     split<;>omega
theorem DkW.putAll {M:Nat}(base:Int)(all:List ByteArray):∀ (i:Nat) (d:Lg.Dk),DkW M d→DkW M (Lg.putAll base all i d).1
 |0,_,h=>h
 |i+1,d,h=>by
  have h1:=h.write (base+(i:Int)) (all[i]?.getD ⟨#[]⟩)
  unfold Lg.putAll
  split
  ·exact DkW.putAll base all i _ h1
  ·exact h1
theorem DkW.force {M:Nat}{d:Lg.Dk}(h:DkW M d)(l:Lg.Lo):DkW M (Lg.forceD d l).1:=by
 unfold Lg.forceD
 split
 ·exact h
 ·simp only
  split
  ·exact DkW.putAll _ _ _ _ h
  ·exact DkW.putAll _ _ _ _ h
def wrK (d:Lg.Dk)(a:Nat)(b:ByteArray):Nat→Lg.Dk×Int
 |0=>(d,0)
 |k+1=>if(wrK d a b k).2=0 then Lg.writeD (wrK d a b k).1 ((a:Int)+(k:Int)) (sec4 b k)else wrK d a b k
theorem wrK_stuck {d:Lg.Dk}{a:Nat}{b:ByteArray}{k:Nat}(h:¬ (wrK d a b k).2=0):∀ j,wrK d a b (k+j)=wrK d a b k
 |0=>rfl
 |j+1=>by
  have ih:=wrK_stuck h j
  show(if(wrK d a b (k+j)).2=0 then _ else wrK d a b (k+j))=_
  rw[ih,if_neg h]
theorem wrK_step {d:Lg.Dk}{a:Nat}{b:ByteArray}{k:Nat}(h:(wrK d a b k).2=0):wrK d a b (k+1)=Lg.writeD (wrK d a b k).1 ((a:Int)+(k:Int)) (sec4 b k):=by
 show(if(wrK d a b k).2=0 then _ else _)=_
 rw[if_pos h]
theorem DkW.wrK {M:Nat}{d:Lg.Dk}(h:DkW M d)(a:Nat)(b:ByteArray):∀ k,DkW M (wrK d a b k).1
 |0=>h
 |k+1=>by
  have ih:=DkW.wrK h a b k
  by_cases h0:(Go.Proofs.YtdfkambdagoojaaGreatDoor.wrK d a b k).2=0
  ·rw[wrK_step h0];exact ih.write _ _
  ·rw[wrK_stuck h0 1];exact ih
theorem sec4_at {b:ByteArray}(k:Nat):b.extract (k*128) ((k+1)*128)=sec4 b k:=by unfold sec4;rw[show(k+1)*128=k*128+128 by omega]
structure Px where
 s:Tx.St
 fs:List Fr
 e:Int
def fr0:Fr:=⟨0,⟨#[]⟩,0,false,0⟩
def frAt (fs:List Fr)(k:Nat):Fr:=fs[k]?.getD fr0
theorem frAt_eq {fs:List Fr}{k:Nat}(h:k<fs.length):frAt fs k=fs[k]:=by unfold frAt;rw[List.getElem?_eq_getElem h];rfl
def secOf (s:Tx.St)(p:Int):Nat:=(1+s.zlog+4*p).toNat
def loadF (s:Tx.St)(p:Int):ByteArray×Int:=
 if s.disk.down=true then(⟨#[]⟩,20)else
 if pgAt s.disk (secOf s p)=zeroP then(newB 0,0)else
 if sealedP (pgAt s.disk (secOf s p))=true then(plB (pgAt s.disk (secOf s p)),0)else(⟨#[]⟩,19)
def vicF (n:Nat):Nat→Nat→List Fr→Option (Nat×List Fr)
 |0,_,_=>none
 |j+1,a,fs=>if 0<(frAt fs a).pins then vicF n j ((a+1)%n) fs else if(frAt fs a).mark=true then vicF n j ((a+1)%n) (fs.set a {frAt fs a with mark:=false})else some (a,fs)
def flushF (s:Tx.St)(fs:List Fr)(k:Nat):Px:=
 if(frAt fs k).rc=0 then⟨s,fs,0⟩else
 if ¬ (Lg.forceD s.disk s.log).2.2=0 then⟨{s with disk:=(Lg.forceD s.disk s.log).1,log:=(Lg.forceD s.disk s.log).2.1},fs,(Lg.forceD s.disk s.log).2.2⟩else
 if ¬ (wrK (Lg.forceD s.disk s.log).1 (secOf s (frAt fs k).page) (sealB (frAt fs k).bytes) 4).2=0 then
  ⟨{s with disk:=(wrK (Lg.forceD s.disk s.log).1 (secOf s (frAt fs k).page) (sealB (frAt fs k).bytes) 4).1,log:=(Lg.forceD s.disk s.log).2.1},fs,(wrK (Lg.forceD s.disk s.log).1 (secOf s (frAt fs k).page) (sealB (frAt fs k).bytes) 4).2⟩
 else⟨{s with disk:=(wrK (Lg.forceD s.disk s.log).1 (secOf s (frAt fs k).page) (sealB (frAt fs k).bytes) 4).1,log:=(Lg.forceD s.disk s.log).2.1},fs.set k {frAt fs k with rc:=0},0⟩
noncomputable def atF (fs:List Fr) (p:Int):Option Nat:=by
 classical exact fs.findIdx? fun f=>decide (Full f∧f.page=p)
noncomputable def freeI (fs:List Fr):Option Nat:=by
 classical exact fs.findIdx? fun f=>decide (¬ Full f)
theorem idx_none {α:Type}{P:α→Bool}{l:List α}(h:∀ x∈l,P x=false):l.findIdx? P=none:=List.findIdx?_eq_none_iff.2 h
theorem idx_some {α:Type}{P:α→Bool}{l:List α}{k:Nat}(hk:k<l.length)(h1:P l[k]=true)(h2:∀ j (hj:j<l.length),j<k→P l[j]=false):l.findIdx? P=some k:=by
 rw[List.findIdx?_eq_some_iff_getElem]
 refine⟨hk,h1,fun j hj=>?_⟩
 rw[h2 j (by omega) hj]
 decide
theorem atF_none {fs:List Fr}{p:Int}(h:∀ x∈fs,¬ (Full x∧x.page=p)):atF fs p=none:=by
 unfold atF
 exact idx_none fun x hx=>by simpa using h x hx
theorem atF_some {fs:List Fr}{p:Int}{k:Nat}(hk:k<fs.length)(h1:Full fs[k]∧fs[k].page=p)(h2:∀ j (hj:j<fs.length),j<k→¬ (Full fs[j]∧fs[j].page=p)):atF fs p=some k:=by
 unfold atF
 exact idx_some hk (by simpa using h1) fun j hj hjk=>by simpa using h2 j hj hjk
theorem freeI_none {fs:List Fr}(h:∀ x∈fs,¬ ¬ Full x):freeI fs=none:=by
 unfold freeI
 exact idx_none fun x hx=>by simpa using h x hx
theorem freeI_some {fs:List Fr}{k:Nat}(hk:k<fs.length)(h1:¬ Full fs[k])(h2:∀ j (hj:j<fs.length),j<k→¬ ¬ Full fs[j]):freeI fs=some k:=by
 unfold freeI
 exact idx_some hk (by simpa using h1) fun j hj hjk=>by simpa using h2 j hj hjk
noncomputable def roomF (s:Tx.St) (fs:List Fr):Px×Nat:=
 match freeI fs with
 |some k=>(⟨s,fs,0⟩,k)
 |none=>match vicF fs.length (2*fs.length) (s.hand.toNat%fs.length) fs with
  |none=>(⟨s,fs,18⟩,0)
  |some (k,fs')=>(flushF {s with hand:=(((k+1)%fs.length:Nat):Int)} fs' k,k)
def backF (s:Tx.St)(fs:List Fr)(x:Px):Px:=if x.e=0∨x.e=20 then x else⟨s,fs,x.e⟩
def hasF (s:Tx.St)(p:Int):Prop:=0≤p∧p<s.zpages
instance (s:Tx.St) (p:Int):Decidable (hasF s p):=by unfold hasF;exact inferInstance
noncomputable def heldF (s:Tx.St) (fs:List Fr) (p:Int):Px×Nat:=
 if ¬ hasF s p then(⟨s,fs,1⟩,0)else
 match atF fs p with
 |some k=>(⟨s,fs.set k {frAt fs k with mark:=true},0⟩,k)
 |none=>if ¬ (loadF s p).2=0 then(⟨s,fs,(loadF s p).2⟩,0)else
  if(roomF s fs).1.e=0 then(⟨(roomF s fs).1.s,(roomF s fs).1.fs.set (roomF s fs).2 ⟨p,(loadF s p).1,0,true,0⟩,0⟩,(roomF s fs).2)
  else(backF s fs (roomF s fs).1,0)
noncomputable def getF (s:Tx.St) (fs:List Fr) (p:Int):Px×ByteArray:=
 ((heldF s fs p).1,if(heldF s fs p).1.e=0 then(frAt (heldF s fs p).1.fs (heldF s fs p).2).bytes else⟨#[]⟩)
noncomputable def pinF (s:Tx.St) (fs:List Fr) (p:Int):Px:=
 if(heldF s fs p).1.e=0 then⟨(heldF s fs p).1.s,(heldF s fs p).1.fs.set (heldF s fs p).2 {frAt (heldF s fs p).1.fs (heldF s fs p).2 with pins:=(frAt (heldF s fs p).1.fs (heldF s fs p).2).pins+1},0⟩else(heldF s fs p).1
noncomputable def unpinF (s:Tx.St) (fs:List Fr) (p:Int):Px:=
 if ¬ hasF s p then⟨s,fs,1⟩else
 match atF fs p with
 |none=>⟨s,fs,21⟩
 |some k=>if(frAt fs k).pins≤0 then⟨s,fs,21⟩else⟨s,fs.set k {frAt fs k with pins:=(frAt fs k).pins-1},0⟩
noncomputable def FlushF (s:Tx.St) (fs:List Fr) (p:Int):Px:=
 if ¬ hasF s p then⟨s,fs,1⟩else
 match atF fs p with
 |none=>⟨s,fs,0⟩
 |some k=>backF s fs (flushF s fs k)
def imgR (p:Int)(b:ByteArray):Rc.Rec:=⟨0,0,0,8,p,0,0,⟨7,0,⟨#[]⟩,b⟩,0,0,Rc.noKey,[],[]⟩
noncomputable def imgF (s:Tx.St) (f:Fr) (p:Int):Lg.Lo×Int×Int:=if f.rc=0 then Lg.appendD s.log (imgR p f.bytes)else(s.log,f.rc,0)
def txAt (ts:List Rc.TxnAt)(i:Nat):Rc.TxnAt:=ts[i]?.getD ⟨0,0,0,false⟩
noncomputable def chgF (x:Px) (k i:Nat) (s:Tx.St) (fs:List Fr) (r:Rc.Rec) (b:ByteArray):Px:=
 let m:=imgF x.s (frAt x.fs k) r.page
 if ¬ m.2.2=0 then⟨s,fs,m.2.2⟩else
 let a:=Lg.appendD m.1 {r with prev:=(txAt x.s.txns i).last}
 if ¬ a.2.2=0 then⟨s,fs,a.2.2⟩else
 ⟨{x.s with log:=a.1,txns:=x.s.txns.set i {txAt x.s.txns i with last:=a.2.1,next:=if r.kind=3 then r.next else a.2.1}},x.fs.set k ⟨(frAt x.fs k).page,lsnB b a.2.1,(frAt x.fs k).pins,true,m.2.1⟩,0⟩
noncomputable def changeF (s:Tx.St) (fs:List Fr) (r:Rc.Rec) (D:ByteArray→ByteArray×Int):Px:=
 if ¬ ((r.kind=2∨r.kind=3)∧hasF s r.page)then⟨s,fs,1⟩else
 match s.txns.findIdx? fun a=>decide (a.txn=r.txn)with
 |none=>⟨s,fs,21⟩
 |some i=>if ¬ (heldF s fs r.page).1.e=0 then(heldF s fs r.page).1 else
  if ¬ (D (frAt (heldF s fs r.page).1.fs (heldF s fs r.page).2).bytes).2=0 then⟨s,fs,(D (frAt (heldF s fs r.page).1.fs (heldF s fs r.page).2).bytes).2⟩else
  chgF (heldF s fs r.page).1 (heldF s fs r.page).2 i s fs r (D (frAt (heldF s fs r.page).1.fs (heldF s fs r.page).2).bytes).1
theorem play_le (x:Pg.Leaf):(⟨(Pg.layL x).toArray⟩:ByteArray).size≤512:=by
 show(Pg.layL x).toArray.size≤512
 by_cases h:512<Pg.sizeN (Pg.trim x.recs)
 ·rw[Pg.layL_nil h];decide
 ·rw[List.size_toArray,Pg.layL_length (by omega)];exact Nat.le_refl _
theorem plsnB_le (p:ByteArray)(n:Int):(lsnB p n).size≤512:=by
 unfold lsnB
 split
 ·decide
 ·exact play_le _
theorem is_full {b:ByteArray}(h:isPg b=true):b≠⟨#[]⟩:=fun e=>by
 have h1:=isPg_size h
 rw[e]at h1
 exact absurd h1 (by decide)
theorem lsnB_is {b:ByteArray}{l:Int}(h:isPg b=true)(hl:Rc.num l):isPg (lsnB b l)=true:=by
 have h1:=hl.1
 have h2:=(nrm_lsn h (l:=l.toNat) (by have:=hl.2;omega)).1.is
 rwa[show((l.toNat:Nat):Int)=l from by omega]at h2
theorem plB_is {b:ByteArray}(h:isPg b=true):isPg (plB b)=true:=(nrm_pl h).1.is
structure FrW (n B:Nat) (f:Fr):Prop where
 sz:f.bytes.size≤512
 pn:0≤f.pins∧f.pins≤(B:Int)
 rc:Rc.num f.rc
 pg:0≤f.page∧f.page<(n:Int)
 is:Full f→isPg f.bytes=true
 rz:f.rc≠0→Full f
structure Wf (N n B:Nat) (s:Tx.St) (fs:List Fr):Prop where
 zl:s.zlog=(N:Int)
 zp:s.zpages=(n:Int)
 n1:1≤n∧n≤60∧N≤3000
 lb:Tx.LogB s
 al:Lg.Al s.log
 ln:s.log.n=(N:Int)
 ef:s.log.end_≤(N:Int)*128
 dk:DkW (1+N+4*n) s.disk
 nf:1≤fs.length∧fs.length≤64
 hd:0≤s.hand∧s.hand≤64
 fr:∀ i (h:i<fs.length),FrW n B fs[i]
 ds:∀ i j (hi:i<fs.length) (hj:j<fs.length),i≠j→Full fs[i]→Full fs[j]→fs[i].page≠fs[j].page
 tl:s.txns.length≤800000
 tx:∀ t∈s.txns,Rc.txnR t
theorem FrW.more {n B B':Nat}{f:Fr}(h:FrW n B f)(hB:B≤B'):FrW n B' f:=⟨h.sz,⟨h.pn.1,by have:=h.pn.2;omega⟩,h.rc,h.pg,h.is,h.rz⟩
theorem Wf.more {N n B B':Nat}{s:Tx.St}{fs:List Fr}(h:Wf N n B s fs)(hB:B≤B'):Wf N n B' s fs:=⟨h.zl,h.zp,h.n1,h.lb,h.al,h.ln,h.ef,h.dk,h.nf,h.hd,fun i hi=>(h.fr i hi).more hB,h.ds,h.tl,h.tx⟩
theorem FrW.set {n B:Nat}{fs:List Fr}(h:∀ i (h:i<fs.length),FrW n B fs[i])(k:Nat){f:Fr}(hf:FrW n B f):∀ i (h:i<(fs.set k f).length),FrW n B (fs.set k f)[i]:=fun i hi=>by
 rcases set_at fs k f i hi with⟨_,e⟩|⟨_,hi',e⟩
 ·rw[e];exact hf
 ·rw[e];exact h i hi'
theorem ds_set {fs:List Fr}(h:∀ i j (hi:i<fs.length) (hj:j<fs.length),i≠j→Full fs[i]→Full fs[j]→fs[i].page≠fs[j].page)(k:Nat)(f:Fr)(hd:Full f→∀ j (hj:j<fs.length),j≠k→Full fs[j]→f.page≠fs[j].page):
 ∀ i j (hi:i<(fs.set k f).length) (hj:j<(fs.set k f).length),i≠j→Full (fs.set k f)[i]→Full (fs.set k f)[j]→(fs.set k f)[i].page≠(fs.set k f)[j].page:=fun i j hi hj hij hb hc=>by
 rcases set_at fs k f i hi with⟨e1,e⟩|⟨e1,hi',e⟩<;>rcases set_at fs k f j hj with⟨e2,e'⟩|⟨e2,hj',e'⟩
 ·exact absurd (e1.trans e2.symm) hij
 ·rw[e,e'];rw[e]at hb;rw[e']at hc;exact hd hb j hj' e2 hc
 ·rw[e,e'];rw[e]at hb;rw[e']at hc;exact fun h5=>hd hc i hi' e1 hb h5.symm
 ·rw[e,e'];rw[e]at hb;rw[e']at hc;exact h i j hi' hj' hij hb hc
theorem Wf.put {N n B:Nat}{s:Tx.St}{fs:List Fr}(h:Wf N n B s fs)(k:Nat){f:Fr}(hf:FrW n B f)(hd:Full f→∀ j (hj:j<fs.length),j≠k→Full fs[j]→f.page≠fs[j].page):Wf N n B s (fs.set k f):=
 ⟨h.zl,h.zp,h.n1,h.lb,h.al,h.ln,h.ef,h.dk,by rw[List.length_set];exact h.nf,h.hd,FrW.set h.fr k hf,ds_set h.ds k f hd,h.tl,h.tx⟩
theorem Wf.set {N n B:Nat}{s:Tx.St}{fs:List Fr}(h:Wf N n B s fs){k:Nat}(hk:k<fs.length){f:Fr}(hf:FrW n B f)(h1:f.page=fs[k].page)(h2:Full f→Full fs[k]):Wf N n B s (fs.set k f):=
 h.put k hf fun hb j hj hjk hbj=>by rw[h1];exact h.ds k j hk hj (fun e=>hjk e.symm) (h2 hb) hbj
theorem FrW.mark {n B:Nat}{f:Fr}(h:FrW n B f)(m:Bool):FrW n B {f with mark:=m}:=⟨h.sz,h.pn,h.rc,h.pg,h.is,h.rz⟩
theorem num_zero:Rc.num 0:=⟨by decide,by decide⟩
theorem FrW.clean {n B:Nat}{f:Fr}(h:FrW n B f):FrW n B {f with rc:=0}:=⟨h.sz,h.pn,num_zero,h.pg,h.is,fun h=>absurd rfl h⟩
theorem Wf.marks {N n B:Nat}{s:Tx.St}{fs fs':List Fr}(h:Wf N n B s fs)(hm:MkR fs fs'):Wf N n B s fs':=
 have hl:=hm.len
 ⟨h.zl,h.zp,h.n1,h.lb,h.al,h.ln,h.ef,h.dk,by rw[hl];exact h.nf,h.hd,fun i hi=>by rw[hm.at_ i (by omega) hi];exact(h.fr i (by omega)).mark _,fun i j hi hj hij hb hc=>by
   have e:=hm.at_ i (by omega) hi
   have e':=hm.at_ j (by omega) hj
   rw[e]at hb ⊢;rw[e']at hc ⊢;exact h.ds i j (by omega) (by omega) hij hb hc,h.tl,h.tx⟩
theorem Wf.hand {N n B:Nat}{s:Tx.St}{fs:List Fr}(h:Wf N n B s fs){x:Int}(hx:0≤x∧x≤64):Wf N n B {s with hand:=x} fs:=
 ⟨h.zl,h.zp,h.n1,⟨h.lb.e0,h.lb.e1,h.lb.t0,h.lb.t1,h.lb.f,h.lb.n0,h.lb.n1,h.lb.s0,h.lb.s1⟩,h.al,h.ln,h.ef,h.dk,h.nf,hx,h.fr,h.ds,h.tl,h.tx⟩
theorem Wf.disk {N n B:Nat}{s:Tx.St}{fs:List Fr}(h:Wf N n B s fs){d:Lg.Dk}(hd:DkW (1+N+4*n) d):Wf N n B {s with disk:=d} fs:=
 ⟨h.zl,h.zp,h.n1,⟨h.lb.e0,h.lb.e1,h.lb.t0,h.lb.t1,h.lb.f,h.lb.n0,h.lb.n1,h.lb.s0,h.lb.s1⟩,h.al,h.ln,h.ef,hd,h.nf,h.hd,h.fr,h.ds,h.tl,h.tx⟩
structure LoW (N:Nat) (l:Lg.Lo):Prop where
 e0:0≤l.end_
 ef:l.end_≤(N:Int)*128
 t0:(l.tail.size:Int)≤l.end_
 t1:l.end_%128≤(l.tail.size:Int)
 f:l.from_=1
 n:l.n=(N:Int)
 al:Lg.Al l
theorem Wf.low {N n B:Nat}{s:Tx.St}{fs:List Fr}(h:Wf N n B s fs):LoW N s.log:=⟨h.lb.e0,h.ef,h.lb.t0,h.lb.t1,h.lb.f,h.ln,h.al⟩
theorem Wf.log {N n B:Nat}{s:Tx.St}{fs:List Fr}(h:Wf N n B s fs){l:Lg.Lo}(hl:LoW N l):Wf N n B {s with log:=l} fs:=by
 have h1:=h.n1.2.2
 have h2:=hl.ef
 have h3:=hl.n
 exact⟨h.zl,h.zp,h.n1,⟨hl.e0,by show l.end_≤_;omega,hl.t0,hl.t1,hl.f,by show 0≤l.n;omega,by show l.n≤_;omega,hl.al.s0,hl.al.se⟩,hl.al,hl.n,hl.ef,h.dk,h.nf,h.hd,h.fr,h.ds,h.tl,h.tx⟩
theorem LoW.forced {N:Nat}{l:Lg.Lo}(h:LoW N l):LoW N (Lg.forcedL l):=by
 have h0:=h.e0
 have h1:=h.t1
 have hsz:((Lg.forcedL l).tail.size:Int)=l.end_%128:=by
  unfold Lg.forcedL
  show((l.tail.extract (l.tail.size-(l.end_%128).toNat) l.tail.size).size:Int)=_
  rw[ByteArray.size_extract]
  omega
 refine⟨h0,h.ef,?_,?_,h.f,h.n,⟨h0,Int.le_refl _,?_⟩⟩
 ·rw[hsz];show _≤l.end_;omega
 ·rw[hsz];exact Int.le_refl _
 ·rw[hsz];rfl
theorem LoW.force {N:Nat}{l:Lg.Lo}(h:LoW N l)(d:Lg.Dk):LoW N (Lg.forceD d l).2.1:=by
 unfold Lg.forceD
 split
 ·exact h
 ·simp only
  split
  ·exact h.forced
  ·exact h
theorem LoW.append {N:Nat}{l:Lg.Lo}(h:LoW N l)(r:Rc.Rec):LoW N (Lg.appendD l r).1:=by
 have ha:=Tx.al_append r h.al
 revert ha
 unfold Lg.appendD
 simp only
 split
 ·intro _;exact h
 ·split
  ·intro _;exact h
  ·rename_i h2
   intro ha
   have h0:=h.e0
   have h1:=h.t0
   have h3:=h.t1
   have hn:=h.n
   have hz:(⟨(Lg.putR {r with lsn:=l.end_+1}).toArray⟩:ByteArray).size=(Lg.putR {r with lsn:=l.end_+1}).length:=by show(Lg.putR {r with lsn:=l.end_+1}).toArray.size=_;simp
   rw[hn]at h2
   refine⟨?_,?_,?_,?_,h.f,hn,ha⟩
   ·show 0≤l.end_+_;omega
   ·show l.end_+_≤_;omega
   ·show((l.tail++_).size:Int)≤l.end_+_;rw[ByteArray.size_append,hz];omega
   ·show(l.end_+_)%128≤((l.tail++_).size:Int);rw[ByteArray.size_append,hz];omega
theorem Wf.force {N n B:Nat}{s:Tx.St}{fs:List Fr}(h:Wf N n B s fs):Wf N n B {s with disk:=(Lg.forceD s.disk s.log).1,log:=(Lg.forceD s.disk s.log).2.1} fs:=
 (h.log (h.low.force s.disk)).disk (h.dk.force s.log)
theorem sec_bound {N n B:Nat}{s:Tx.St}{fs:List Fr}(h:Wf N n B s fs){p:Int}(hp:0≤p∧p<(n:Int)):secOf s p+4≤1+N+4*n∧((secOf s p:Nat):Int)=1+s.zlog+4*p:=by
 have h1:=h.zl
 unfold secOf
 rw[h1]
 omega
theorem Wf.flush {N n B:Nat}{s:Tx.St}{fs:List Fr}(h:Wf N n B s fs){k:Nat}(hk:k<fs.length):Wf N n B (flushF s fs k).s (flushF s fs k).fs∧(flushF s fs k).fs.length=fs.length:=by
 have hf:=h.force
 have hw:=fun a b=>hf.disk (DkW.wrK hf.dk a b 4)
 unfold flushF
 split
 ·exact⟨h,rfl⟩
 ·split
  ·exact⟨hf,rfl⟩
  ·split
   ·exact⟨hw _ _,rfl⟩
   ·rw[frAt_eq hk]
    exact⟨(hw _ _).set hk (h.fr k hk).clean rfl fun h=>h,List.length_set⟩
theorem vic_keep (n:Nat)(hn:0<n):∀ (j a:Nat) (fs0 fs:List Fr) (k:Nat) (fs':List Fr),fs.length=n→a<n→MkR fs0 fs→vicF n j a fs=some (k,fs')→k<n∧MkR fs0 fs'∧¬ 0<(frAt fs' k).pins
 |0,_,_,_,_,_,_,_,_,h=>by cases h
 |j+1,a,fs0,fs,k,fs',hl,ha,hm,h=>by
  unfold vicF at h
  split at h
  ·exact vic_keep n hn j _ fs0 fs k fs' hl (Nat.mod_lt _ hn) hm h
  ·split at h
   ·rw[frAt_eq (show a<fs.length by omega)]at h
    exact vic_keep n hn j _ fs0 _ k fs' (by rw[List.length_set];exact hl) (Nat.mod_lt _ hn) (hm.set (by omega) false) h
   ·rename_i h1 _
    injection h with h
    injection h with e1 e2
    subst e1 e2
    exact⟨ha,hm,h1⟩
theorem Wf.room {N n B:Nat}{s:Tx.St}{fs:List Fr}(h:Wf N n B s fs):Wf N n B (roomF s fs).1.s (roomF s fs).1.fs∧(roomF s fs).1.fs.length=fs.length∧(roomF s fs).2<fs.length:=by
 have hn:=h.nf
 unfold roomF
 split
 ·rename_i k hk
  refine⟨h,rfl,?_⟩
  unfold freeI at hk
  exact(List.findIdx?_eq_some_iff_getElem.1 hk).1
 ·split
  ·exact⟨h,rfl,by show 0<fs.length;omega⟩
  ·rename_i k fs' hv
   obtain⟨h1,h2,_⟩:=vic_keep fs.length (by omega) _ _ fs fs k fs' rfl (Nat.mod_lt _ (by omega)) (MkR.refl fs) hv
   have h3:=h2.len
   have hm:(k+1)%fs.length<fs.length:=Nat.mod_lt _ (by omega)
   obtain⟨h4,h5⟩:=((h.hand (x:=(((k+1)%fs.length:Nat):Int)) (by omega)).marks h2).flush (k:=k) (by omega)
   exact⟨h4,h5.trans h3,h1⟩
theorem flush_pgs (s:Tx.St)(fs:List Fr){k:Nat}(hk:k<fs.length):Pgs fs (flushF s fs k).fs:=by
 unfold flushF
 split
 ·exact Pgs.refl fs
 ·split
  ·exact Pgs.refl fs
  ·split
   ·exact Pgs.refl fs
   ·rw[frAt_eq hk]
    exact Pgs.set fs k hk _ rfl rfl
theorem room_pgs {N n B:Nat}{s:Tx.St}{fs:List Fr}(h:Wf N n B s fs):Pgs fs (roomF s fs).1.fs:=by
 have hn:=h.nf
 unfold roomF
 split
 ·exact Pgs.refl fs
 ·split
  ·exact Pgs.refl fs
  ·rename_i k fs' hv
   obtain⟨h1,h2,_⟩:=vic_keep fs.length (by omega) _ _ fs fs k fs' rfl (Nat.mod_lt _ (by omega)) (MkR.refl fs) hv
   exact(Pgs.marks h2).trans (flush_pgs _ _ (by have:=h2.len;omega)) h2.len
theorem atF_no {fs:List Fr}{p:Int}(h:atF fs p=none):∀ j (hj:j<fs.length),Full fs[j]→fs[j].page≠p:=fun j hj hf e=>by
 unfold atF at h
 have h1:=List.findIdx?_eq_none_iff.1 h fs[j] (List.getElem_mem hj)
 simp only[decide_eq_false_iff_not]at h1
 exact h1 ⟨hf,e⟩
theorem Wf.back {N n B:Nat}{s:Tx.St}{fs:List Fr}(h:Wf N n B s fs){x:Px}(hx:Wf N n B x.s x.fs)(hl:x.fs.length=fs.length):Wf N n B (backF s fs x).s (backF s fs x).fs∧(backF s fs x).fs.length=fs.length:=by
 unfold backF
 split
 ·exact⟨hx,hl⟩
 ·exact⟨h,rfl⟩
theorem load_is (s:Tx.St)(p:Int)(h:(loadF s p).2=0):isPg (loadF s p).1=true:=by
 unfold loadF at h ⊢
 split
 ·rename_i h1;rw[if_pos h1]at h;exact absurd h (by decide)
 ·split
  ·exact(new_nrm 0 (by omega)).1.is
  ·split
   ·rename_i h3
    unfold sealedP at h3
    rw[Bool.and_eq_true]at h3
    exact plB_is h3.1
   ·rename_i h1 h2 h3
    rw[if_neg h1,if_neg h2,if_neg h3]at h
    exact absurd h (by decide)
theorem load_le (s:Tx.St)(p:Int):(loadF s p).1.size≤512:=by
 unfold loadF
 split
 ·decide
 ·split
  ·exact Nat.le_of_eq (new_nrm 0 (by omega)).1.size
  ·split
   ·exact plsnB_le _ _
   ·decide
theorem atF_lt {fs:List Fr}{p:Int}{k:Nat}(h:atF fs p=some k):∃ hk:k<fs.length,Full fs[k]∧fs[k].page=p:=by
 unfold atF at h
 obtain⟨h1,h2,_⟩:=List.findIdx?_eq_some_iff_getElem.1 h
 exact⟨h1,by simpa using h2⟩
theorem Wf.held {N n B:Nat}{s:Tx.St}{fs:List Fr}(h:Wf N n B s fs)(p:Int):Wf N n B (heldF s fs p).1.s (heldF s fs p).1.fs∧(heldF s fs p).1.fs.length=fs.length∧(heldF s fs p).2<fs.length∧
 ((heldF s fs p).1.e=0→(0≤p∧p<(n:Int))∧Full (frAt (heldF s fs p).1.fs (heldF s fs p).2)∧(frAt (heldF s fs p).1.fs (heldF s fs p).2).page=p):=by
 have hn:=h.nf
 have hz:=h.zp
 have h0:0<fs.length:=by omega
 by_cases hp:hasF s p
 ·have hp2:0≤p∧p<(n:Int):=by unfold hasF at hp;omega
  cases ha:atF fs p with
  |some k=>
   have e:heldF s fs p=(⟨s,fs.set k {frAt fs k with mark:=true},0⟩,k):=by
    unfold heldF
    rw[if_neg (fun hn=>hn hp),ha]
   rw[e]
   obtain⟨hk,h1,h2⟩:=atF_lt ha
   rw[frAt_eq hk]
   refine⟨h.set hk ((h.fr k hk).mark true) rfl fun h=>h,List.length_set,hk,fun _=>⟨hp2,?_⟩⟩
   simp only
   rw[frAt_eq (by rw[List.length_set];exact hk),List.getElem_set_self]
   exact⟨h1,h2⟩
  |none=>
   by_cases hl:(loadF s p).2=0
   ·obtain⟨r1,r2,r3⟩:=h.room
    by_cases hr:(roomF s fs).1.e=0
    ·have e:heldF s fs p=(⟨(roomF s fs).1.s,(roomF s fs).1.fs.set (roomF s fs).2 ⟨p,(loadF s p).1,0,true,0⟩,0⟩,(roomF s fs).2):=by
      unfold heldF
      rw[if_neg (fun hn=>hn hp),ha]
      simp only
      rw[if_neg (fun hn=>hn hl),if_pos hr]
     rw[e]
     have hb:=load_is s p hl
     have hfb:=is_full hb
     refine⟨r1.put _ ⟨load_le s p,⟨Int.le_refl _,by show(0:Int)≤(B:Int);omega⟩,num_zero,hp2,fun _=>hb,fun h=>absurd rfl h⟩ (fun _ j hj _ hbj=>fun e9=>(room_pgs h).none_ r2 (atF_no ha) j hj hbj e9.symm),by rw[List.length_set];exact r2,r3,fun _=>⟨hp2,?_⟩⟩
     simp only
     rw[frAt_eq (by rw[List.length_set,r2];exact r3),List.getElem_set_self]
     exact⟨hfb,rfl⟩
    ·have e:heldF s fs p=(backF s fs (roomF s fs).1,0):=by
      unfold heldF
      rw[if_neg (fun hn=>hn hp),ha]
      simp only
      rw[if_neg (fun hn=>hn hl),if_neg hr]
     rw[e]
     obtain⟨b1,b2⟩:=h.back r1 r2
     refine⟨b1,b2,h0,fun h9=>absurd h9 ?_⟩
     unfold backF
     simp only
     split<;>exact hr
   ·have e:heldF s fs p=(⟨s,fs,(loadF s p).2⟩,0):=by
     unfold heldF
     rw[if_neg (fun hn=>hn hp),ha]
     simp only
     rw[if_pos hl]
    rw[e]
    exact⟨h,rfl,h0,fun h9=>absurd h9 hl⟩
 ·have e:heldF s fs p=(⟨s,fs,1⟩,0):=by unfold heldF;rw[if_pos hp]
  rw[e]
  exact⟨h,rfl,h0,fun h9=>absurd h9 (by show ¬ (1:Int)=0;decide)⟩
theorem app_numW {N:Nat}{l:Lg.Lo}(h:LoW N l)(hN:N≤3000)(r:Rc.Rec):Rc.num (Lg.appendD l r).2.1:=by
 have h0:=h.e0
 have h1:=h.ef
 unfold Lg.appendD
 simp only
 split
 ·exact num_zero
 ·split
  ·exact num_zero
  ·exact⟨by show 0≤l.end_+1;omega,by show l.end_+1<_;omega⟩
theorem app_right {l:Lg.Lo}{r:Rc.Rec}(h:(Lg.appendD l r).2.2=0):Rc.Right {r with lsn:=l.end_+1}∧(Lg.appendD l r).2.1=l.end_+1:=by
 unfold Lg.appendD at h ⊢
 simp only at h ⊢
 split at h
 ·exact absurd h (by show ¬ (1:Int)=0;decide)
 ·rename_i h1
  split at h
  ·exact absurd h (by show ¬ (18:Int)=0;decide)
  ·rename_i h2
   rw[if_neg h1,if_neg h2]
   exact⟨Classical.byContradiction fun hn=>h1 hn,rfl⟩
theorem right_next {r:Rc.Rec}(h:Rc.Right r)(hk:r.kind=3):Rc.num r.next:=by
 cases h with
 |small kind lsn prev txn hk2 h1 h2 h3=>exact num_zero
 |change lsn prev txn page op how root e h1 h2 h3 h4 h5 h6=>exact absurd hk (by show ¬ (2:Int)=3;decide)
 |clr lsn prev txn page op next h1 h2 h3 h4 h5 h6=>exact h6
 |nest lsn prev txn next h1 h2 h3 h6=>exact h6
 |image lsn prev txn page op h1 h2 h3 h4 h5=>exact absurd hk (by show ¬ (8:Int)=3;decide)
 |check lsn prev txn n ts ds h1 h2 h3 h4 h5=>exact absurd hk (by show ¬ (9:Int)=3;decide)
theorem txAt_eq {ts:List Rc.TxnAt}{i:Nat}(h:i<ts.length):txAt ts i=ts[i]:=by unfold txAt;rw[List.getElem?_eq_getElem h];rfl
theorem Wf.chg {N n B:Nat}{s:Tx.St}{fs:List Fr}(h:Wf N n B s fs){x:Px}(hx:Wf N n B x.s x.fs)(hl:x.fs.length=fs.length){k i:Nat}(hk:k<x.fs.length)(hi:i<x.s.txns.length)(r:Rc.Rec){b:ByteArray}(hb:isPg b=true)(hf:Full (frAt x.fs k)):
 Wf N n B (chgF x k i s fs r b).s (chgF x k i s fs r b).fs∧(chgF x k i s fs r b).fs.length=fs.length:=by
 have hN:=h.n1.2.2
 rw[frAt_eq hk]at hf
 have hm:LoW N (imgF x.s (frAt x.fs k) r.page).1∧Rc.num (imgF x.s (frAt x.fs k) r.page).2.1:=by
  unfold imgF
  split
  ·exact⟨hx.low.append _,app_numW hx.low hN _⟩
  ·rw[frAt_eq hk]
   exact⟨hx.low,(hx.fr k hk).rc⟩
 unfold chgF
 simp only
 generalize imgF x.s (frAt x.fs k) r.page=m at hm ⊢
 split
 ·exact⟨h,rfl⟩
 ·have ha:=hm.1.append {r with prev:=(txAt x.s.txns i).last}
  have hn:=app_numW hm.1 hN {r with prev:=(txAt x.s.txns i).last}
  have hr:=app_right (l:=m.1) (r:={r with prev:=(txAt x.s.txns i).last})
  generalize Lg.appendD m.1 {r with prev:=(txAt x.s.txns i).last}=a at ha hn hr ⊢
  split
  ·exact⟨h,rfl⟩
  ·rename_i h0
   have hr2:=(hr (Classical.byContradiction fun hc=>h0 hc)).1
   have hw:=hx.log ha
   have hF:=hx.fr k hk
   rw[frAt_eq hk]
   have hw2:=hw.set hk (f:=⟨x.fs[k].page,lsnB b a.2.1,x.fs[k].pins,true,m.2.1⟩) ⟨plsnB_le _ _,hF.pn,hm.2,hF.pg,fun _=>lsnB_is hb hn,fun _=>is_full (lsnB_is hb hn)⟩ rfl (fun _=>hf)
   refine⟨⟨hw2.zl,hw2.zp,hw2.n1,⟨hw2.lb.e0,hw2.lb.e1,hw2.lb.t0,hw2.lb.t1,hw2.lb.f,hw2.lb.n0,hw2.lb.n1,hw2.lb.s0,hw2.lb.s1⟩,hw2.al,hw2.ln,hw2.ef,hw2.dk,hw2.nf,hw2.hd,hw2.fr,hw2.ds,by show(x.s.txns.set _ _).length≤_;rw[List.length_set];exact hx.tl,fun t ht=>?_⟩,by simp only;rw[List.length_set];exact hl⟩
   rcases List.mem_or_eq_of_mem_set ht with h1|h1
   ·exact hx.tx t h1
   ·rw[h1,txAt_eq hi]
    refine⟨(hx.tx _ (List.getElem_mem hi)).1,hn,?_⟩
    show Rc.num (if r.kind=3 then r.next else a.2.1)
    split
    ·rename_i h3
     exact(show Rc.num r.next from right_next (r:={({r with prev:=(txAt x.s.txns i).last}:Rc.Rec)with lsn:=m.1.end_+1}) hr2 h3)
    ·exact hn
theorem flush_txns (s:Tx.St)(fs:List Fr)(k:Nat):(flushF s fs k).s.txns=s.txns∧(flushF s fs k).s.next=s.next:=by
 unfold flushF
 split
 ·exact⟨rfl,rfl⟩
 ·split
  ·exact⟨rfl,rfl⟩
  ·split<;>exact⟨rfl,rfl⟩
theorem room_txns (s:Tx.St)(fs:List Fr):(roomF s fs).1.s.txns=s.txns∧(roomF s fs).1.s.next=s.next:=by
 unfold roomF
 split
 ·exact⟨rfl,rfl⟩
 ·split
  ·exact⟨rfl,rfl⟩
  ·exact flush_txns _ _ _
theorem back_txns {s:Tx.St}{fs:List Fr}{x:Px}(h:x.s.txns=s.txns∧x.s.next=s.next):(backF s fs x).s.txns=s.txns∧(backF s fs x).s.next=s.next:=by
 unfold backF
 split
 ·exact h
 ·exact⟨rfl,rfl⟩
theorem held_txns (s:Tx.St)(fs:List Fr)(p:Int):(heldF s fs p).1.s.txns=s.txns∧(heldF s fs p).1.s.next=s.next:=by
 unfold heldF
 split
 ·exact⟨rfl,rfl⟩
 ·split
  ·exact⟨rfl,rfl⟩
  ·split
   ·exact⟨rfl,rfl⟩
   ·split
    ·exact room_txns s fs
    ·exact back_txns (room_txns s fs)
theorem Wf.change {N n B:Nat}{s:Tx.St}{fs:List Fr}(h:Wf N n B s fs)(r:Rc.Rec)(D:ByteArray→ByteArray×Int)(hD:∀ q,(D q).2=0→isPg (D q).1=true):Wf N n B (changeF s fs r D).s (changeF s fs r D).fs∧(changeF s fs r D).fs.length=fs.length:=by
 obtain⟨x1,x2,x3,x4⟩:=h.held r.page
 have x5:=(held_txns s fs r.page).1
 unfold changeF
 split
 ·exact⟨h,rfl⟩
 ·split
  ·exact⟨h,rfl⟩
  ·rename_i i hi
   have hi2:=(List.findIdx?_eq_some_iff_getElem.1 hi).1
   generalize heldF s fs r.page=x at x1 x2 x3 x4 x5 ⊢
   split
   ·exact⟨x1,x2⟩
   ·rename_i h0
    have h0':x.1.e=0:=Classical.byContradiction fun hc=>h0 hc
    split
    ·exact⟨h,rfl⟩
    ·rename_i h3
     exact h.chg x1 x2 (by omega) (by rw[x5];exact hi2) r (hD _ (Classical.byContradiction fun hc=>h3 hc)) (x4 h0').2.1
theorem Wf.pin {N n B:Nat}{s:Tx.St}{fs:List Fr}(h:Wf N n B s fs)(p:Int):Wf N n (B+1) (pinF s fs p).s (pinF s fs p).fs∧(pinF s fs p).fs.length=fs.length:=by
 obtain⟨x1,x2,x3,x4⟩:=h.held p
 unfold pinF
 generalize heldF s fs p=x at x1 x2 x3 x4 ⊢
 split
 ·have hk:x.2<x.1.fs.length:=by omega
  have hf:=x1.fr x.2 hk
  rw[frAt_eq hk]
  exact⟨(x1.more (Nat.le_succ B)).set hk ⟨hf.sz,⟨by show 0≤x.1.fs[x.2].pins+1;have:=hf.pn;omega,by show x.1.fs[x.2].pins+1≤_;have:=hf.pn;omega⟩,hf.rc,hf.pg,hf.is,hf.rz⟩ rfl (fun a=>a),by simp only;rw[List.length_set];exact x2⟩
 ·exact⟨x1.more (Nat.le_succ B),x2⟩
theorem Wf.unpin {N n B:Nat}{s:Tx.St}{fs:List Fr}(h:Wf N n B s fs)(p:Int):Wf N n B (unpinF s fs p).s (unpinF s fs p).fs∧(unpinF s fs p).fs.length=fs.length:=by
 unfold unpinF
 split
 ·exact⟨h,rfl⟩
 ·split
  ·exact⟨h,rfl⟩
  ·rename_i k ha
   obtain⟨hk,_⟩:=atF_lt ha
   rw[frAt_eq hk]
   split
   ·exact⟨h,rfl⟩
   ·have hf:=h.fr k hk
    exact⟨h.set hk ⟨hf.sz,⟨by show 0≤fs[k].pins-1;omega,by show fs[k].pins-1≤_;have:=hf.pn;omega⟩,hf.rc,hf.pg,hf.is,hf.rz⟩ rfl (fun a=>a),List.length_set⟩
theorem Wf.Flush {N n B:Nat}{s:Tx.St}{fs:List Fr}(h:Wf N n B s fs)(p:Int):Wf N n B (FlushF s fs p).s (FlushF s fs p).fs∧(FlushF s fs p).fs.length=fs.length:=by
 unfold FlushF
 split
 ·exact⟨h,rfl⟩
 ·split
  ·exact⟨h,rfl⟩
  ·rename_i k ha
   obtain⟨hk,_⟩:=atF_lt ha
   obtain⟨f1,f2⟩:=h.flush hk
   exact h.back f1 f2
structure FrP (n:Nat) (fs:List Fr) (C:Nat→ByteArray):Prop where
 at_:∀ i (hi:i<fs.length),Full fs[i]→∃ p:Nat,p<n∧fs[i].page=(p:Int)∧fs[i].bytes=C p
 ds:∀ i j (hi:i<fs.length) (hj:j<fs.length),i≠j→Full fs[i]→Full fs[j]→fs[i].page≠fs[j].page
structure PQ (N n:Nat) (s:Tx.St) (fs:List Fr) (C:Nat→ByteArray):Prop where
 zl:s.zlog=(N:Int)
 zp:s.zpages=(n:Int)
 pw:Pw N (1+N+4*n) s.disk s.log
 fr:FrP n fs C
 nm:∀ p,p<n→Nrm (C p)
 dk:∀ p,p<n→¬ Dirt fs p→Lay N s.disk p (C p)
theorem PQ.sec {N n:Nat}{s:Tx.St}{fs:List Fr}{C:Nat→ByteArray}(h:PQ N n s fs C)(p:Nat):secOf s (p:Int)=1+N+4*p:=by
 unfold secOf;rw[h.zl];omega
theorem PQ.read {N n:Nat}{s:Tx.St}{fs:List Fr}{C:Nat→ByteArray}(h:PQ N n s fs C){p:Nat}(hp:p<n)(hd:¬ Dirt fs p):loadF s (p:Int)=(C p,0):=by
 unfold loadF
 rw[if_neg (by rw[h.pw.up];decide),h.sec p]
 rcases h.dk p hp hd with h1|⟨h1,h2⟩
 ·rw[h1]
  have hs:=sealB_is (h.nm p hp).is
  rw[if_neg (seal_zero (h.nm p hp).is),if_pos hs.2.2.1,seal_pl (h.nm p hp)]
 ·rw[if_pos h1,h2];rfl
end Go.Proofs.YtdfkambdagoojaaGreatDoor
