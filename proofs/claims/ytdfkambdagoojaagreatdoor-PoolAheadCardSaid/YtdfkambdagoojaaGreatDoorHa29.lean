import Derived.Test.YtdfkambdagoojaaGreatDoorHa00
import Derived.Test.YtdfkambdagoojaaGreatDoorHa27
import Derived.Test.YtdfkambdagoojaaGreatDoorHa10
set_option maxRecDepth 100000
set_option maxHeartbeats 16000000
set_option linter.unusedSimpArgs false
namespace Go.Proofs.YtdfkambdagoojaaGreatDoor
open Go.RowKit Sc
def lsn0 (b:ByteArray):Nat:=Oct.getN b.data.toList 4 6
theorem leaf_lsn {p:ByteArray}(h:isPg p=true):(leafP p).lsn=lsn0 p:=by
 have h1:=right_of_isPg h
 unfold Pg.right at h1
 have h2:=(Option.filter_eq_some_iff.1 h1).1
 unfold Pg.rd at h2
 split at h2
 ·cases h2
 ·obtain⟨rs,_,h3⟩:=Option.map_eq_some_iff.1 h2
  rw[← h3];rfl
theorem lsn0_app {b c:ByteArray}(h:10≤b.size):lsn0 (b++c)=lsn0 b:=by
 have hl:=size_list b
 unfold lsn0 Oct.getN
 rw[ByteArray.data_append,Array.toList_append,List.drop_append_of_le_length (by omega),List.take_append_of_le_length (by rw[List.length_drop];omega)]
theorem lsn0_sec (b:ByteArray):lsn0 (sec4 b 0)=lsn0 b:=by
 unfold lsn0 Oct.getN sec4
 rw[show 0*128=0 by rfl,part_list,List.drop_zero,List.drop_take,List.take_take]
 rfl
theorem lsn0_seal {p:ByteArray}(h:isPg p=true):lsn0 (sealB p)=(leafP p).lsn:=by
 obtain⟨h1,h2,_⟩:=sealB_is h
 rw[← leaf_lsn h1,h2]
theorem lsn0_page {M:Nat}{d:Lg.Dk}(h:DkW M d){a:Nat}(ha:a+4≤M):∃ b,d.sectors[a]? =some b∧lsn0 (pgAt d a)=lsn0 b:=by
 have hl:=h.len
 refine⟨d.sectors[a],List.getElem?_eq_getElem (by omega),?_⟩
 have h0:=h.sz d.sectors[a] (List.getElem_mem (by omega))
 have h1:=h.sz d.sectors[a+1] (List.getElem_mem (by omega))
 have h2:=h.sz d.sectors[a+2] (List.getElem_mem (by omega))
 rw[pgAt_four (by omega),lsn0_app (by rw[ByteArray.size_append,ByteArray.size_append];omega),lsn0_app (by rw[ByteArray.size_append];omega),lsn0_app (by omega)]
theorem write_at (d:Lg.Dk)(a:Int)(b:ByteArray)(j:Nat):(Lg.writeD d a b).1.sectors[j]? =d.sectors[j]?∨((j:Int)=a∧(Lg.writeD d a b).1.sectors[j]? =some b):=by
 unfold Lg.writeD
 split
 ·exact .inl rfl
 ·split
  ·exact .inl rfl
  ·rename_i hb
   have hd:Lg.hasD d a:=(Classical.byContradiction fun hc=>hb hc).1
   split
   ·exact .inl rfl
   ·by_cases hj:(j:Int)=a
    ·refine .inr ⟨hj,?_⟩
     show(d.sectors.set a.toNat b)[j]? =_
     have hlt:a.toNat<d.sectors.length:=by unfold Lg.hasD at hd;omega
     rw[show j=a.toNat by omega,List.getElem?_set_self hlt]
    ·refine .inl ?_
     show(d.sectors.set a.toNat b)[j]? =_
     have h0:0≤a:=by unfold Lg.hasD at hd;omega
     rw[List.getElem?_set_ne (by omega)]
theorem wrK_at (d:Lg.Dk)(a:Nat)(b:ByteArray)(j:Nat):∀ k,(wrK d a b k).1.sectors[j]? =d.sectors[j]?∨∃ i,i<k∧j=a+i∧(wrK d a b k).1.sectors[j]? =some (sec4 b i)
 |0=>.inl rfl
 |k+1=>by
  have ih:=wrK_at d a b j k
  by_cases h0:(wrK d a b k).2=0
  ·rw[wrK_step h0]
   rcases write_at (wrK d a b k).1 ((a:Int)+(k:Int)) (sec4 b k) j with h1|⟨h1,h2⟩
   ·rw[h1]
    rcases ih with h|⟨i,hi,hj,h⟩
    ·exact .inl h
    ·exact .inr ⟨i,by omega,hj,h⟩
   ·exact .inr ⟨k,by omega,by omega,h2⟩
  ·rw[wrK_stuck h0 1]
   rcases ih with h|⟨i,hi,hj,h⟩
   ·exact .inl h
   ·exact .inr ⟨i,by omega,hj,h⟩
theorem putAll_off (base:Int)(all:List ByteArray)(j:Nat):∀ (i:Nat) (d:Lg.Dk),base+(i:Int)≤(j:Int)→(Lg.putAll base all i d).1.sectors[j]? =d.sectors[j]?
 |0,_,_=>rfl
 |i+1,d,h=>by
  have hw:=write_at d (base+(i:Int)) (all[i]?.getD ⟨#[]⟩) j
  have h1:(Lg.writeD d (base+(i:Int)) (all[i]?.getD ⟨#[]⟩)).1.sectors[j]? =d.sectors[j]? :=by
   rcases hw with h1|⟨h1,_⟩
   ·exact h1
   ·omega
  unfold Lg.putAll
  split
  ·rw[putAll_off base all j i _ (by omega)];exact h1
  ·exact h1
theorem force_off {N:Nat}{l:Lg.Lo}(h:LoW N l)(d:Lg.Dk)(j:Nat)(hj:1+N≤j):(Lg.forceD d l).1.sectors[j]? =d.sectors[j]? :=by
 have h0:=h.e0
 have h1:=h.ef
 have h2:=h.t0
 have h3:=h.f
 have h4:=h.n
 have hc:=Lg.cutB_length l.tail
 have hlen:l.from_+Lg.firstS l+((Lg.allS l).length:Int)≤(j:Int):=by
  unfold Lg.allS
  split
  ·rename_i h5
   rw[List.length_append,List.length_singleton]
   omega
  ·unfold Lg.firstS
   omega
 unfold Lg.forceD
 split
 ·rfl
 ·simp only
  split<;>exact putAll_off _ _ _ _ _ hlen
theorem force_log (d:Lg.Dk)(l:Lg.Lo):(Lg.forceD d l).2.1.end_=l.end_∧((Lg.forceD d l).2.1.safe=l.safe∨(Lg.forceD d l).2.1.safe=l.end_)∧((Lg.forceD d l).2.2=0→(Lg.forceD d l).2.1.safe=l.end_):=by
 unfold Lg.forceD
 split
 ·rename_i h;exact⟨rfl,.inl rfl,fun _=>h⟩
 ·simp only
  split
  ·exact⟨rfl,.inr rfl,fun _=>rfl⟩
  ·rename_i h;exact⟨rfl,.inl rfl,fun h2=>absurd h2 h⟩
theorem app_log (l:Lg.Lo)(r:Rc.Rec):(Lg.appendD l r).1.safe=l.safe∧l.end_≤(Lg.appendD l r).1.end_∧((Lg.appendD l r).2.2=0→(Lg.appendD l r).2.1=l.end_+1∧(Lg.appendD l r).2.1≤(Lg.appendD l r).1.end_):=by
 have hl:=Lg.putR_len {r with lsn:=l.end_+1}
 unfold Lg.appendD
 simp only
 split
 ·exact⟨rfl,Int.le_refl _,fun h=>absurd h (by show ¬ (1:Int)=0;decide)⟩
 ·split
  ·exact⟨rfl,Int.le_refl _,fun h=>absurd h (by show ¬ (18:Int)=0;decide)⟩
  ·refine⟨rfl,?_,fun _=>⟨rfl,?_⟩⟩
   ·show l.end_≤l.end_+_;omega
   ·show l.end_+1≤l.end_+_;omega
structure Ah (N n:Nat) (s:Tx.St) (fs:List Fr):Prop where
 dk:∀ p,p<n→∀ b,s.disk.sectors[1+N+4*p]? =some b→((lsn0 b:Nat):Int)≤s.log.safe
 fr:∀ i (h:i<fs.length),Full fs[i]→(((leafP fs[i].bytes).lsn:Nat):Int)≤s.log.end_
theorem Ah.put {N n:Nat}{s:Tx.St}{fs:List Fr}(h:Ah N n s fs)(k:Nat){f:Fr}(hf:Full f→(((leafP f.bytes).lsn:Nat):Int)≤s.log.end_):Ah N n s (fs.set k f):=⟨h.dk,fun i hi hb=>by
 rcases set_at fs k f i hi with⟨_,e⟩|⟨_,hi',e⟩
 ·rw[e]at hb ⊢;exact hf hb
 ·rw[e]at hb ⊢;exact h.fr i hi' hb⟩
theorem Ah.same {N n:Nat}{s:Tx.St}{fs:List Fr}(h:Ah N n s fs){k:Nat}(hk:k<fs.length){f:Fr}(hf:f.bytes=fs[k].bytes):Ah N n s (fs.set k f):=h.put k fun hb=>by
 rw[hf];exact h.fr k hk (by unfold Full at hb ⊢;rwa[← hf])
theorem Ah.marks {N n:Nat}{s:Tx.St}{fs fs':List Fr}(h:Ah N n s fs)(hm:MkR fs fs'):Ah N n s fs':=⟨h.dk,fun i hi hb=>by
 have hl:=hm.len
 have e:=hm.at_ i (by omega) hi
 rw[e]at hb ⊢;exact h.fr i (by omega) hb⟩
theorem Ah.hand {N n:Nat}{s:Tx.St}{fs:List Fr}(h:Ah N n s fs)(x:Int):Ah N n {s with hand:=x} fs:=⟨h.dk,h.fr⟩
theorem Ah.force {N n B:Nat}{s:Tx.St}{fs:List Fr}(h:Ah N n s fs)(hw:Wf N n B s fs):Ah N n {s with disk:=(Lg.forceD s.disk s.log).1,log:=(Lg.forceD s.disk s.log).2.1} fs:=by
 obtain⟨h1,h2,_⟩:=force_log s.disk s.log
 have h3:=hw.lb.s1
 refine⟨fun p hp b hb=>?_,fun i hi hb=>?_⟩
 ·have h4:=h.dk p hp b ((force_off hw.low s.disk _ (by omega)).symm.trans hb)
  show _≤(Lg.forceD s.disk s.log).2.1.safe
  rcases h2 with h2|h2<;>omega
 ·show _≤(Lg.forceD s.disk s.log).2.1.end_
  rw[h1];exact h.fr i hi hb
theorem Ah.flush {N n B:Nat}{s:Tx.St}{fs:List Fr}(h:Ah N n s fs)(hw:Wf N n B s fs){k:Nat}(hk:k<fs.length):Ah N n (flushF s fs k).s (flushF s fs k).fs∧(flushF s fs k).s.log.end_=s.log.end_:=by
 have hf:=h.force hw
 obtain⟨l1,l2,l3⟩:=force_log s.disk s.log
 have hfr:=hw.fr k hk
 have hah:=h.fr k hk
 unfold flushF
 rw[frAt_eq hk]
 split
 ·exact⟨h,rfl⟩
 ·rename_i hrc
  have hfull:=hfr.rz hrc
  have his:=hfr.is hfull
  have hl:=hah hfull
  have hpg:=hfr.pg
  have hsec:=(sec_bound hw hpg).2
  have hzl:=hw.zl
  split
  ·exact⟨hf,l1⟩
  ·rename_i he
   have hs:=l3 (Classical.byContradiction fun hc=>he hc)
   have hwr:Ah N n {s with disk:=(wrK (Lg.forceD s.disk s.log).1 (secOf s fs[k].page) (sealB fs[k].bytes) 4).1,log:=(Lg.forceD s.disk s.log).2.1} fs:=by
    refine⟨fun p hp b hb=>?_,hf.fr⟩
    rcases wrK_at (Lg.forceD s.disk s.log).1 (secOf s fs[k].page) (sealB fs[k].bytes) (1+N+4*p) 4 with h1|⟨i,hi,hj,h1⟩
    ·exact hf.dk p hp b (h1.symm.trans hb)
    ·obtain rfl:i=0:=by omega
     obtain rfl:=Option.some.inj (h1.symm.trans hb)
     show((lsn0 (sec4 (sealB fs[k].bytes) 0):Nat):Int)≤(Lg.forceD s.disk s.log).2.1.safe
     rw[lsn0_sec,lsn0_seal his,hs]
     exact hl
   split
   ·exact⟨hwr,l1⟩
   ·exact⟨hwr.same hk rfl,l1⟩
theorem Ah.room {N n B:Nat}{s:Tx.St}{fs:List Fr}(h:Ah N n s fs)(hw:Wf N n B s fs):Ah N n (roomF s fs).1.s (roomF s fs).1.fs∧(roomF s fs).1.s.log.end_=s.log.end_:=by
 have hn:=hw.nf
 unfold roomF
 split
 ·exact⟨h,rfl⟩
 ·split
  ·exact⟨h,rfl⟩
  ·rename_i k fs' hv
   obtain⟨h1,h2,_⟩:=vic_keep fs.length (by omega) _ _ fs fs k fs' rfl (Nat.mod_lt _ (by omega)) (MkR.refl fs) hv
   have h3:=h2.len
   have hm:(k+1)%fs.length<fs.length:=Nat.mod_lt _ (by omega)
   exact((h.hand (((k+1)%fs.length:Nat):Int)).marks h2).flush ((hw.hand (x:=(((k+1)%fs.length:Nat):Int)) (by omega)).marks h2) (by omega)
theorem Ah.back {N n:Nat}{s:Tx.St}{fs:List Fr}(h:Ah N n s fs){x:Px}(hx:Ah N n x.s x.fs):Ah N n (backF s fs x).s (backF s fs x).fs:=by
 unfold backF
 split
 ·exact hx
 ·exact h
theorem load_lsn {N n B:Nat}{s:Tx.St}{fs:List Fr}(h:Ah N n s fs)(hw:Wf N n B s fs){p:Int}(hp:0≤p∧p<(n:Int)):(((leafP (loadF s p).1).lsn:Nat):Int)≤s.log.safe:=by
 have h0:=hw.lb.s0
 have hz:(((leafP (⟨#[]⟩:ByteArray)).lsn:Nat):Int)≤s.log.safe:=by
  have:(leafP (⟨#[]⟩:ByteArray)).lsn=0:=by decide
  omega
 unfold loadF
 split
 ·exact hz
 ·split
  ·show(((leafP (newB 0)).lsn:Nat):Int)≤_
   rw[show newB 0=newB ((0:Nat):Int)from rfl,(new_nrm 0 (by omega)).2]
   exact h0
  ·split
   ·rename_i hs
    unfold sealedP at hs
    rw[Bool.and_eq_true]at hs
    show(((leafP (plB (pgAt s.disk (secOf s p)))).lsn:Nat):Int)≤_
    rw[(nrm_pl hs.1).2,leaf_lsn hs.1]
    obtain⟨b1,b2⟩:=sec_bound hw hp
    have hzl:=hw.zl
    obtain⟨b,hb,e⟩:=lsn0_page hw.dk b1
    rw[e]
    obtain⟨q,hq⟩:∃ q:Nat,p=(q:Int):=⟨p.toNat,by omega⟩
    exact h.dk q (by omega) b (by rw[← hb];congr 1;omega)
   ·exact hz
theorem Ah.held {N n B:Nat}{s:Tx.St}{fs:List Fr}(h:Ah N n s fs)(hw:Wf N n B s fs)(p:Int):Ah N n (heldF s fs p).1.s (heldF s fs p).1.fs∧((heldF s fs p).1.e=0→(heldF s fs p).1.s.log.end_=s.log.end_):=by
 have hz:=hw.zp
 have hs1:=hw.lb.s1
 obtain⟨r1,r2⟩:=h.room hw
 unfold heldF
 split
 ·exact⟨h,fun _=>rfl⟩
 ·rename_i hp
  have hp2:0≤p∧p<(n:Int):=by
   have hp:=Classical.byContradiction fun hc=>hp hc
   unfold hasF at hp;omega
  have hl:=load_lsn h hw hp2
  split
  ·rename_i k ha
   obtain⟨hk,_⟩:=atF_lt ha
   rw[frAt_eq hk]
   exact⟨h.same hk rfl,fun _=>rfl⟩
  ·split
   ·exact⟨h,fun _=>rfl⟩
   ·split
    ·exact⟨r1.put _ fun _=>by show(((leafP (loadF s p).1).lsn:Nat):Int)≤_;omega,fun _=>r2⟩
    ·rename_i he
     refine⟨h.back r1,fun h9=>absurd h9 ?_⟩
     unfold backF
     simp only
     split<;>exact he
theorem Ah.logs {N n:Nat}{s:Tx.St}{fs:List Fr}(h:Ah N n s fs){g:Lg.Lo}(h1:g.safe=s.log.safe)(h2:s.log.end_≤g.end_)(ts:List Rc.TxnAt):Ah N n {s with log:=g,txns:=ts} fs:=
 ⟨fun p hp b hb=>by show _≤g.safe;rw[h1];exact h.dk p hp b hb,fun i hi hb=>Int.le_trans (h.fr i hi hb) h2⟩
theorem Ah.chg {N n:Nat}{s:Tx.St}{fs:List Fr}(h:Ah N n s fs){x:Px}(hx:Ah N n x.s x.fs)(k i:Nat)(r:Rc.Rec){b:ByteArray}(hb:isPg b=true)(he:0≤x.s.log.end_∧∀ l:Int,(imgF x.s (frAt x.fs k) r.page).1.end_=l→l<1000000000):Ah N n (chgF x k i s fs r b).s (chgF x k i s fs r b).fs:=by
 have hm:(imgF x.s (frAt x.fs k) r.page).1.safe=x.s.log.safe∧x.s.log.end_≤(imgF x.s (frAt x.fs k) r.page).1.end_:=by
  unfold imgF
  split
  ·exact⟨(app_log _ _).1,(app_log _ _).2.1⟩
  ·exact⟨rfl,Int.le_refl _⟩
 have hb2:=he.2 _ rfl
 have he0:=he.1
 unfold chgF
 simp only
 generalize imgF x.s (frAt x.fs k) r.page=m at hm hb2 ⊢
 split
 ·exact h
 ·obtain⟨a1,a2,a3⟩:=app_log m.1 {r with prev:=(txAt x.s.txns i).last}
  generalize Lg.appendD m.1 {r with prev:=(txAt x.s.txns i).last}=a at a1 a2 a3 ⊢
  split
  ·exact h
  ·rename_i h0
   obtain⟨a4,a5⟩:=a3 (Classical.byContradiction fun hc=>h0 hc)
   refine(hx.logs (a1.trans hm.1) (Int.le_trans hm.2 a2) _).put k fun _=>?_
   show(((leafP (lsnB b a.2.1)).lsn:Nat):Int)≤a.1.end_
   have h5:=(nrm_lsn hb (l:=a.2.1.toNat) (by omega)).2
   rw[show((a.2.1.toNat:Nat):Int)=a.2.1 by omega]at h5
   rw[h5]
   show((a.2.1.toNat:Nat):Int)≤_
   omega
theorem img_low {N n B:Nat}{s:Tx.St}{fs:List Fr}(hw:Wf N n B s fs)(f:Fr)(p:Int):LoW N (imgF s f p).1:=by
 unfold imgF
 split
 ·exact hw.low.append _
 ·exact hw.low
theorem Ah.change {N n B:Nat}{s:Tx.St}{fs:List Fr}(h:Ah N n s fs)(hw:Wf N n B s fs)(r:Rc.Rec)(D:ByteArray→ByteArray×Int)(hD:∀ q,(D q).2=0→isPg (D q).1=true):Ah N n (changeF s fs r D).s (changeF s fs r D).fs:=by
 obtain⟨x1,_⟩:=h.held hw r.page
 obtain⟨w1,_⟩:=hw.held r.page
 have hN:=hw.n1.2.2
 unfold changeF
 split
 ·exact h
 ·split
  ·exact h
  ·rename_i i hi
   generalize heldF s fs r.page=x at x1 w1 ⊢
   split
   ·exact x1
   ·split
    ·exact h
    ·rename_i h3
     have hl:=img_low w1 (frAt x.1.fs x.2) r.page
     have h4:=hl.ef
     exact h.chg x1 _ _ r (hD _ (Classical.byContradiction fun hc=>h3 hc)) ⟨w1.lb.e0,fun l e=>by omega⟩
theorem Ah.get {N n B:Nat}{s:Tx.St}{fs:List Fr}(h:Ah N n s fs)(hw:Wf N n B s fs)(p:Int):Ah N n (getF s fs p).1.s (getF s fs p).1.fs:=by
 unfold getF
 exact(h.held hw p).1
theorem Ah.pin {N n B:Nat}{s:Tx.St}{fs:List Fr}(h:Ah N n s fs)(hw:Wf N n B s fs)(p:Int):Ah N n (pinF s fs p).s (pinF s fs p).fs:=by
 obtain⟨x1,_⟩:=h.held hw p
 obtain⟨_,w2,w3,_⟩:=hw.held p
 unfold pinF
 generalize heldF s fs p=x at x1 w2 w3 ⊢
 split
 ·have hk:x.2<x.1.fs.length:=by omega
  rw[frAt_eq hk]
  exact x1.same hk rfl
 ·exact x1
theorem Ah.unpin {N n:Nat}{s:Tx.St}{fs:List Fr}(h:Ah N n s fs)(p:Int):Ah N n (unpinF s fs p).s (unpinF s fs p).fs:=by
 unfold unpinF
 split
 ·exact h
 ·split
  ·exact h
  ·rename_i k ha
   obtain⟨hk,_⟩:=atF_lt ha
   rw[frAt_eq hk]
   split
   ·exact h
   ·exact h.same hk rfl
theorem Ah.Flush {N n B:Nat}{s:Tx.St}{fs:List Fr}(h:Ah N n s fs)(hw:Wf N n B s fs)(p:Int):Ah N n (FlushF s fs p).s (FlushF s fs p).fs:=by
 unfold FlushF
 split
 ·exact h
 ·split
  ·exact h
  ·rename_i k ha
   obtain⟨hk,_⟩:=atF_lt ha
   exact h.back (h.flush hw hk).1
theorem Ah.allL {N n B:Nat}{s0:Tx.St}{fs0:List Fr}(h0:Ah N n s0 fs0):∀ (l:List Int) (s:Tx.St) (fs:List Fr),Ah N n s fs→Wf N n B s fs→Ah N n (allL s0 fs0 l s fs).s (allL s0 fs0 l s fs).fs
 |[],_,_,h,_=>h
 |p::l,s,fs,h,hw=>by
  have h1:=h.Flush hw p
  obtain⟨w1,_⟩:=hw.Flush p
  show Ah N n (if _ then _ else _:Px).s (if _ then _ else _:Px).fs
  split
  ·exact Ah.allL h0 l _ _ h1 w1
  ·exact h0.back h1
theorem Ah.all {N n B:Nat}{s:Tx.St}{fs:List Fr}(h:Ah N n s fs)(hw:Wf N n B s fs):Ah N n (allF s fs).s (allF s fs).fs:=h.allL _ _ _ h hw
noncomputable def actA (s:Tx.St) (fs:List Fr) (a:PkAct):Px×ByteArray:=
 if a.kind=8 then(⟨{s with disk:=Lg.armD s.disk a.n},fs,0⟩,⟨#[]⟩)else actF s fs a
theorem DkW.arm {M:Nat}{d:Lg.Dk}(h:DkW M d){n:Int}(hn:n≤9223372036854775807):DkW M (Lg.armD d n):=⟨h.sz,by
 show _≤(if n<0 then -1 else n)∧(if n<0 then -1 else n)≤_
 split<;>omega,h.len⟩
theorem DkW.start {M:Nat}{d:Lg.Dk}(h:DkW M d):DkW M (Lg.startD d):=⟨h.sz,by show _≤(-1:Int)∧(-1:Int)≤_;omega,h.len⟩
theorem Ah.disk {N n:Nat}{s:Tx.St}{fs:List Fr}(h:Ah N n s fs){d:Lg.Dk}(hd:d.sectors=s.disk.sectors):Ah N n {s with disk:=d} fs:=⟨fun p hp b hb=>h.dk p hp b (by rw[← hd];exact hb),h.fr⟩
theorem Ah.act {N n B:Nat}{s:Tx.St}{fs:List Fr}(h:Ah N n s fs)(hw:Wf N n B s fs)(a:PkAct)(ha:a.n≤9223372036854775807):Ah N n (actA s fs a).1.s (actA s fs a).1.fs∧Wf N n (B+1) (actA s fs a).1.s (actA s fs a).1.fs:=by
 have hm:=Nat.le_succ B
 unfold actA
 split
 ·exact⟨h.disk rfl,(hw.disk (hw.dk.arm ha)).more hm⟩
 ·unfold actF
  split
  ·exact⟨h.get hw _,by unfold getF;exact((hw.held _).1).more hm⟩
  ·split
   ·exact⟨h.pin hw _,(hw.pin _).1⟩
   ·split
    ·exact⟨h.unpin _,((hw.unpin _).1).more hm⟩
    ·split
     ·exact⟨h.change hw _ _ (doD_is a.o),((hw.change _ _ (doD_is a.o)).1).more hm⟩
     ·split
      ·exact⟨h.Flush hw _,((hw.Flush _).1).more hm⟩
      ·split
       ·exact⟨h.all hw,hw.all.1.more hm⟩
       ·exact⟨h.disk rfl,(hw.disk hw.dk.start).more hm⟩
theorem blank_ah {N n k:Nat}(hn:1≤n∧n≤60∧N≤3000)(hN:10≤N)(hk:1≤k∧k≤64):Ah N n (blankS N n k) (freeF k):=by
 have hw:=blank_wf hn hN hk
 refine⟨fun p hp b hb=>?_,fun i hi hb=>?_⟩
 ·have h1:(List.replicate (1+N+4*n) Lg.zero128)[1+N+4*p]? =some b:=hb
  have h2:b=Lg.zero128:=(List.mem_replicate.1 (List.mem_of_getElem? h1)).2
  have h3:lsn0 Lg.zero128=0:=by decide
  have h4:=hw.lb.s0
  rw[h2,h3]
  exact h4
 ·rw[Full,freeF_at hi]at hb;exact absurd rfl hb
theorem Ah.says {N n B:Nat}{s:Tx.St}{fs:List Fr}(h:Ah N n s fs)(hw:Wf N n B s fs){p:Nat}(hp:p<n)(hs:sealedP (pgAt (Lg.startD s.disk) (1+N+4*p))=true):(((leafP (pgAt (Lg.startD s.disk) (1+N+4*p))).lsn:Nat):Int)≤s.log.safe:=by
 unfold sealedP at hs
 rw[Bool.and_eq_true]at hs
 obtain⟨b,hb,e⟩:=lsn0_page hw.dk.start (a:=1+N+4*p) (by omega)
 rw[leaf_lsn hs.1,e]
 exact h.dk p hp b hb
theorem lmine_x (s:Tx.St)(p:SP)(fs:List Fr)(a:PkAct)(hk:a.kind<0∨8<a.kind)(w:World)(h:PoolR w s p fs):
 Calls Tryz.prog 9 #[storeV s p,.agg #[a.kind,a.page,a.n,a.o.kind,a.o.slot,a.o.old,a.o.new,a.p.r.lsn,a.p.r.prev,a.p.r.txn,a.p.r.kind,a.p.r.page,a.p.r.next,a.p.r.num,a.p.r.op.kind,a.p.r.op.slot,a.p.r.op.old,a.p.r.op.new,a.p.r.how,a.p.r.root,a.p.r.e.key,a.p.r.e.page,a.p.r.e.slot,.slice a.p.A a.p.r.txns.length a.p.c,.slice a.p.B a.p.r.dirty.length a.p.d]] w (GtR (actA s fs a) w):=by
 have HCA:=Hq (fun W=>start_any s.disk p.A p.c W)
 have HAF:=Hq (show actA s fs a=(⟨{s with disk:=Lg.startD s.disk},fs,0⟩,⟨#[]⟩)from by unfold actA actF;rw[if_neg (by omega),if_neg (by omega),if_neg (by omega),if_neg (by omega),if_neg (by omega),if_neg (by omega),if_neg (by omega)])
 have HP:=Hq (show PoolR w {s with disk:=Lg.startD s.disk} p fs from⟨⟨⟨h.st.dk.secs,h.st.dk.small⟩,h.st.dt,h.st.tx,h.st.tt⟩,h.fn,h.fr,h.ft⟩)
 have HQ:=Hq (fun w' (hb:Below w.heap.size w w')=>show GtR (actA s fs a) w (.returned (.tuple #[storeV {s with disk:=Lg.startD s.disk} p,"",()])) w' from by rw[HAF.out];exact⟨p,rfl,HP.out.below hb,hb⟩)
 generalize GtR (actA s fs a) w=Q at HQ ⊢
 clear h HAF HP
 have hk0:(a.kind==0)=false:=beq_eq_false_iff_ne.2 (by omega)
 have hk1:(a.kind==1)=false:=beq_eq_false_iff_ne.2 (by omega)
 have hk2:(a.kind==2)=false:=beq_eq_false_iff_ne.2 (by omega)
 have hk3:(a.kind==3)=false:=beq_eq_false_iff_ne.2 (by omega)
 have hk4:(a.kind==4)=false:=beq_eq_false_iff_ne.2 (by omega)
 have hk5:(a.kind==5)=false:=beq_eq_false_iff_ne.2 (by omega)
 have hk6:(a.kind==6)=false:=beq_eq_false_iff_ne.2 (by omega)
 have hk7:(a.kind==7)=false:=beq_eq_false_iff_ne.2 (by omega)
 have hk8:(a.kind==8)=false:=beq_eq_false_iff_ne.2 (by omega)
 clear hk
 go_enter Tryz.func9,Tryz.ntmps9
 go_upto_region 1 with fail
 have H0:=nW3 w (stA s p) 36 #[a.kind,a.page,a.n,a.o.kind,a.o.slot,a.o.old,a.o.new,a.p.r.lsn,a.p.r.prev,a.p.r.txn,a.p.r.kind,a.p.r.page,a.p.r.next,a.p.r.num,a.p.r.op.kind,a.p.r.op.slot,a.p.r.op.old,a.p.r.op.new,a.p.r.how,a.p.r.root,a.p.r.e.key,a.p.r.e.page,a.p.r.e.slot,.slice a.p.A a.p.r.txns.length a.p.c,.slice a.p.B a.p.r.dirty.length a.p.d] 49 #[(),(),(),'s',(),false,(),(),(),(),"",'s',(),'s',()] 36
 obtain⟨W0,hW0⟩:=exW H0
 rw[← hW0]at H0 ⊢
 clear hW0
 have hc0:=show W0.cell? ⟨w.heap.size+1,0,none⟩=some (.int .i64 a.kind)from by rw[blkCell H0.out.get1];rfl
 go_upto_region 21 with(first
  |(with_reducible refine lP #[.slice p.A s.disk.sectors.length p.c,s.disk.left,s.disk.down] H0.out.get0 Tryz.underlying28 ?_)
  |(go_at_call 10;(refine(HCA.out _).mono ?_);rintro e w1 ⟨rfl,hb1⟩;have H1:=Hq (H0.out.step hb1))
  |(with_reducible refine lU #[.slice p.A (Lg.startD s.disk).sectors.length p.c,.int .i64 (Lg.startD s.disk).left,.bool (Lg.startD s.disk).down] (stA {s with disk:=Lg.startD s.disk} p) H1.out.get0 ?_))
 have H2:=Hq (show BxL w.heap.size w [((stA {s with disk:=Lg.startD s.disk} p),36),(#[a.kind,a.page,a.n,a.o.kind,a.o.slot,a.o.old,a.o.new,a.p.r.lsn,a.p.r.prev,a.p.r.txn,a.p.r.kind,a.p.r.page,a.p.r.next,a.p.r.num,a.p.r.op.kind,a.p.r.op.slot,a.p.r.op.old,a.p.r.op.new,a.p.r.how,a.p.r.root,a.p.r.e.key,a.p.r.e.page,a.p.r.e.slot,.slice a.p.A a.p.r.txns.length a.p.c,.slice a.p.B a.p.r.dirty.length a.p.d],49),(#[(),(),(),'s',(),false,(),(),(),(),"",'s',(),'s',()],36)] (w1.setRow w.heap.size (stA {s with disk:=Lg.startD s.disk} p))from H1.out.row 0 (stA {s with disk:=Lg.startD s.disk} p) _ rfl)
 generalize w1.setRow w.heap.size (stA {s with disk:=Lg.startD s.disk} p)=w2 at H2 ⊢
 clear hb1 H0 H1 HCA hc0
 try simp only[Act.put]
 go_wp2_with (first|(with_reducible refine lL H2.out.get0 Tryz.underlying36 ?_)|(with_reducible refine lS (stA {s with disk:=Lg.startD s.disk} p) H2.out.get2 ?_))
 refine bodyPost_ret (v:=.tuple #[.agg (stA {s with disk:=Lg.startD s.disk} p),"",()]) (results_cell3 rfl _ _ rfl (load_whole (setRow_heap _ _ _ _ _ _ H2.out.get2) Tryz.underlying36 Kr Kr) rfl rfl) rfl ?_
 exact HQ.out _ (H2.out.row 2 (stA {s with disk:=Lg.startD s.disk} p) _ rfl).below
theorem lmine_8 (s:Tx.St)(p:SP)(fs:List Fr)(a:PkAct)(hk:a.kind=8)(w:World)(h:PoolR w s p fs):
 Calls Tryz.prog 9 #[storeV s p,.agg #[a.kind,a.page,a.n,a.o.kind,a.o.slot,a.o.old,a.o.new,a.p.r.lsn,a.p.r.prev,a.p.r.txn,a.p.r.kind,a.p.r.page,a.p.r.next,a.p.r.num,a.p.r.op.kind,a.p.r.op.slot,a.p.r.op.old,a.p.r.op.new,a.p.r.how,a.p.r.root,a.p.r.e.key,a.p.r.e.page,a.p.r.e.slot,.slice a.p.A a.p.r.txns.length a.p.c,.slice a.p.B a.p.r.dirty.length a.p.d]] w (GtR (actA s fs a) w):=by
 have HCA:=Hq (fun W=>arm_any s.disk p.A p.c a.n W)
 have HAF:=Hq (show actA s fs a=(⟨{s with disk:=Lg.armD s.disk a.n},fs,0⟩,⟨#[]⟩)from by unfold actA;rw[if_pos hk])
 have HP:=Hq (show PoolR w {s with disk:=Lg.armD s.disk a.n} p fs from⟨⟨⟨h.st.dk.secs,h.st.dk.small⟩,h.st.dt,h.st.tx,h.st.tt⟩,h.fn,h.fr,h.ft⟩)
 have HQ:=Hq (fun w' (hb:Below w.heap.size w w')=>show GtR (actA s fs a) w (.returned (.tuple #[storeV {s with disk:=Lg.armD s.disk a.n} p,"",()])) w' from by rw[HAF.out];exact⟨p,rfl,HP.out.below hb,hb⟩)
 generalize GtR (actA s fs a) w=Q at HQ ⊢
 clear h HAF HP
 have HK:=Hq hk
 clear hk
 go_enter Tryz.func9,Tryz.ntmps9
 go_upto_region 1 with fail
 have H0:=nW3 w (stA s p) 36 #[a.kind,a.page,a.n,a.o.kind,a.o.slot,a.o.old,a.o.new,a.p.r.lsn,a.p.r.prev,a.p.r.txn,a.p.r.kind,a.p.r.page,a.p.r.next,a.p.r.num,a.p.r.op.kind,a.p.r.op.slot,a.p.r.op.old,a.p.r.op.new,a.p.r.how,a.p.r.root,a.p.r.e.key,a.p.r.e.page,a.p.r.e.slot,.slice a.p.A a.p.r.txns.length a.p.c,.slice a.p.B a.p.r.dirty.length a.p.d] 49 #[(),(),(),'s',(),false,(),(),(),(),"",'s',(),'s',()] 36
 obtain⟨W0,hW0⟩:=exW H0
 rw[← hW0]at H0 ⊢
 clear hW0
 have hc0:=show W0.cell? ⟨w.heap.size+1,0,none⟩=some (.int .i64 8)from by rw[blkCell H0.out.get1,← HK.out];rfl
 have hc2:=show W0.cell? ⟨w.heap.size+1,2,none⟩=some (.int .i64 a.n)from by rw[blkCell H0.out.get1];rfl
 go_upto_region 21 with(first
  |(with_reducible refine lP #[.slice p.A s.disk.sectors.length p.c,s.disk.left,s.disk.down] H0.out.get0 Tryz.underlying28 ?_)
  |(go_at_call 38;(refine(HCA.out _).mono ?_);rintro e w1 ⟨rfl,hb1⟩;have H1:=Hq (H0.out.step hb1))
  |(with_reducible refine lU #[.slice p.A (Lg.armD s.disk a.n).sectors.length p.c,.int .i64 (Lg.armD s.disk a.n).left,.bool (Lg.armD s.disk a.n).down] (stA {s with disk:=Lg.armD s.disk a.n} p) H1.out.get0 ?_))
 have H2:=Hq (show BxL w.heap.size w [((stA {s with disk:=Lg.armD s.disk a.n} p),36),(#[a.kind,a.page,a.n,a.o.kind,a.o.slot,a.o.old,a.o.new,a.p.r.lsn,a.p.r.prev,a.p.r.txn,a.p.r.kind,a.p.r.page,a.p.r.next,a.p.r.num,a.p.r.op.kind,a.p.r.op.slot,a.p.r.op.old,a.p.r.op.new,a.p.r.how,a.p.r.root,a.p.r.e.key,a.p.r.e.page,a.p.r.e.slot,.slice a.p.A a.p.r.txns.length a.p.c,.slice a.p.B a.p.r.dirty.length a.p.d],49),(#[(),(),(),'s',(),false,(),(),(),(),"",'s',(),'s',()],36)] (w1.setRow w.heap.size (stA {s with disk:=Lg.armD s.disk a.n} p))from H1.out.row 0 (stA {s with disk:=Lg.armD s.disk a.n} p) _ rfl)
 generalize w1.setRow w.heap.size (stA {s with disk:=Lg.armD s.disk a.n} p)=w2 at H2 ⊢
 clear hb1 H0 H1 HCA hc0
 try simp only[Act.put]
 go_wp2_with (first|(with_reducible refine lL H2.out.get0 Tryz.underlying36 ?_)|(with_reducible refine lS (stA {s with disk:=Lg.armD s.disk a.n} p) H2.out.get2 ?_))
 refine bodyPost_ret (v:=.tuple #[.agg (stA {s with disk:=Lg.armD s.disk a.n} p),"",()]) (results_cell3 rfl _ _ rfl (load_whole (setRow_heap _ _ _ _ _ _ H2.out.get2) Tryz.underlying36 Kr Kr) rfl rfl) rfl ?_
 exact HQ.out _ (H2.out.row 2 (stA {s with disk:=Lg.armD s.disk a.n} p) _ rfl).below
theorem lmineA_any {N n B:Nat}(s:Tx.St)(p:SP)(fs:List Fr)(hW:Wf N n B s fs)(hB:B≤1000000)(a:PkAct)(hk:a.kind≠7)(hz:a.o.new.size≤140737488355328)(w:World)(hv:Vars w)(h:PoolR w s p fs):
 Calls Tryz.prog 9 #[storeV s p,.agg #[a.kind,a.page,a.n,a.o.kind,a.o.slot,a.o.old,a.o.new,a.p.r.lsn,a.p.r.prev,a.p.r.txn,a.p.r.kind,a.p.r.page,a.p.r.next,a.p.r.num,a.p.r.op.kind,a.p.r.op.slot,a.p.r.op.old,a.p.r.op.new,a.p.r.how,a.p.r.root,a.p.r.e.key,a.p.r.e.page,a.p.r.e.slot,.slice a.p.A a.p.r.txns.length a.p.c,.slice a.p.B a.p.r.dirty.length a.p.d]] w (GtR (actA s fs a) w):=by
 by_cases h8:a.kind=8
 ·exact lmine_8 s p fs a h8 w h
 ·by_cases h7:a.kind<7
  ·have e:actA s fs a=actF s fs a:=by unfold actA;rw[if_neg h8]
   rw[e]
   exact lmine_any s p fs hW hB a h7 hz w hv h
  ·exact lmine_x s p fs a (.inr (by omega)) w h
end Go.Proofs.YtdfkambdagoojaaGreatDoor
