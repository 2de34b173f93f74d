import Derived.Test.YtilakddepaplhaaGreatHb00
import Derived.Test.YtilakddepaplhaaGreatHb12
set_option maxRecDepth 100000
set_option maxHeartbeats 16000000
set_option linter.unusedSimpArgs false
namespace Lg
theorem secs_len {d:Dk}(hw:∀ b∈d.sectors,b.size≤128):∀ (n:Nat) {f:Int} {l:List UInt8},secsD d f n= .ok l→l.length≤n*128∧(n=0∨0≤f∧f+(n:Int)≤(d.sectors.length:Int)):=by
 intro n
 induction n with
 |zero=>intro f l h;unfold secsD at h;injection h with h;subst h;exact⟨by simp,.inl rfl⟩
 |succ n ih=>
  intro f l h
  unfold secsD at h
  split at h
  ·rename_i h1
   obtain⟨hh,hr⟩:=readD_in h1
   cases h2:secsD d (f+1) n with
   |error e=>rw[h2]at h;cases h
   |ok l2=>
    rw[h2]at h
    injection h with h
    obtain⟨i1,i2⟩:=ih h2
    have hs:(readD d f).1.size≤128:=by
     rw[hr];unfold secAt
     cases h3:d.sectors[f.toNat]? with
     |none=>show(0:Nat)≤128;omega
     |some b=>exact hw b (List.mem_of_getElem? h3)
    refine⟨?_,.inr ⟨hh.1,?_⟩⟩
    ·rw[← h,List.length_append]
     have:(readD d f).1.data.toList.length=(readD d f).1.size:=by simp
     omega
    ·rcases i2 with i2|i2
     ·subst i2;have:=hh.2;omega
     ·omega
  ·cases h
theorem getO_some {s:List UInt8}{a b:Nat}{r:Rc.Rec}(h:getO s a=some (r,b)):Rc.Right r∧a+8≤b∧b≤s.length:=by
 by_cases hI:Is s a
 ·rw[getO_yes hI]at h
  injection h with h
  injection h with h1 h2
  rw[← h1,← h2]
  exact⟨hI.2.2.1,by omega,hI.1⟩
 ·rw[getO_no hI]at h;cases h
theorem openL_none {s:List UInt8}{f a:Nat}(h:getO s a=none):openL s (f+1) a=([],a):=by unfold openL;rw[h]
theorem openL_stop {s:List UInt8}{f a b:Nat}{r:Rc.Rec}(h:getO s a=some (r,b))(hn:¬ r.lsn=(a:Int)+1):openL s (f+1) a=([],a):=by unfold openL;rw[h];simp only;rw[if_neg hn]
theorem openL_go {s:List UInt8}{f a b:Nat}{r:Rc.Rec}(h:getO s a=some (r,b))(hn:r.lsn=(a:Int)+1):openL s (f+1) a=(r::(openL s f b).1,(openL s f b).2):=by
 conv=>lhs;unfold openL
 rw[h]
 simp only
 rw[if_pos hn]
end Lg
namespace Go.Proofs.YtilakddepaplhaaGreat
open Go.RowKit
theorem ownSetOther {w v:World}{B g n size:Nat}{e t:TypeId}{x:Value}{xs:List Value}{cur:Array Value}{fr:Nat×Nat}(h:w.ownsRow B e size x n xs)(hg:w.heap[g]? =some (.cells cur t fr))(hne:e≠t)(ha:Apart g (g+1) w v):v.ownsRow B e size x n xs:=by
 refine⟨h.1,?_⟩
 rcases h.2 with hz|⟨g',cap,cur',hv,hgB,hh,r⟩
 ·exact .inl hz
 ·refine .inr ⟨g',cap,cur',hv,hgB,(ha.block g' (heapLt hh) ?_).trans hh,r⟩
  rcases Nat.lt_trichotomy g' g with h1|h1|h1
  ·exact .inl h1
  ·exfalso
   subst h1
   rw[hh]at hg
   injection hg with hg
   injection hg with _ ht
   exact hne ht
  ·exact .inr h1
structure PRec where
 r:Rc.Rec
 A:Option Addr
 c:Nat
 B:Option Addr
 d:Nat
def recC (p:PRec):List Value:=[.int .i64 p.r.lsn,.int .i64 p.r.prev,.int .i64 p.r.txn,.int .i64 p.r.kind,.int .i64 p.r.page,.int .i64 p.r.next,.int .i64 p.r.num,.int .i64 p.r.op.kind,.int .i64 p.r.op.slot,.string p.r.op.old,.string p.r.op.new,.int .i64 p.r.how,.int .i64 p.r.root,.string p.r.e.key,.int .i64 p.r.e.page,.int .i64 p.r.e.slot,.slice p.A p.r.txns.length p.c,.slice p.B p.r.dirty.length p.d]
theorem recC_len (p:PRec):(recC p).length=18:=rfl
theorem recC_one (p:PRec):∀ u∈recC p,u.oneCell'=true:=by
 intro u hu
 simp only[recC,List.mem_cons,List.not_mem_nil,or_false]at hu
 rcases hu with rfl|rfl|rfl|rfl|rfl|rfl|rfl|rfl|rfl|rfl|rfl|rfl|rfl|rfl|rfl|rfl|rfl|rfl<;>rfl
def RecsN (n:Nat)(w:World)(ps:List PRec):Prop:=∀ p∈ps,RecN n w p.r p.A p.c p.B p.d
theorem RecsN.nil (n:Nat)(w:World):RecsN n w []:=fun _ h=>by cases h
theorem RecsN.below {n:Nat}{w w':World}{ps:List PRec}(h:RecsN n w ps)(hb:Below w.heap.size w w'):RecsN n w' ps:=fun p hp=>(h p hp).below hb
theorem RecsN.mono {n m:Nat}{w:World}{ps:List PRec}(h:RecsN n w ps)(hm:m≤n):RecsN m w ps:=fun p hp=>(h p hp).mono hm
theorem RecsN.push {n:Nat}{w:World}{ps:List PRec}{p:PRec}(h:RecsN n w ps)(hp:RecN n w p.r p.A p.c p.B p.d):RecsN n w (ps++[p]):=fun q hq=>by
 rcases List.mem_append.1 hq with h1|h1
 ·exact h q h1
 ·rw[List.mem_singleton.1 h1];exact hp
theorem info_rec2:(Tryz.prog.info? 55).map (fun i=>(i.zero,i.size,i.bytes))=some (some (.agg zeroA),18,200):=by kernel_rfl
def OpenOut (x:Lg.Lo×List Rc.Rec×Int)(w:World)(e:Ending)(w':World):Prop:=
 ∃ ps v,ps.map (·.r)=x.2.1∧e= .returned (.tuple #[logV x.1,v,x.2.2])∧OwnL recC 18 55 w.heap.size w' v ps∧RecsN w.heap.size w' ps∧Below w.heap.size w w'
theorem open_any (d:Lg.Dk)(hw:∀ b∈d.sectors,b.size≤128)(hdl:d.sectors.length≤7000)(A:Option Addr)(c:Nat)(f0 n0:Int)(hf1: -9223372036854775808≤f0)(hf2:f0≤9223372036854775807)(hn:n0≤100000)(w:World)(h:DiskR w d A c):
 Calls Tryz.prog 20 #[diskV d A c,f0,n0] w (OpenOut (Lg.openD d f0 n0) w):=by
 have HS:=Hq (fun W (hb:Below w.heap.size w W)=>sectors_any d (fun b hb=>Nat.le_trans (hw b hb) (by omega)) A c f0 n0 hf1 hf2 hn W (h.below hb))
 have hlen:= @Lg.secs_len d hw n0.toNat f0
 have HO:=Hq (fun ps v w' x (hx:Lg.openD d f0 n0=x) (h1:ps.map (·.r)=x.2.1) (h2:OwnL recC 18 55 w.heap.size w' v ps) (h3:RecsN w.heap.size w' ps) (h4:Below w.heap.size w w')=>show OpenOut (Lg.openD d f0 n0) w (.returned (.tuple #[logV x.1,v,x.2.2])) w' from⟨ps,v,by rw[hx];exact h1,by rw[hx],h2,h3,h4⟩)
 have hdef:Lg.openD d f0 n0=Lg.openD d f0 n0:=rfl
 conv at hdef=>rhs;unfold Lg.openD
 have hne:= @Lg.secs_fault d n0.toNat f0
 generalize Lg.openD d f0 n0=o at HO hdef ⊢
 generalize OpenOut o w=Q at HO ⊢
 clear h hw
 cases hs:Lg.secsD d f0 n0.toNat with
 |error e=>
  rw[hs]at HS hdef
  have he:=hne hs
  simp only at hdef
  have HDEF:=Hq hdef
  have he1:(e==0)=false:=by simpa using he
  have he2:(e != 0)=true:=by simpa using he
  clear hdef hne hlen hs he hn hf1 hf2 hdl
  go_enter Tryz.func20,Tryz.ntmps20
  go_upto_region 1 with fail
  have H0:=nW2 w #[.slice A d.sectors.length c,d.left,d.down] 29 #[(),(),(),(),""] 31
  obtain⟨W0,hW0⟩:=exW H0
  rw[← hW0]at H0 ⊢
  clear hW0
  dsimp only[diskV]at HS
  go_wp2_with (first
   |(with_reducible refine lL H0.out.get0 Tryz.underlying29 ?_)
   |(go_at_call 42;(with_reducible refine(HS.out _ H0.out.below).mono ?_);rintro e1 w1 ⟨hb1,rfl⟩;(try dsimp only[secV]);have H1:=Hq (H0.out.step hb1);clear hb1)
   |(with_reducible refine lS #[(),(),(),(),""] H1.out.get1 ?_))
  refine bodyPost_ret (v:=.tuple #[.agg #[(),(),(),(),""],"s",e]) (results_cell3 rfl _ _ rfl (load_whole (setRow_heap _ _ _ _ _ _ H1.out.get1) Tryz.underlying31 Kr Kr) rfl rfl) rfl ?_
  exact HO.out [] _ _ (Lg.noLog,[],e) HDEF.out rfl (ownNil _ _ _ _) (RecsN.nil _ _) ((H1.out.row 1 _ _ rfl).below)
 |ok L=>
  rw[hs]at HS hdef
  simp only at hdef
  have hl2:=hlen hs
  have hLl:L.length≤1000000:=by
   rcases hl2.2 with h0|h0
   ·have:=hl2.1;rw[h0]at this;omega
   ·have:=hl2.1
    have h3:n0.toNat≤7000:=by omega
    omega
  have HDEF:=Hq hdef
  clear hdef hne hlen hs hn hf1 hf2 hdl hl2
  obtain⟨S,hS⟩:=ex (⟨L.toArray⟩:ByteArray)
  have hSl:S.data.toList=L:=by rw[hS]
  have hSs:S.size=L.length:=by rw[← hSl];simp
  have hSm:S.size≤1000000:=by omega
  have HG:=Hq (fun a W=>get_rec S a hSm W)
  rw[hSl]at HG
  have HSV:Hid (secV (.ok L)= .tuple #[S,()]):=Hq (by rw[hS];rfl)
  have HSL:=Hq hSl
  have HTL:=Hq (fun k m (hk:k≤S.size) (hm:m≤k)=>show(⟨((L.take k).drop (k-m)).toArray⟩:ByteArray)=S.extract (k-m) k from by
   rw[← HSL.out]
   apply ByteArray.ext
   rw[ByteArray.data_extract]
   apply Array.toList_inj.1
   rw[Array.toList_extract,List.extract_eq_take_drop,List.drop_take])
  rw[← hSs]at HDEF
  clear hS hSl hLl hSs
  go_enter Tryz.func20,Tryz.ntmps20
  go_upto_region 1 with fail
  have H0:=nW2 w #[.slice A d.sectors.length c,d.left,d.down] 29 #[(),(),(),(),""] 31
  obtain⟨W0,hW0⟩:=exW H0
  rw[← hW0]at H0 ⊢
  clear hW0
  dsimp only[diskV]at HS
  go_upto_block 0 with(first
   |(with_reducible refine lL H0.out.get0 Tryz.underlying29 ?_)
   |(go_at_call 42;(with_reducible refine(HS.out _ H0.out.below).mono ?_);rintro e1 w1 ⟨hb1,rfl⟩;rw[HSV.out];have H1:=Hq (H0.out.step hb1);clear hb1))
  clear H0 HS HSV
  go_cut [11,12] (fun v a wc=>∃ (ps:List PRec) (k:Nat),a= .int .i64 (k:Int)∧k≤S.size∧Lg.openL L (S.size+1) 0=(ps.map (·.r),k)∧BxL w.heap.size w [(#[.slice A d.sectors.length c,d.left,d.down],29),(#[(),(),(),(),""],31)] wc∧OwnL recC 18 55 (w.heap.size+2) wc v ps∧RecsN (w.heap.size+2) wc ps)
  case first=>
   go_wp2_with fail
   go_loopw [11,12] (fun v a wr=>∃ (ps:List PRec) (k f:Nat),a= .int .i64 (k:Int)∧k≤S.size∧S.size+1≤f+k∧ps.length≤k∧Lg.openL L (S.size+1) 0=(ps.map (·.r)++(Lg.openL L f k).1,(Lg.openL L f k).2)∧BxL w.heap.size w [(#[.slice A d.sectors.length c,d.left,d.down],29),(#[(),(),(),(),""],31)] wr∧OwnL recC 18 55 (w.heap.size+2) wr v ps∧RecsN (w.heap.size+2) wr ps) (fun _ a _=>S.size-(intOf a).toNat)
   case atStart=>exact⟨[],0,S.size+1,rfl,Nat.zero_le _,Nat.le_refl _,Nat.le_refl _,rfl,H1.out,ownNil _ _ _ _,RecsN.nil _ _⟩
   case round=>
    obtain⟨ps,k,f,rfl,hk,hf,hpk,hop,hbx,hown,hrs⟩:=hrel
    obtain⟨f,rfl⟩:∃ g,f=g+1:=⟨f-1,by omega⟩
    have HOP:=Hq hop
    have HB:=Hq hbx
    have HRS:=Hq hrs
    obtain⟨A8,c8,rfl⟩:=ownLen hown
    have HOW:=Hq hown
    clear hop hbx hrs hown H1
    have hGk:=HG.out k
    have hGN:= @Lg.openL_none L f k
    have hGS:= @Lg.openL_stop L f k
    have hGG:= @Lg.openL_go L f k
    have hGI:= @Lg.getO_some L k
    rw[show L.length=S.size by rw[← HSL.out];simp]at hGI
    cases hg:Lg.getO L k with
    |none=>
     rw[hg]at hGk
     have HGk:=Hq hGk
     have HX:=Hq (HOP.out.trans (by rw[hGN hg,List.append_nil]))
     clear hGk hGN hGS hGG hGI hg
     go_wp2_with (first
      |(go_at_call 43;(with_reducible refine(HGk.out _).mono ?_);rintro e w2 ⟨hb2,kk,hkk,rfl⟩;have he1:(kk==0)=false:=(by simpa using hkk);have he2:(kk != 0)=true:=(by simpa using hkk);clear hkk)
      |(with_reducible refine sN (rcA 0 0 0 0 0 0 0 0 0 ⟨#[]⟩ ⟨#[]⟩ 0 0 ⟨#[]⟩ 0 0 (.slice none 0 0) (.slice none 0 0)) ?_))
     go_meet
     case rel=>exact⟨ps,k,rfl,hk,HX.out,HB.out.step (pastAlloc hb2),ownBelow HOW.out (pastAlloc hb2),HRS.out.below (pastAlloc hb2)⟩
    |some rb=>
     obtain⟨r,b⟩:=rb
     rw[hg]at hGk
     have HGk:=Hq hGk
     obtain⟨_,hb8,hbs⟩:=hGI hg
     by_cases hl:r.lsn=(k:Int)+1
     ·have HX:=Hq (HOP.out.trans (by rw[hGG hg hl]))
      clear hGk hGN hGS hGG hGI hg
      obtain⟨lsn,prev,txn,kind,page,next,nu,⟨ok,os,oo,on⟩,how,root,⟨ek,ep,es⟩,ts,ds⟩:=r
      simp only at hl
      subst hl
      have hwk:IntKind.i64.wrap ((k:Int)+1)=(k:Int)+1:=IntWalk.i64_in _ (by omega)
      have hself:(((k:Int)+1) != ((k:Int)+1))=false:=by simp
      go_upto_region 8 with(first
       |(go_at_call 43;(with_reducible refine(HGk.out _).mono ?_);rintro e w2 ⟨hb2,A1,c1,D1,d1,rfl,hrr⟩;(try dsimp only[recV,recA]);have hx2:=blkCell (heap_alloc_new w2 (.cells (rcA ((k:Int)+1) prev txn kind page next nu ok os oo on how root ek ep es (.slice A1 ts.length c1) (.slice D1 ds.length d1)) 55));simp at hx2)
       |(with_reducible refine sN (rcA ((k:Int)+1) prev txn kind page next nu ok os oo on how root ek ep es (.slice A1 ts.length c1) (.slice D1 ds.length d1)) ?_))
      have HX2:=Hq (heap_alloc_new w2 (.cells (rcA ((k:Int)+1) prev txn kind page next nu ok os oo on how root ek ep es (.slice A1 ts.length c1) (.slice D1 ds.length d1)) 55))
      have HB2:=Hq (HB.out.step (pastAlloc (o:=.cells (rcA ((k:Int)+1) prev txn kind page next nu ok os oo on how root ek ep es (.slice A1 ts.length c1) (.slice D1 ds.length d1)) 55) hb2))
      have HO2:=Hq (ownBelow HOW.out (pastAlloc (o:=.cells (rcA ((k:Int)+1) prev txn kind page next nu ok os oo on how root ek ep es (.slice A1 ts.length c1) (.slice D1 ds.length d1)) 55) hb2))
      have HR2:=Hq ((HRS.out.below (pastAlloc (o:=.cells (rcA ((k:Int)+1) prev txn kind page next nu ok os oo on how root ek ep es (.slice A1 ts.length c1) (.slice D1 ds.length d1)) 55) hb2)).push (p:=⟨⟨(k:Int)+1,prev,txn,kind,page,next,nu,⟨ok,os,oo,on⟩,how,root,⟨ek,ep,es⟩,ts,ds⟩,A1,c1,D1,d1⟩) ((hrr.mono (by have h1:=HB.out.lt (i:=1) (by simp);omega)).below (allocB w2 _)))
      obtain⟨g,hge⟩:=ex w2.heap.size
      obtain⟨w3,hw3⟩:=ex (w2.alloc (.cells (rcA ((k:Int)+1) prev txn kind page next nu ok os oo on how root ek ep es (.slice A1 ts.length c1) (.slice D1 ds.length d1)) 55))
      rw[← hge,← hw3]at HX2
      rw[← hw3]at HB2 HO2 HR2
      try rw[← hge]
      try rw[← hw3]
      clear hge hw3 hx2 hb2 hrr HOW HRS HB HGk hself
      have hll:ps.length+1≤1048576:=by omega
      go_wp2_with (first
       |(with_reducible refine lL HX2.out Tryz.underlying55 ?_)
       |(at_builtin;refine wpList_push Kr (.tmp 44) (.tmp 46) 62 55 Tryz.underlying62 info_rec2 rfl (by omega) (by omega) rfl (w.heap.size+2) _ ps.length (ps.flatMap recC) rfl (ownBelow HO2.out (allocB _ _)) w3.heap.size (recC ⟨⟨(k:Int)+1,prev,txn,kind,page,next,nu,⟨ok,os,oo,on⟩,how,root,⟨ek,ep,es⟩,ts,ds⟩,A1,c1,D1,d1⟩) 55 rfl (heap_alloc_new w3 _) rfl (recC_one _) hll (by have:=HB2.out.lt (i:=1) (by simp);simp;omega) ?_;intro v7 w7 ho hg hb;have hR7:=fun q hq=>((HR2.out.below (allocB w3 (.cells (rcA ((k:Int)+1) prev txn kind page next nu ok os oo on how root ek ep es (.slice A1 ts.length c1) (.slice D1 ds.length d1)) 55))) q hq).grown (ownBelow HO2.out (allocB w3 (.cells (rcA ((k:Int)+1) prev txn kind page next nu ok os oo on how root ek ep es (.slice A1 ts.length c1) (.slice D1 ds.length d1)) 55))) (by decide) (by decide) hg;have HB7:=Hq ((HB2.out.step (allocB w3 (.cells (rcA ((k:Int)+1) prev txn kind page next nu ok os oo on how root ek ep es (.slice A1 ts.length c1) (.slice D1 ds.length d1)) 55))).under (M:=w.heap.size+2) (Nat.le_refl _) hb);have HO7:=Hq (OwnL.push (enc:=recC) ho);have HR7:=Hq hR7;clear ho hg hb hR7))
      go_roundw
      case rel=>exact⟨_,b,f,rfl,hbs,by omega,by rw[List.length_append,List.length_singleton];omega,by rw[HX.out,List.map_append,List.append_assoc];rfl,HB7.out,HO7.out,HR7.out⟩
      case measure=>simp[intOf];omega
     ·have HX:=Hq (HOP.out.trans (by rw[hGS hg hl,List.append_nil]))
      clear hGk hGN hGS hGG hGI hg
      obtain⟨lsn,prev,txn,kind,page,next,nu,⟨ok,os,oo,on⟩,how,root,⟨ek,ep,es⟩,ts,ds⟩:=r
      simp only at hl
      have hwk:IntKind.i64.wrap ((k:Int)+1)=(k:Int)+1:=IntWalk.i64_in _ (by omega)
      have hl1:(lsn==((k:Int)+1))=false:=by simpa using hl
      have hl2:(lsn != ((k:Int)+1))=true:=by simpa using hl
      clear hl
      go_wp2_with (first
       |(go_at_call 43;(with_reducible refine(HGk.out _).mono ?_);rintro e w2 ⟨hb2,A1,c1,D1,d1,rfl,hrr⟩;(try dsimp only[recV,recA]);have hx2:=blkCell (heap_alloc_new w2 (.cells (rcA lsn prev txn kind page next nu ok os oo on how root ek ep es (.slice A1 ts.length c1) (.slice D1 ds.length d1)) 55));simp at hx2)
       |(with_reducible refine sN (rcA lsn prev txn kind page next nu ok os oo on how root ek ep es (.slice A1 ts.length c1) (.slice D1 ds.length d1)) ?_))
      go_meet
      case rel=>exact⟨ps,k,rfl,hk,HX.out,HB.out.step (pastAlloc hb2),ownBelow HOW.out (pastAlloc hb2),HRS.out.below (pastAlloc hb2)⟩
  case rest=>
   obtain⟨ps,k,rfl,hk,hop,hbx,hown,hrs⟩:=hcut
   obtain⟨wb,rfl⟩:=ex wc
   obtain⟨A8,c8,rfl⟩:=ownLen hown
   have HB2:=Hq hbx
   have HO2:=Hq hown
   have HR2:=Hq hrs
   obtain⟨m,hm⟩:=ex (k%128:Nat)
   have hmI:(k:Int)%128=(m:Int):=by omega
   have hwm:IntKind.i64.wrap ((k:Int)-(m:Int))=(k:Int)-(m:Int):=IntWalk.i64_in _ (by omega)
   have hm1:(0:Int)≤(k:Int)-(m:Int):=by omega
   have hm2:(k:Int)-(m:Int)≤(k:Int):=by omega
   have hm3:(k:Int)≤(S.size:Int):=by omega
   have hm4:((k:Int)-(m:Int)).toNat=k-m:=by omega
   have HFIN:=Hq (show o=(⟨f0,n0,(k:Int),(k:Int),S.extract (k-m) k⟩,ps.map (·.r),0)from by
    rw[HDEF.out,hop]
    simp only
    rw[← hm,HTL.out k m hk (by omega)])
   clear hop hbx hown hrs H1 HDEF HTL HG HSL hm
   have HNW:=Hq (fun W=>lnew_any f0 n0 W)
   dsimp only[logV]at HNW
   go_upto_region 11 with(first
    |(go_at_call 24;(with_reducible refine(HNW.out _).mono ?_);rintro e w4 ⟨rfl,hb4⟩)
    |(with_reducible refine sN #[f0,n0,(),(),""] ?_))
   have HL5:=Hq (heap_alloc_new w4 (.cells #[f0,n0,(),(),""] 31))
   have HB5:=Hq (HB2.out.step (pastAlloc (o:=.cells #[f0,n0,(),(),""] 31) hb4))
   have HO5:=Hq (ownBelow HO2.out (pastAlloc (o:=.cells #[f0,n0,(),(),""] 31) hb4))
   have HR5:=Hq (HR2.out.below (pastAlloc (o:=.cells #[f0,n0,(),(),""] 31) hb4))
   have hg4:w.heap.size+2≤w4.heap.size:=by have h1:=HB2.out.lt (i:=1) (by simp);have:=hb4.size;omega
   obtain⟨g,hge⟩:=ex w4.heap.size
   obtain⟨w5,hw5⟩:=ex (w4.alloc (.cells #[f0,n0,(),(),""] 31))
   rw[← hge,← hw5]at HL5
   rw[← hw5]at HB5 HO5 HR5 ⊢
   rw[← hge]at hg4 ⊢
   clear hge hw5 hb4 HB2 HO2 HR2 HNW
   have hcl:=blkCell HL5.out
   have hzl:=blkFrozen HL5.out
   go_upto_region 12 with fail
   have HL6:=Hq (show((w5.setCell ⟨g,2,none⟩ (.int .i64 (k:Int))).setCell ⟨g,3,none⟩ (.int .i64 (k:Int))).heap[g]? =some (.cells #[f0,n0,.int .i64 (k:Int),.int .i64 (k:Int),""] 31 (0,0))from by have h:=blkSet 3 (blkSet 2 HL5.out (.int .i64 (k:Int))) (.int .i64 (k:Int));simpa using h)
   have hcl6:=blkCell HL6.out
   have hzl6:=blkFrozen HL6.out
   clear hcl hzl
   go_upto_region 13 with fail
   have HL7:=Hq (show(((w5.setCell ⟨g,2,none⟩ (.int .i64 (k:Int))).setCell ⟨g,3,none⟩ (.int .i64 (k:Int))).setCell ⟨g,4,none⟩ (.string (S.extract (k-m) k))).heap[g]? =some (.cells #[f0,n0,.int .i64 (k:Int),.int .i64 (k:Int),.string (S.extract (k-m) k)] 31 (0,0))from by have h:=blkSet 4 HL6.out (.string (S.extract (k-m) k));simpa using h)
   have HAP:=Hq ((((Apart.refl g (g+1) w5).cell g 2 (.int .i64 (k:Int)) (Nat.le_refl _) (Nat.lt_succ_self _)).cell g 3 (.int .i64 (k:Int)) (Nat.le_refl _) (Nat.lt_succ_self _)).cell g 4 (.string (S.extract (k-m) k)) (Nat.le_refl _) (Nat.lt_succ_self _))
   have HBE:=Hq (show Below g w5 (((w5.setCell ⟨g,2,none⟩ (.int .i64 (k:Int))).setCell ⟨g,3,none⟩ (.int .i64 (k:Int))).setCell ⟨g,4,none⟩ (.string (S.extract (k-m) k)))from(((Below.refl g w5).setCell (p:=⟨g,2,none⟩) (Nat.le_refl _) _).setCell (p:=⟨g,3,none⟩) (Nat.le_refl _) _).setCell (p:=⟨g,4,none⟩) (Nat.le_refl _) _)
   have HB7:=Hq (HB5.out.under (M:=g) (by show w.heap.size+2≤g;exact hg4) HBE.out)
   have HO7:=Hq (ownSetOther HO5.out HL5.out (by decide) HAP.out)
   have HR7:=Hq (show RecsN (w.heap.size+2) _ ps from fun p hp=>(HR5.out p hp).turn HAP.out.size (fun j cs T fr hj hjc hT=>HAP.out.block j (heapLt hjc) (by
    rcases Nat.lt_trichotomy j g with h1|h1|h1
    ·exact .inl h1
    ·exfalso
     subst h1
     rw[HL5.out]at hjc
     injection hjc with hjc
     injection hjc with _ hjc
     rcases hT with h3|h3
     ·rw[h3]at hjc;exact absurd hjc (by decide)
     ·rw[h3]at hjc;exact absurd hjc (by decide)
    ·exact .inr h1)))
   generalize (((w5.setCell ⟨g,2,none⟩ (.int .i64 (k:Int))).setCell ⟨g,3,none⟩ (.int .i64 (k:Int))).setCell ⟨g,4,none⟩ (.string (S.extract (k-m) k)))=w7 at HL7 HB7 HO7 HR7 ⊢
   clear HL5 HL6 HAP HBE HB5 HO5 HR5 hcl6 hzl6
   go_wp2_with (first
    |(with_reducible refine lL HL7.out Tryz.underlying31 ?_)
    |(with_reducible refine lS #[f0,n0,.int .i64 (k:Int),.int .i64 (k:Int),.string (S.extract (k-m) k)] HB7.out.get1 ?_))
   refine bodyPost_ret (v:=.tuple #[.agg #[f0,n0,.int .i64 (k:Int),.int .i64 (k:Int),.string (S.extract (k-m) k)],.slice A8 ps.length c8,()]) (results_cell3 rfl _ _ rfl (load_whole (setRow_heap _ _ _ _ _ _ HB7.out.get1) Tryz.underlying31 Kr Kr) rfl rfl) rfl ?_
   exact HO.out ps _ _ (⟨f0,n0,(k:Int),(k:Int),S.extract (k-m) k⟩,ps.map (·.r),0) HFIN.out rfl (ownMono (ownRowOff HO7.out _ _ (by omega)) (by omega)) (fun p hp=>((HR7.out p hp).row _ _ (by omega)).mono (by omega)) ((HB7.out.row 1 _ _ rfl).below)
end Go.Proofs.YtilakddepaplhaaGreat
