import Derived.Test.YtilakddepaplhaaGreatHb00
import Derived.Test.YtilakddepaplhaaGreatHb12
set_option maxRecDepth 100000
set_option maxHeartbeats 16000000
set_option linter.unusedSimpArgs false
namespace Lg
theorem secs_len {d:Dk}(hw:∀ b∈d.sectors,b.size≤128):∀ (n:Nat) {f:Int} {l:List UInt8},secsD d f n= .ok l→l.length≤n*128∧(n=0∨0≤f∧f+(n:Int)≤(d.sectors.length:Int)):=by
 intro n
 induction n with
 |zero=>intro f l h;unfold secsD at h;injection h with h;subst h;exact⟨by simp,.inl rfl⟩
 |succ n ih=>
  intro f l h
  unfold secsD at h
  split at h
  ·rename_i h1
   obtain⟨hh,hr⟩:=readD_in h1
   cases h2:secsD d (f+1) n with
   |error e=>rw[h2]at h;cases h
   |ok l2=>
    rw[h2]at h
    injection h with h
    obtain⟨i1,i2⟩:=ih h2
    have hs:(readD d f).1.size≤128:=by
     rw[hr];unfold secAt
     cases h3:d.sectors[f.toNat]? with
     |none=>show(0:Nat)≤128;omega
     |some b=>exact hw b (List.mem_of_getElem? h3)
    refine⟨?_,.inr ⟨hh.1,?_⟩⟩
    ·rw[← h,List.length_append]
     have:(readD d f).1.data.toList.length=(readD d f).1.size:=by simp
     omega
    ·rcases i2 with i2|i2
     ·subst i2;have:=hh.2;omega
     ·omega
  ·cases h
end Lg
namespace Go.Proofs.YtilakddepaplhaaGreat
open Go.RowKit
structure PRec where
 r:Rc.Rec
 A:Option Addr
 c:Nat
 B:Option Addr
 d:Nat
def RecsN (n:Nat)(w:World)(ps:List PRec):Prop:=∀ p∈ps,RecN n w p.r p.A p.c p.B p.d
theorem RecsN.nil (n:Nat)(w:World):RecsN n w []:=fun _ h=>by cases h
theorem RecsN.below {n:Nat}{w w':World}{ps:List PRec}(h:RecsN n w ps)(hb:Below w.heap.size w w'):RecsN n w' ps:=fun p hp=>(h p hp).below hb
theorem RecsN.mono {n m:Nat}{w:World}{ps:List PRec}(h:RecsN n w ps)(hm:m≤n):RecsN m w ps:=fun p hp=>(h p hp).mono hm
theorem RecsN.push {n:Nat}{w:World}{ps:List PRec}{p:PRec}(h:RecsN n w ps)(hp:RecN n w p.r p.A p.c p.B p.d):RecsN n w (ps++[p]):=fun q hq=>by
 rcases List.mem_append.1 hq with h1|h1
 ·exact h q h1
 ·rw[List.mem_singleton.1 h1];exact hp
def ReadOut (x:Except Int Rc.Rec)(w:World)(e:Ending)(w':World):Prop:=
 Below w.heap.size w w'∧match x with
 | .ok r=>∃ A c B d,e= .returned (.tuple #[recV r (.slice A r.txns.length c) (.slice B r.dirty.length d),()])∧RecN w.heap.size w' r A c B d
 | .error k=>e= .returned (.tuple #[.agg zeroA,k])
theorem read_err {x:Except Int Rc.Rec}{k:Int}(h:x= .error k){w w':World}(hb:Below w.heap.size w w'){e:Ending}(he:e= .returned (.tuple #[.agg zeroA,k])):ReadOut x w e w':=by
 subst h;exact⟨hb,he⟩
theorem logread_any (d:Lg.Dk)(hw:∀ b∈d.sectors,b.size≤128)(hdl:d.sectors.length≤7000)(A:Option Addr)(c:Nat)(fr n en sf:Int)(tl:ByteArray)(he0:0≤en)(he1:en≤10000000)(hf0: -1000000000≤fr)(hf1:fr≤1000000000)(ht:tl.size≤100000)(hte:(tl.size:Int)≤en)(lsn:Int)(w:World)(h:DiskR w d A c):
 Calls Tryz.prog 15 #[diskV d A c,.agg #[fr,n,en,sf,tl],lsn] w (ReadOut (Lg.readL d ⟨fr,n,en,sf,tl⟩ lsn) w):=by
 have HO:=Hq (fun k (hk:Lg.readL d ⟨fr,n,en,sf,tl⟩ lsn= .error k) w' (hb:Below w.heap.size w w') (e:Ending) (he:e= .returned (.tuple #[.agg zeroA,k]))=>read_err (e:=e) hk hb he)
 have HOK:=Hq (fun r (hk:Lg.readL d ⟨fr,n,en,sf,tl⟩ lsn= .ok r) w' (hb:Below w.heap.size w w') A1 c1 D1 d1 (hr:RecN w.heap.size w' r A1 c1 D1 d1)=>show ReadOut (Lg.readL d ⟨fr,n,en,sf,tl⟩ lsn) w (.returned (.tuple #[recV r (.slice A1 r.txns.length c1) (.slice D1 r.dirty.length d1),()])) w' from by
  rw[hk];exact⟨hb,A1,c1,D1,d1,rfl,hr⟩)
 have hdef:Lg.readL d ⟨fr,n,en,sf,tl⟩ lsn=Lg.readL d ⟨fr,n,en,sf,tl⟩ lsn:=rfl
 conv at hdef=>rhs;unfold Lg.readL
 generalize Lg.readL d ⟨fr,n,en,sf,tl⟩ lsn=o at HO HOK hdef ⊢
 generalize ReadOut o w=Q at HO HOK ⊢
 by_cases hin:lsn<1∨en<lsn
 ·rw[if_pos hin]at hdef
  have HDEF:=Hq hdef
  clear hdef h hw
  by_cases h1:lsn<1
  ·clear hin
   go_enter Tryz.func15,Tryz.ntmps15
   go_upto_region 1 with fail
   have H0:=nW3 w #[.slice A d.sectors.length c,d.left,d.down] 29 #[fr,n,en,sf,tl] 31 (rcA 0 0 0 0 0 0 0 0 0 ⟨#[]⟩ ⟨#[]⟩ 0 0 ⟨#[]⟩ 0 0 (.slice none 0 0) (.slice none 0 0)) 55
   obtain⟨W0,hW0⟩:=exW H0
   rw[← hW0]at H0 ⊢
   clear hW0
   have hc0:=blkCell H0.out.get1
   go_wp2_with (first|(with_reducible refine lS (rcA 0 0 0 0 0 0 0 0 0 ⟨#[]⟩ ⟨#[]⟩ 0 0 ⟨#[]⟩ 0 0 (.slice none 0 0) (.slice none 0 0)) H0.out.get2 ?_))
   refine bodyPost_ret (v:=.tuple #[.agg (rcA 0 0 0 0 0 0 0 0 0 ⟨#[]⟩ ⟨#[]⟩ 0 0 ⟨#[]⟩ 0 0 (.slice none 0 0) (.slice none 0 0)),.int .i64 21]) (results_cell2 rfl _ _ rfl (load_whole (setRow_heap _ _ _ _ _ _ H0.out.get2) Tryz.underlying55 Kr Kr) rfl) rfl ?_
   exact HO.out _ HDEF.out _ ((H0.out.row 2 _ _ rfl).below) _ rfl
  ·have h2:en<lsn:=by omega
   clear hin
   go_enter Tryz.func15,Tryz.ntmps15
   go_upto_region 1 with fail
   have H0:=nW3 w #[.slice A d.sectors.length c,d.left,d.down] 29 #[fr,n,en,sf,tl] 31 (rcA 0 0 0 0 0 0 0 0 0 ⟨#[]⟩ ⟨#[]⟩ 0 0 ⟨#[]⟩ 0 0 (.slice none 0 0) (.slice none 0 0)) 55
   obtain⟨W0,hW0⟩:=exW H0
   rw[← hW0]at H0 ⊢
   clear hW0
   have hc0:=blkCell H0.out.get1
   go_wp2_with (first|(with_reducible refine lS (rcA 0 0 0 0 0 0 0 0 0 ⟨#[]⟩ ⟨#[]⟩ 0 0 ⟨#[]⟩ 0 0 (.slice none 0 0) (.slice none 0 0)) H0.out.get2 ?_))
   refine bodyPost_ret (v:=.tuple #[.agg (rcA 0 0 0 0 0 0 0 0 0 ⟨#[]⟩ ⟨#[]⟩ 0 0 ⟨#[]⟩ 0 0 (.slice none 0 0) (.slice none 0 0)),.int .i64 21]) (results_cell2 rfl _ _ rfl (load_whole (setRow_heap _ _ _ _ _ _ H0.out.get2) Tryz.underlying55 Kr Kr) rfl) rfl ?_
   exact HO.out _ HDEF.out _ ((H0.out.row 2 _ _ rfl).below) _ rfl
 ·rw[if_neg hin]at hdef
  have hn1:¬ lsn<1:=fun h=>hin (.inl h)
  have hn2:¬ en<lsn:=fun h=>hin (.inr h)
  have hl1:1≤lsn:=by omega
  have hl2:lsn≤en:=by omega
  obtain⟨Bs,hBs⟩:=ex ((en-(tl.size:Int))/128:Int)
  obtain⟨Fi,hFi⟩:=ex (min ((lsn-1)/128) Bs:Int)
  simp only[← hBs,← hFi]at hdef
  have hB0:0≤Bs:=by omega
  have hB1:Bs≤100000:=by omega
  have hF0:0≤Fi:=by omega
  have hF1:Fi≤Bs:=by omega
  have hF2:Fi*128≤lsn-1:=by omega
  have HS:=Hq (fun W (hb:Below w.heap.size w W)=>sectors_any d (fun b hb=>Nat.le_trans (hw b hb) (by omega)) A c (fr+Fi) (Bs-Fi) (by omega) (by omega) (by omega) W (h.below hb))
  have hlen:= @Lg.secs_len d hw (Bs-Fi).toNat (fr+Fi)
  have hne:= @Lg.secs_fault d (Bs-Fi).toNat (fr+Fi)
  obtain⟨q,hq⟩:=Int.eq_ofNat_of_zero_le (show 0≤lsn-1-Fi*128 by omega)
  have hq2:(lsn-1-Fi*128).toNat=q:=by omega
  rw[hq2]at hdef
  have hwq1:IntKind.i64.wrap (en-(tl.size:Int))=en-(tl.size:Int):=IntWalk.i64_in _ (by omega)
  have hwq2:IntKind.i64.wrap (lsn-1)=lsn-1:=IntWalk.i64_in _ (by omega)
  have hwq3:IntKind.i64.wrap (fr+Fi)=fr+Fi:=IntWalk.i64_in _ (by omega)
  have hwq4:IntKind.i64.wrap (Bs-Fi)=Bs-Fi:=IntWalk.i64_in _ (by omega)
  have hwq5:IntKind.i64.wrap (Fi*128)=Fi*128:=IntWalk.i64_in _ (by omega)
  have hwq6:IntKind.i64.wrap (lsn-1-Fi*128)=(q:Int):=by rw[hq];exact IntWalk.i64_in _ (by omega)
  have hp1:0≤en-(tl.size:Int):=by omega
  have hp2:0≤lsn-1:=by omega
  have HBS:=Hq hBs
  have HFI:=Hq hFi
  have HQ:=Hq hq
  clear h hw hq2 hBs hFi hin
  cases hs:Lg.secsD d (fr+Fi) (Bs-Fi).toNat with
  |error e=>
   rw[hs]at HS hdef
   simp only at hdef
   have he:=hne hs
   have HDEF:=Hq hdef
   have he1:(e==0)=false:=by simpa using he
   have he2:(e != 0)=true:=by simpa using he
   clear hdef hne hlen hs he hq
   go_enter Tryz.func15,Tryz.ntmps15
   go_upto_region 1 with fail
   have H0:=nW3 w #[.slice A d.sectors.length c,d.left,d.down] 29 #[fr,n,en,sf,tl] 31 (rcA 0 0 0 0 0 0 0 0 0 ⟨#[]⟩ ⟨#[]⟩ 0 0 ⟨#[]⟩ 0 0 (.slice none 0 0) (.slice none 0 0)) 55
   obtain⟨W0,hW0⟩:=exW H0
   rw[← hW0]at H0 ⊢
   clear hW0
   have hc0:=blkCell H0.out.get1
   go_upto_region 4 with fail
   go_upto_region 5 with fail
   rw[← HBS.out,← HFI.out]
   dsimp only[diskV]at HS
   go_wp2_with (first
    |(with_reducible refine lL H0.out.get0 Tryz.underlying29 ?_)
    |(go_at_call 42;(try rw[← HBS.out]);(with_reducible refine(HS.out _ H0.out.below).mono ?_);rintro e1 w1 ⟨hb1,rfl⟩;(try dsimp only[secV]);have H1:=Hq (H0.out.step hb1);clear hb1)
    |(with_reducible refine lS (rcA 0 0 0 0 0 0 0 0 0 ⟨#[]⟩ ⟨#[]⟩ 0 0 ⟨#[]⟩ 0 0 (.slice none 0 0) (.slice none 0 0)) H1.out.get2 ?_))
   refine bodyPost_ret (v:=.tuple #[.agg (rcA 0 0 0 0 0 0 0 0 0 ⟨#[]⟩ ⟨#[]⟩ 0 0 ⟨#[]⟩ 0 0 (.slice none 0 0) (.slice none 0 0)),e]) (results_cell2 rfl _ _ rfl (load_whole (setRow_heap _ _ _ _ _ _ H1.out.get2) Tryz.underlying55 Kr Kr) rfl) rfl ?_
   exact HO.out _ HDEF.out _ ((H1.out.row 2 _ _ rfl).below) _ rfl
  |ok L=>
   rw[hs]at HS hdef
   simp only at hdef
   have hl2':=hlen hs
   have hLl:L.length≤896000:=by
    rcases hl2'.2 with h0|h0
    ·have:=hl2'.1;rw[h0]at this;omega
    ·have:=hl2'.1
     have h3:(Bs-Fi).toNat≤7000:=by omega
     omega
   obtain⟨S,hS⟩:=ex (⟨L.toArray⟩:ByteArray)
   have hSl:S.data.toList=L:=by rw[hS]
   have hSs:S.size=L.length:=by rw[← hSl];simp
   have hSm:S.size≤896000:=by omega
   have hadd:∀ W:World,(Op.stringOp .add S tl).run Tryz.prog W= .ok (.string (S++tl)) W:=fun W=>run_string_add_sum W _ _ (by omega)
   have hTl:(S++tl).data.toList=L++tl.data.toList:=by rw[ByteArray.data_append,Array.toList_append,hSl]
   have hTs:(S++tl).size≤1000000:=by rw[ByteArray.size_append];omega
   have HG:=Hq (fun W=>get_rec (S++tl) q hTs W)
   rw[hTl]at HG
   have HSV:Hid (secV (.ok L)= .tuple #[S,()]):=Hq (by rw[hS];rfl)
   generalize S++tl=St at HG hadd
   clear hS hSl hLl hSs hTl hTs hl2' hlen hne hs hq
   cases hg:Lg.getO (L++tl.data.toList) q with
   |none=>
    rw[hg]at HG hdef
    have HDEF:=Hq hdef
    clear hdef hg
    go_enter Tryz.func15,Tryz.ntmps15
    go_upto_region 1 with fail
    have H0:=nW3 w #[.slice A d.sectors.length c,d.left,d.down] 29 #[fr,n,en,sf,tl] 31 (rcA 0 0 0 0 0 0 0 0 0 ⟨#[]⟩ ⟨#[]⟩ 0 0 ⟨#[]⟩ 0 0 (.slice none 0 0) (.slice none 0 0)) 55
    obtain⟨W0,hW0⟩:=exW H0
    rw[← hW0]at H0 ⊢
    clear hW0
    have hc0:=blkCell H0.out.get1
    go_upto_region 4 with fail
    go_upto_region 5 with fail
    rw[← HBS.out,← HFI.out]
    dsimp only[diskV]at HS
    go_wp2_with (first
     |(with_reducible refine lL H0.out.get0 Tryz.underlying29 ?_)
     |(go_at_call 42;(try rw[← HBS.out]);(with_reducible refine(HS.out _ H0.out.below).mono ?_);rintro e1 w1 ⟨hb1,rfl⟩;rw[HSV.out];have H1:=Hq (H0.out.step hb1);have hc1:=blkCell H1.out.get1;clear hb1)
     |(go_at_call 43;(with_reducible refine(HG.out _).mono ?_);rintro e w2 ⟨hb2,kk,hkk,rfl⟩;have he1:(kk==0)=false:=(by simpa using hkk);have he2:(kk != 0)=true:=(by simpa using hkk);have H2:=Hq (H1.out.step (pastAlloc (o:=.cells (rcA 0 0 0 0 0 0 0 0 0 ⟨#[]⟩ ⟨#[]⟩ 0 0 ⟨#[]⟩ 0 0 (.slice none 0 0) (.slice none 0 0)) 55) hb2));clear hkk hb2)
     |(with_reducible refine sN (rcA 0 0 0 0 0 0 0 0 0 ⟨#[]⟩ ⟨#[]⟩ 0 0 ⟨#[]⟩ 0 0 (.slice none 0 0) (.slice none 0 0)) ?_)
     |(with_reducible refine lS (rcA 0 0 0 0 0 0 0 0 0 ⟨#[]⟩ ⟨#[]⟩ 0 0 ⟨#[]⟩ 0 0 (.slice none 0 0) (.slice none 0 0)) H2.out.get2 ?_))
    refine bodyPost_ret (v:=.tuple #[.agg (rcA 0 0 0 0 0 0 0 0 0 ⟨#[]⟩ ⟨#[]⟩ 0 0 ⟨#[]⟩ 0 0 (.slice none 0 0) (.slice none 0 0)),.int .i64 21]) (results_cell2 rfl _ _ rfl (load_whole (setRow_heap _ _ _ _ _ _ H2.out.get2) Tryz.underlying55 Kr Kr) rfl) rfl ?_
    exact HO.out _ HDEF.out _ ((H2.out.row 2 _ _ rfl).below) _ rfl
   |some rb=>
    obtain⟨r,b⟩:=rb
    rw[hg]at HG hdef
    simp only at hdef
    clear hg
    by_cases hl:r.lsn=lsn
    ·rw[if_pos hl]at hdef
     have HF:=Hq (fun w' hb A1 c1 D1 d1 hr=>HOK.out r hdef w' hb A1 c1 D1 d1 hr)
     clear hdef HOK
     obtain⟨lsn0,prev,txn,kind,page,next,nu,⟨ok,os,oo,on⟩,how,root,⟨ek,ep,es⟩,ts,ds⟩:=r
     simp only at hl
     subst hl
     have hself:(lsn0 != lsn0)=false:=by simp
     dsimp only[recV,recA]at HF
     go_enter Tryz.func15,Tryz.ntmps15
     go_upto_region 1 with fail
     have H0:=nW3 w #[.slice A d.sectors.length c,d.left,d.down] 29 #[fr,n,en,sf,tl] 31 (rcA 0 0 0 0 0 0 0 0 0 ⟨#[]⟩ ⟨#[]⟩ 0 0 ⟨#[]⟩ 0 0 (.slice none 0 0) (.slice none 0 0)) 55
     obtain⟨W0,hW0⟩:=exW H0
     rw[← hW0]at H0 ⊢
     clear hW0
     have hc0:=blkCell H0.out.get1
     go_upto_region 4 with fail
     go_upto_region 5 with fail
     rw[← HBS.out,← HFI.out]
     dsimp only[diskV]at HS
     go_wp2_with (first
      |(with_reducible refine lL H0.out.get0 Tryz.underlying29 ?_)
      |(go_at_call 42;(try rw[← HBS.out]);(with_reducible refine(HS.out _ H0.out.below).mono ?_);rintro e1 w1 ⟨hb1,rfl⟩;rw[HSV.out];have H1:=Hq (H0.out.step hb1);have hc1:=blkCell H1.out.get1;clear hb1)
      |(go_at_call 43;(with_reducible refine(HG.out _).mono ?_);rintro e w2 ⟨hb2,A1,c1,D1,d1,rfl,hrr⟩;(try dsimp only[recV,recA]);have H2:=Hq (H1.out.step (pastAlloc (o:=.cells (rcA lsn0 prev txn kind page next nu ok os oo on how root ek ep es (.slice A1 ts.length c1) (.slice D1 ds.length d1)) 55) hb2));have HR2:=Hq (((hrr.mono (show w.heap.size+3≤w1.heap.size from(by have h9:=H1.out.lt (i:=2) (by simp);omega)))).below (allocB w2 (.cells (rcA lsn0 prev txn kind page next nu ok os oo on how root ek ep es (.slice A1 ts.length c1) (.slice D1 ds.length d1)) 55)));have hx2:=blkCell (heap_alloc_new w2 (.cells (rcA lsn0 prev txn kind page next nu ok os oo on how root ek ep es (.slice A1 ts.length c1) (.slice D1 ds.length d1)) 55));simp at hx2;clear hb2 hrr)
      |(with_reducible refine sN (rcA lsn0 prev txn kind page next nu ok os oo on how root ek ep es (.slice A1 ts.length c1) (.slice D1 ds.length d1)) ?_)
      |(with_reducible refine lL (heap_alloc_new w2 _) Tryz.underlying55 ?_)
      |(with_reducible refine lS (rcA lsn0 prev txn kind page next nu ok os oo on how root ek ep es (.slice A1 ts.length c1) (.slice D1 ds.length d1)) H2.out.get2 ?_))
     refine bodyPost_ret (v:=.tuple #[.agg (rcA lsn0 prev txn kind page next nu ok os oo on how root ek ep es (.slice A1 ts.length c1) (.slice D1 ds.length d1)),()]) (results_cell2 rfl _ _ rfl (load_whole (setRow_heap _ _ _ _ _ _ H2.out.get2) Tryz.underlying55 Kr Kr) rfl) rfl ?_
     exact HF.out _ ((H2.out.row 2 _ _ rfl).below) A1 c1 D1 d1 ((HR2.out.row _ _ (by omega)).mono (by omega))
    ·rw[if_neg hl]at hdef
     have HDEF:=Hq hdef
     clear hdef HOK
     obtain⟨lsn0,prev,txn,kind,page,next,nu,⟨ok,os,oo,on⟩,how,root,⟨ek,ep,es⟩,ts,ds⟩:=r
     simp only at hl
     have hl1':(lsn0==lsn)=false:=by simpa using hl
     have hl2':(lsn0 != lsn)=true:=by simpa using hl
     clear hl
     go_enter Tryz.func15,Tryz.ntmps15
     go_upto_region 1 with fail
     have H0:=nW3 w #[.slice A d.sectors.length c,d.left,d.down] 29 #[fr,n,en,sf,tl] 31 (rcA 0 0 0 0 0 0 0 0 0 ⟨#[]⟩ ⟨#[]⟩ 0 0 ⟨#[]⟩ 0 0 (.slice none 0 0) (.slice none 0 0)) 55
     obtain⟨W0,hW0⟩:=exW H0
     rw[← hW0]at H0 ⊢
     clear hW0
     have hc0:=blkCell H0.out.get1
     go_upto_region 4 with fail
     go_upto_region 5 with fail
     rw[← HBS.out,← HFI.out]
     dsimp only[diskV]at HS
     go_wp2_with (first
      |(with_reducible refine lL H0.out.get0 Tryz.underlying29 ?_)
      |(go_at_call 42;(try rw[← HBS.out]);(with_reducible refine(HS.out _ H0.out.below).mono ?_);rintro e1 w1 ⟨hb1,rfl⟩;rw[HSV.out];have H1:=Hq (H0.out.step hb1);have hc1:=blkCell H1.out.get1;clear hb1)
      |(go_at_call 43;(with_reducible refine(HG.out _).mono ?_);rintro e w2 ⟨hb2,A1,c1,D1,d1,rfl,hrr⟩;(try dsimp only[recV,recA]);have H2:=Hq (H1.out.step (pastAlloc (o:=.cells (rcA lsn0 prev txn kind page next nu ok os oo on how root ek ep es (.slice A1 ts.length c1) (.slice D1 ds.length d1)) 55) hb2));have hx2:=blkCell (heap_alloc_new w2 (.cells (rcA lsn0 prev txn kind page next nu ok os oo on how root ek ep es (.slice A1 ts.length c1) (.slice D1 ds.length d1)) 55));simp at hx2;clear hb2 hrr)
      |(with_reducible refine sN (rcA lsn0 prev txn kind page next nu ok os oo on how root ek ep es (.slice A1 ts.length c1) (.slice D1 ds.length d1)) ?_)
      |(with_reducible refine lS (rcA 0 0 0 0 0 0 0 0 0 ⟨#[]⟩ ⟨#[]⟩ 0 0 ⟨#[]⟩ 0 0 (.slice none 0 0) (.slice none 0 0)) H2.out.get2 ?_))
     refine bodyPost_ret (v:=.tuple #[.agg (rcA 0 0 0 0 0 0 0 0 0 ⟨#[]⟩ ⟨#[]⟩ 0 0 ⟨#[]⟩ 0 0 (.slice none 0 0) (.slice none 0 0)),.int .i64 21]) (results_cell2 rfl _ _ rfl (load_whole (setRow_heap _ _ _ _ _ _ H2.out.get2) Tryz.underlying55 Kr Kr) rfl) rfl ?_
     exact HO.out _ HDEF.out _ ((H2.out.row 2 _ _ rfl).below) _ rfl
end Go.Proofs.YtilakddepaplhaaGreat
