import Derived.Test.YtilakddepaplhaaGreatHb00
import Derived.Test.YtilakddepaplhaaGreatHb10
import Derived.Test.YtilakddepaplhaaGreatHb07
import Derived.Test.YtilakddepaplhaaGreatHb08
import Derived.BigRegion
set_option maxRecDepth 100000
set_option maxHeartbeats 16000000
set_option linter.unusedSimpArgs false
namespace Go.Proofs.YtilakddepaplhaaGreat
open Go.RowKit
theorem refput_no (r:Rc.Rec)(hR:¬ Rc.Right r)(A D:Option Addr)(c d:Nat)(w:World)(hr:RecR w r A c D d):
 Calls Tryz.prog 69 #[recV r (.slice A r.txns.length c) (.slice D r.dirty.length d)] w fun e w'=>e= .returned (.tuple #["",.int .i64 1])∧Below w.heap.size w w':=by
 have HR:=Hq (fun W (h:Below w.heap.size w W)=>rright_any r A D c d W (hr.below h))
 have hb:Rc.rightB r=false:=by
  cases h:Rc.rightB r with
  |false=>rfl
  |true=>exact absurd (Rc.rightB_iff.1 h) hR
 rw[hb]at HR
 have HA:=Hq (heap_alloc_new w (.cells (recA r (.slice A r.txns.length c) (.slice D r.dirty.length d)) 55))
 clear hR hb hr
 obtain⟨lsn,prev,txn,kind,page,next,nu,⟨ok,os,oo,on⟩,how,root,⟨ek,ep,es⟩,ts,ds⟩:=r
 dsimp only[recV,recA]at HR HA ⊢
 go_enter Tryz.func69,Tryz.ntmps69
 go_wp2_with (first
  |(with_reducible refine lL HA.out Tryz.underlying55 ?_)
  |(go_at_call 109;(with_reducible refine(HR.out _ (allocB _ _)).mono ?_);rintro e w1 ⟨rfl,hb1⟩))
 go_ret2
 exact⟨rfl,joinB (allocB _ _) hb1⟩
theorem refput_yes (r:Rc.Rec)(hR:Rc.Right r)(A D:Option Addr)(c d:Nat)(w:World)(hr:RecR w r A c D d):
 Calls Tryz.prog 69 #[recV r (.slice A r.txns.length c) (.slice D r.dirty.length d)] w fun e w'=>e= .returned (.tuple #[.string ⟨(Lg.putR r).toArray⟩,()])∧Below w.heap.size w w':=by
 have HR:=Hq (fun W (h:Below w.heap.size w W)=>rright_any r A D c d W (hr.below h))
 rw[Rc.rightB_yes hR]at HR
 have HB:=Hq (fun W (h:Below w.heap.size w W)=>rbody_any r hR A D c d W (hr.below h))
 have hlen:=Rc.bodyB_len hR
 obtain⟨L,hL⟩:=ex (Rc.bodyB r)
 have hfin:(⟨(Lg.putR r).toArray⟩:ByteArray)=Rc.mk (Rc.p (L.length:Int) 4++Rc.p ((Oct.sumN L:Nat):Int) 4++L):=by
  have h9:L.length≤40000:=by rw[hL];exact hlen.2
  have e1:Oct.word (L.length:Int)=L.length:=Oct.word_nat _ (by omega)
  have e2:Oct.word ((Oct.sumN L:Nat):Int)=Oct.sumN L:=Oct.word_nat _ (by have:=Oct.sumN_lt L;omega)
  unfold Lg.putR Rc.mk Rc.p
  rw[e1,e2,← hL,List.append_assoc]
 rw[hfin]
 rw[← hL]at HB hlen
 clear hfin
 have hll:L.length≤40000:=by omega
 have HS:=Hq (fun W=>rsum_any (Rc.mk L) (by rw[Rc.mk_size];omega) W)
 rw[show(Rc.mk L).data.toList=L from rfl]at HS
 have HP1:=Hq (fun W=>show Calls Tryz.prog 111 #[.int .i64 (L.length:Int),.int .i64 4] W fun e w'=>e= .returned (.string (Rc.mk (Rc.p (L.length:Int) 4)))∧Below W.heap.size W w' from rput_mk (L.length:Int) 4 (by omega) W)
 have HP2:=Hq (fun W=>show Calls Tryz.prog 111 #[.int .i64 ((Oct.sumN L:Nat):Int),.int .i64 4] W fun e w'=>e= .returned (.string (Rc.mk (Rc.p ((Oct.sumN L:Nat):Int) 4)))∧Below W.heap.size W w' from rput_mk ((Oct.sumN L:Nat):Int) 4 (by omega) W)
 have h4:∀ n,(Rc.p n 4).length=4:=fun n=>Oct.putL_length _ _
 have HA1:=fun W=>add_mk (Rc.p (L.length:Int) 4) (Rc.p ((Oct.sumN L:Nat):Int) 4) (by rw[h4,h4];omega) W
 have HA2:=fun W=>add_mk (Rc.p (L.length:Int) 4++Rc.p ((Oct.sumN L:Nat):Int) 4) L (by rw[List.length_append,h4,h4];omega) W
 have hys:(Rc.mk L).size=L.length:=Rc.mk_size L
 generalize ((Oct.sumN L:Nat):Int)=q at HS HP2 HA1 HA2 ⊢
 obtain⟨z3,hz3⟩:=ex (Rc.mk (Rc.p (L.length:Int) 4++Rc.p q 4++L))
 rw[← hz3]at HA2 ⊢
 obtain⟨z2,hz2⟩:=ex (Rc.mk (Rc.p (L.length:Int) 4++Rc.p q 4))
 rw[← hz2]at HA1 HA2
 clear hz2 hz3
 generalize Rc.mk (Rc.p (L.length:Int) 4)=x1 at HP1 HA1
 generalize Rc.mk (Rc.p q 4)=x2 at HP2 HA1
 generalize Rc.mk L=y at HB HS HA2 hys
 rw[← hys]at HP1
 clear hL hR hlen hll hys h4
 have HA:=Hq (heap_alloc_new w (.cells (recA r (.slice A r.txns.length c) (.slice D r.dirty.length d)) 55))
 clear hr
 obtain⟨lsn,prev,txn,kind,page,next,nu,⟨ok,os,oo,on⟩,how,root,⟨ek,ep,es⟩,ts,ds⟩:=r
 dsimp only[recV,recA]at HR HA HB ⊢
 go_enter Tryz.func69,Tryz.ntmps69
 go_upto_region 3 with(first
  |(with_reducible refine lL HA.out Tryz.underlying55 ?_)
  |(go_at_call 109;(with_reducible refine(HR.out _ (allocB _ _)).mono ?_);rintro e w1 ⟨rfl,hb1⟩))
 have HB1:=Hq (joinB (allocB w _) hb1)
 have HX1:=Hq (blkOld HA.out hb1)
 clear hb1 HA HR
 go_wp2_with (first
  |(with_reducible refine lL HX1.out Tryz.underlying55 ?_)
  |(go_at_call 110;(with_reducible refine(HB.out _ HB1.out).mono ?_);rintro e w2 ⟨rfl,hb2⟩)
  |(go_at_call 111;(with_reducible refine(HP1.out _).mono ?_);rintro e w3 ⟨rfl,hb3⟩)
  |(go_at_call 79;(with_reducible refine(HS.out _).mono ?_);rintro e w4 ⟨rfl,rfl⟩)
  |(go_at_call 111;(with_reducible refine(HP2.out _).mono ?_);rintro e w5 ⟨rfl,hb5⟩))
 go_ret2
 exact⟨rfl,joinB (joinB (joinB HB1.out hb2) hb3) hb5⟩
def Lg.roomR (n:Int):Int:=if n<0∨1099511627776<n then 0 else n*128
theorem rroom_any (f n e s:Int)(t:ByteArray)(w:World):
 Calls Tryz.prog 70 #[.agg #[f,n,e,s,t]] w fun x w'=>x= .returned (.int .i64 (Lg.roomR n))∧Below w.heap.size w w':=by
 by_cases h1:n<0
 ·rw[show Lg.roomR n=0 by unfold Lg.roomR;rw[if_pos (.inl h1)]]
  go_enter Tryz.func70,Tryz.ntmps70
  go_wp2_with fail
  go_ret
  exact⟨by simp,allocB _ _⟩
 ·by_cases h2:1099511627776<n
  ·rw[show Lg.roomR n=0 by unfold Lg.roomR;rw[if_pos (.inr h2)]]
   go_enter Tryz.func70,Tryz.ntmps70
   go_wp2_with fail
   go_ret
   exact⟨by simp,allocB _ _⟩
  ·rw[show Lg.roomR n=n*128 by unfold Lg.roomR;rw[if_neg (by omega)]]
   have hw:IntKind.i64.wrap (n*128)=n*128:=IntWalk.i64_in _ (by omega)
   go_enter Tryz.func70,Tryz.ntmps70
   go_wp2_with fail
   go_ret
   exact⟨by simp,allocB _ _⟩
theorem rappend_any (l:Lg.Lo)(he0:0≤l.end_)(he1:l.end_≤1000000000)(hn0:0≤l.n)(hn1:l.n≤1000000000)(ht:l.tail.size≤1000000000)(r:Rc.Rec)(A D:Option Addr)(c d:Nat)(w:World)(hr:RecR w r A c D d):
 Calls Tryz.prog 32 #[logV l,recV r (.slice A r.txns.length c) (.slice D r.dirty.length d)] w (AppOut (Lg.appendD l r) w):=by
 have HPY:=Hq (fun hR W (hb:Below w.heap.size w W)=>refput_yes {r with lsn:=l.end_+1} hR A D c d W ⟨hr.txns.below hb,hr.dirty.below hb,hr.small⟩)
 have HPN:=Hq (fun hR W (hb:Below w.heap.size w W)=>refput_no {r with lsn:=l.end_+1} hR A D c d W ⟨hr.txns.below hb,hr.dirty.below hb,hr.small⟩)
 have HN:=Hq (@Lg.append_wrong l r)
 have HFU:=Hq (@Lg.append_full l r)
 have HOK:=Hq (@Lg.append_ok l r)
 generalize Lg.appendD l r=o at HN HFU HOK ⊢
 clear hr
 obtain⟨fr,n,en,sf,tl⟩:=l
 obtain⟨lsn,prev,txn,kind,page,next,nu,⟨ok,os,oo,on⟩,how,root,⟨ek,ep,es⟩,ts,ds⟩:=r
 dsimp only[recV,recA,logV]at HPY HPN HN HFU HOK he0 he1 hn0 hn1 ht ⊢
 have hw1:IntKind.i64.wrap (en+1)=en+1:=IntWalk.i64_in _ (by omega)
 by_cases hR:Rc.Right ⟨en+1,prev,txn,kind,page,next,nu,⟨ok,os,oo,on⟩,how,root,⟨ek,ep,es⟩,ts,ds⟩
 ·have HP:=Hq (HPY.out hR)
  have HFU2:=Hq (HFU.out hR)
  have HOK2:=Hq (HOK.out hR)
  have hpl0:(Lg.putR ⟨en+1,prev,txn,kind,page,next,nu,⟨ok,os,oo,on⟩,how,root,⟨ek,ep,es⟩,ts,ds⟩).length≤40008:=by rw[Lg.putR_len];have:=(Rc.bodyB_len hR).2;omega
  obtain⟨x,hx⟩:=ex (⟨(Lg.putR ⟨en+1,prev,txn,kind,page,next,nu,⟨ok,os,oo,on⟩,how,root,⟨ek,ep,es⟩,ts,ds⟩).toArray⟩:ByteArray)
  have hxs:(Lg.putR ⟨en+1,prev,txn,kind,page,next,nu,⟨ok,os,oo,on⟩,how,root,⟨ek,ep,es⟩,ts,ds⟩).length=x.size:=by rw[hx];show _=((Lg.putR ⟨en+1,prev,txn,kind,page,next,nu,⟨ok,os,oo,on⟩,how,root,⟨ek,ep,es⟩,ts,ds⟩).toArray).size;simp
  rw[hxs]at HFU2 HOK2 hpl0
  rw[← hx]at HP HOK2
  have hpl:=hpl0
  clear HPY HPN HN HFU HOK hR hx hxs hpl0
  go_enter Tryz.func32,Tryz.ntmps32
  go_upto_region 1 with fail
  have H0:=nW3 w #[fr,n,en,sf,tl] 31 (rcA lsn prev txn kind page next nu ok os oo on how root ek ep es (.slice A ts.length c) (.slice D ds.length d)) 55 #[(),(),(),(),""] 31
  obtain⟨W0,hW0⟩:=exW H0
  have hs0:W0.heap.size=w.heap.size+3:=by rw[hW0];simp
  rw[← hW0]at H0 ⊢
  have hc0:=blkCell H0.out.get0
  have hc1:=blkCell H0.out.get1
  have hz1:=blkFrozen H0.out.get1
  clear hW0
  go_upto_region 2 with fail
  have H1:=Hq (show BxL w.heap.size w [(#[fr,n,en,sf,tl],31),((rcA (en+1) prev txn kind page next nu ok os oo on how root ek ep es (.slice A ts.length c) (.slice D ds.length d)),55),(#[(),(),(),(),""],31)] (W0.setCell ⟨w.heap.size+1,0,none⟩ (.int .i64 (en+1)))from by have h:=H0.out.set 1 0 (.int .i64 (en+1)) _ rfl;simpa using h)
  obtain⟨W1,hW1⟩:=ex (W0.setCell ⟨w.heap.size+1,0,none⟩ (.int .i64 (en+1)))
  rw[← hW1]at H1 ⊢
  clear hW1 hc0 hc1 hz1 H0 hs0
  have HX1:=Hq H1.out.get1
  go_upto_region 3 with(first
   |(with_reducible refine lL HX1.out Tryz.underlying55 ?_)
   |(go_at_call 69;(with_reducible refine(HP.out _ H1.out.below).mono ?_);rintro e w2 ⟨rfl,hb2⟩))
  have H2:=Hq (H1.out.step hb2)
  clear hb2 H1 HX1 HP
  have HXA:=Hq (show w2.drew.heap[w.heap.size]? =some (.cells #[fr,n,en,sf,tl] 31 (0,0))from by have h:=H2.out.drew.get 0 _ rfl;simpa using h)
  have HRM:=Hq (fun W=>show Calls Tryz.prog 70 #[.agg #[fr,n,en,sf,tl]] W fun e w'=>e= .returned (.int .i64 (n*128))∧Below W.heap.size W w' from by
   have h9:=rroom_any fr n en sf tl W
   rw[show Lg.roomR n=n*128 from by unfold Lg.roomR;rw[if_neg (by omega)]]at h9
   exact h9)
  go_upto_region 5 with fail
  refine rgH (S:=(fun u=>u.heap[w.heap.size]? =some (.cells #[fr,n,en,sf,tl] 31 (0,0)))) (fun hHeld=>?_) (by first|exact hSn|exact HXA.out)
  refine tkP 0 ?_;refine tkP 1 ?_
  refine tkL 2 Tryz.underlying31 ?_
  refine tkP 4 ?_;refine tkP 5 ?_
  refine rdP 3 fun K hK=>?_
  go_simp
  refine(HRM.out _).mono ?_;rintro e w3 ⟨rfl,hb3⟩
  have hSn:=blkOld HXA.out hb3
  refine hKo hK (fun hHeld=>?_) (by first|exact hSn|exact HXA.out)
  clear hK K
  refine tkP 6 ?_;refine tkP 7 ?_
  refine wpAnyH_done Kr ?_ _
  clear hHeld hSn HRM HXA
  have H2':=Hq (H2.out.drew.step hb3)
  clear hb3 H2
  have H2:=H2'
  clear H2'
  have hm:IntKind.i64.wrap (n*128)=n*128:=IntWalk.i64_in _ (by omega)
  have hm2:IntKind.i64.wrap (n*128-en)=n*128-en:=IntWalk.i64_in _ (by omega)
  have hm3:IntKind.i64.wrap (en+(x.size:Int))=en+(x.size:Int):=IntWalk.i64_in _ (by omega)
  have hfq:n*128-en<(x.size:Int)↔n*128-(x.size:Int)<en:=by omega
  by_cases hfull:n*128-en<(x.size:Int)
  ·have HO:=Hq (HFU2.out (by omega))
   have HX2:=Hq (show w3.heap[w.heap.size]? =some (.cells #[fr,n,en,sf,tl] 31 (0,0))from by have h:=H2.out.get0;simpa using h)
   have hc2:=blkCell HX2.out
   clear HFU2 HOK2
   go_wp2_with (first
    |(with_reducible refine lL HX2.out Tryz.underlying31 ?_)
    |(with_reducible refine lS #[fr,n,en,sf,tl] H2.out.get2 ?_))
   refine bodyPost_ret (v:=.tuple #[.agg #[fr,n,en,sf,tl],(),.int .i64 18]) (results_cell3 rfl _ _ rfl (load_whole (setRow_heap _ _ _ _ _ _ H2.out.get2) Tryz.underlying31 Kr Kr) rfl rfl) rfl ?_
   rw[HO.out]
   exact⟨rfl,(H2.out.row 2 _ _ rfl).below⟩
  ·have HO:=Hq (HOK2.out (by omega))
   have hadd:∀ W:World,(Op.stringOp .add tl x).run Tryz.prog W= .ok (.string (tl++x)) W:=fun W=>run_string_add_sum W _ _ (by omega)
   have HX2:=Hq (show w3.heap[w.heap.size]? =some (.cells #[fr,n,en,sf,tl] 31 (0,0))from by have h:=H2.out.get0;simpa using h)
   have hc2:=blkCell HX2.out
   have hz2:=blkFrozen HX2.out
   clear HFU2 HOK2
   go_upto_region 8 with fail
   have H3:=Hq (show BxL w.heap.size w [(#[fr,n,en,sf,.string (tl++x)],31),((rcA (en+1) prev txn kind page next nu ok os oo on how root ek ep es (.slice A ts.length c) (.slice D ds.length d)),55),(#[(),(),(),(),""],31)] (w3.setCell ⟨w.heap.size,4,none⟩ (.string (tl++x)))from by have h:=H2.out.set 0 4 (.string (tl++x)) _ rfl;simpa using h)
   obtain⟨W3,hW3⟩:=ex (w3.setCell ⟨w.heap.size,4,none⟩ (.string (tl++x)))
   rw[← hW3]at H3 ⊢
   clear hW3 hc2 hz2 HX2 H2
   have hc3:=blkCell H3.out.get0
   have hz3:=blkFrozen H3.out.get0
   go_upto_region 9 with fail
   have H4:=Hq (show BxL w.heap.size w [(#[fr,n,.int .i64 (en+(x.size:Int)),sf,.string (tl++x)],31),((rcA (en+1) prev txn kind page next nu ok os oo on how root ek ep es (.slice A ts.length c) (.slice D ds.length d)),55),(#[(),(),(),(),""],31)] (W3.setCell ⟨w.heap.size,2,none⟩ (.int .i64 (en+(x.size:Int))))from by have h:=H3.out.set 0 2 (.int .i64 (en+(x.size:Int))) _ rfl;simpa using h)
   obtain⟨W4,hW4⟩:=ex (W3.setCell ⟨w.heap.size,2,none⟩ (.int .i64 (en+(x.size:Int))))
   rw[← hW4]at H4 ⊢
   clear hW4 hc3 hz3 H3 hadd
   have HD4:=Hq H4.out.drew
   refine rgH (S:=(fun u=>u.heap[w.heap.size]? =some (.cells #[fr,n,.int .i64 (en+(x.size:Int)),sf,.string (tl++x)] 31 (0,0))∧u.heap[w.heap.size+1]? =some (.cells (rcA (en+1) prev txn kind page next nu ok os oo on how root ek ep es (.slice A ts.length c) (.slice D ds.length d)) 55 (0,0)))) (fun hHeld=>?_) (by first|exact hSn|exact⟨(by have h:=HD4.out.get0;simpa using h),HD4.out.get1⟩)
   refine tkP 0 ?_;refine tkP 1 ?_;refine tkP 2 ?_
   refine rdP 3 fun K hK=>?_
   refine wantedIf (by rfl) ?_
   refine sW #[fr,n,.int .i64 (en+(x.size:Int)),sf,.string (tl++x)] HD4.out.get2 ?_
   have hB5:=HD4.out.row 2 #[fr,n,.int .i64 (en+(x.size:Int)),sf,.string (tl++x)] _ rfl
   have hSn:=And.intro (show _=some (Obj.cells #[fr,n,.int .i64 (en+(x.size:Int)),sf,.string (tl++x)] 31 (0,0))from by have h:=hB5.get 0 _ rfl;simpa using h) (hB5.get 1 _ rfl)
   refine hKo hK (fun hHeld=>?_) (by first|exact hSn|exact⟨(by have h:=HD4.out.get0;simpa using h),HD4.out.get1⟩)
   clear hK K
   try simp only[Act.put]
   refine tkP 4 ?_;refine tkP 5 ?_
   refine wpAnyH_done Kr ?_ _
   clear hHeld
   go_wp2_with fail
   refine bodyPost_ret (v:=.tuple #[.agg #[fr,n,.int .i64 (en+(x.size:Int)),sf,.string (tl++x)],.int .i64 (en+1),()]) (results_cell3 rfl _ _ rfl (load_whole (setRow_heap _ _ _ _ _ _ HD4.out.get2) Tryz.underlying31 Kr Kr) rfl rfl) rfl ?_
   rw[HO.out]
   exact⟨rfl,hB5.below⟩
 ·have HO:=Hq (HN.out hR)
  have HP:=Hq (HPN.out hR)
  clear HPY HPN HN HFU HOK hR
  go_enter Tryz.func32,Tryz.ntmps32
  go_upto_region 1 with fail
  have H0:=nW3 w #[fr,n,en,sf,tl] 31 (rcA lsn prev txn kind page next nu ok os oo on how root ek ep es (.slice A ts.length c) (.slice D ds.length d)) 55 #[(),(),(),(),""] 31
  obtain⟨W0,hW0⟩:=exW H0
  have hs0:W0.heap.size=w.heap.size+3:=by rw[hW0];simp
  rw[← hW0]at H0 ⊢
  have hc0:=blkCell H0.out.get0
  have hc1:=blkCell H0.out.get1
  have hz1:=blkFrozen H0.out.get1
  clear hW0
  go_upto_region 2 with fail
  have H1:=Hq (show BxL w.heap.size w [(#[fr,n,en,sf,tl],31),((rcA (en+1) prev txn kind page next nu ok os oo on how root ek ep es (.slice A ts.length c) (.slice D ds.length d)),55),(#[(),(),(),(),""],31)] (W0.setCell ⟨w.heap.size+1,0,none⟩ (.int .i64 (en+1)))from by have h:=H0.out.set 1 0 (.int .i64 (en+1)) _ rfl;simpa using h)
  obtain⟨W1,hW1⟩:=ex (W0.setCell ⟨w.heap.size+1,0,none⟩ (.int .i64 (en+1)))
  rw[← hW1]at H1 ⊢
  clear hW1 hc0 hc1 hz1 H0 hs0
  have HX1:=Hq H1.out.get1
  go_upto_region 3 with(first
   |(with_reducible refine lL HX1.out Tryz.underlying55 ?_)
   |(go_at_call 69;(with_reducible refine(HP.out _ H1.out.below).mono ?_);rintro e w3 ⟨rfl,hb2⟩))
  have H2:=Hq (H1.out.step hb2)
  clear hb2 H1 HX1 HP
  have HX2:=Hq (show w3.heap[w.heap.size]? =some (.cells #[fr,n,en,sf,tl] 31 (0,0))from by have h:=H2.out.get0;simpa using h)
  go_wp2_with (first
   |(with_reducible refine lL HX2.out Tryz.underlying31 ?_)
   |(with_reducible refine lS #[fr,n,en,sf,tl] H2.out.get2 ?_))
  refine bodyPost_ret (v:=.tuple #[.agg #[fr,n,en,sf,tl],(),.int .i64 1]) (results_cell3 rfl _ _ rfl (load_whole (setRow_heap _ _ _ _ _ _ H2.out.get2) Tryz.underlying31 Kr Kr) rfl rfl) rfl ?_
  rw[HO.out]
  exact⟨rfl,(H2.out.row 2 _ _ rfl).below⟩
end Go.Proofs.YtilakddepaplhaaGreat
