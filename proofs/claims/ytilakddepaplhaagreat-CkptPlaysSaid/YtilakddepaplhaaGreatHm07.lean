import Derived.Test.YtilakddepaplhaaGreatHm00
import Derived.Test.YtilakddepaplhaaGreatHm06
set_option maxRecDepth 100000
set_option maxHeartbeats 16000000
namespace Lg
theorem append_wrong {l:Lo}{r:Rc.Rec}(h:¬ Rc.Right {r with lsn:=l.end_+1}):appendD l r=(l,0,1):=by
 unfold appendD
 simp only
 rw[if_pos h]
theorem append_full {l:Lo}{r:Rc.Rec}(h:Rc.Right {r with lsn:=l.end_+1})(h2:l.n*128-((putR {r with lsn:=l.end_+1}).length:Int)<l.end_):appendD l r=(l,0,18):=by
 unfold appendD
 simp only
 rw[if_neg (fun hn=>hn h),if_pos h2]
theorem append_ok {l:Lo}{r:Rc.Rec}(h:Rc.Right {r with lsn:=l.end_+1})(h2:¬ l.n*128-((putR {r with lsn:=l.end_+1}).length:Int)<l.end_):appendD l r=({l with end_:=l.end_+((putR {r with lsn:=l.end_+1}).length:Int),tail:=l.tail++⟨(putR {r with lsn:=l.end_+1}).toArray⟩},l.end_+1,0):=by
 unfold appendD
 simp only
 rw[if_neg (fun hn=>hn h),if_neg h2]
end Lg
namespace Go.Proofs.YtilakddepaplhaaGreat
open Go.RowKit
theorem recput_yes (r:Rc.Rec)(hR:Rc.Right r)(A D:Option Addr)(c d:Nat)(w:World)(hr:RecR w r A c D d):
 Calls Tryz.prog 67 #[recV r (.slice A r.txns.length c) (.slice D r.dirty.length d)] w fun e w'=>e= .returned (.tuple #[.string ⟨(Lg.putR r).toArray⟩,()])∧Below w.heap.size w w':=by
 refine(recput_any r A D c d w hr).mono ?_
 rintro e w' ⟨⟨x,h⟩,hb⟩
 rcases h with⟨_,rfl,hx⟩|⟨h,_⟩
 ·exact⟨by rw[← hx],hb⟩
 ·exact absurd hR h
theorem recput_no (r:Rc.Rec)(hR:¬ Rc.Right r)(A D:Option Addr)(c d:Nat)(w:World)(hr:RecR w r A c D d):
 Calls Tryz.prog 67 #[recV r (.slice A r.txns.length c) (.slice D r.dirty.length d)] w fun e w'=>e= .returned (.tuple #["",.int .i64 1])∧Below w.heap.size w w':=by
 refine(recput_any r A D c d w hr).mono ?_
 rintro e w' ⟨⟨x,h⟩,hb⟩
 rcases h with⟨h,_⟩|⟨_,rfl⟩
 ·exact absurd h hR
 ·exact⟨rfl,hb⟩
def AppOut (x:Lg.Lo×Int×Int)(w:World)(e:Ending)(w':World):Prop:=e= .returned (.tuple #[logV x.1,x.2.1,x.2.2])∧Below w.heap.size w w'
theorem append_any (l:Lg.Lo)(he0:0≤l.end_)(he1:l.end_≤1000000000)(hn0: -1000000000≤l.n)(hn1:l.n≤1000000000)(ht:l.tail.size≤1000000000)(r:Rc.Rec)(A D:Option Addr)(c d:Nat)(w:World)(hr:RecR w r A c D d):
 Calls Tryz.prog 30 #[logV l,recV r (.slice A r.txns.length c) (.slice D r.dirty.length d)] w (AppOut (Lg.appendD l r) w):=by
 have HPY:=Hq (fun hR W (hb:Below w.heap.size w W)=>recput_yes {r with lsn:=l.end_+1} hR A D c d W ⟨hr.txns.below hb,hr.dirty.below hb,hr.small⟩)
 have HPN:=Hq (fun hR W (hb:Below w.heap.size w W)=>recput_no {r with lsn:=l.end_+1} hR A D c d W ⟨hr.txns.below hb,hr.dirty.below hb,hr.small⟩)
 have HN:=Hq (@Lg.append_wrong l r)
 have HFU:=Hq (@Lg.append_full l r)
 have HOK:=Hq (@Lg.append_ok l r)
 generalize Lg.appendD l r=o at HN HFU HOK ⊢
 clear hr
 obtain⟨fr,n,en,sf,tl⟩:=l
 obtain⟨lsn,prev,txn,kind,page,next,nu,⟨ok,os,oo,on⟩,how,root,⟨ek,ep,es⟩,ts,ds⟩:=r
 dsimp only[recV,recA,logV]at HPY HPN HN HFU HOK he0 he1 hn0 hn1 ht ⊢
 have hw1:IntKind.i64.wrap (en+1)=en+1:=IntWalk.i64_in _ (by omega)
 by_cases hR:Rc.Right ⟨en+1,prev,txn,kind,page,next,nu,⟨ok,os,oo,on⟩,how,root,⟨ek,ep,es⟩,ts,ds⟩
 ·have HP:=Hq (HPY.out hR)
  have HFU2:=Hq (HFU.out hR)
  have HOK2:=Hq (HOK.out hR)
  have hpl0:(Lg.putR ⟨en+1,prev,txn,kind,page,next,nu,⟨ok,os,oo,on⟩,how,root,⟨ek,ep,es⟩,ts,ds⟩).length≤40008:=by rw[Lg.putR_len];have:=(Rc.bodyB_len hR).2;omega
  obtain⟨x,hx⟩:∃ x:ByteArray,x=⟨(Lg.putR ⟨en+1,prev,txn,kind,page,next,nu,⟨ok,os,oo,on⟩,how,root,⟨ek,ep,es⟩,ts,ds⟩).toArray⟩:=⟨_,rfl⟩
  have hxs:(Lg.putR ⟨en+1,prev,txn,kind,page,next,nu,⟨ok,os,oo,on⟩,how,root,⟨ek,ep,es⟩,ts,ds⟩).length=x.size:=by rw[hx];show _=((Lg.putR ⟨en+1,prev,txn,kind,page,next,nu,⟨ok,os,oo,on⟩,how,root,⟨ek,ep,es⟩,ts,ds⟩).toArray).size;simp
  rw[hxs]at HFU2 HOK2 hpl0
  rw[← hx]at HP HOK2
  have hpl:=hpl0
  clear HPY HPN HN HFU HOK hR hx hxs hpl0
  go_enter Tryz.func30,Tryz.ntmps30
  go_upto_region 1 with fail
  have H0:=Hq (show BxL w.heap.size w [(#[fr,n,en,sf,tl],31),((rcA lsn prev txn kind page next nu ok os oo on how root ek ep es (.slice A ts.length c) (.slice D ds.length d)),55),(#[(),(),(),(),""],31)] (((w.alloc (.cells #[fr,n,en,sf,tl] 31)).alloc (.cells (rcA lsn prev txn kind page next nu ok os oo on how root ek ep es (.slice A ts.length c) (.slice D ds.length d)) 55)).alloc (.cells #[(),(),(),(),""] 31))from(((BxL.nil (Below.refl w.heap.size w)).new (by simp) #[fr,n,en,sf,tl] 31).new (by simp) (rcA lsn prev txn kind page next nu ok os oo on how root ek ep es (.slice A ts.length c) (.slice D ds.length d)) 55).new (by simp) #[(),(),(),(),""] 31)
  obtain⟨W0,hW0⟩:∃ W,W=(((w.alloc (.cells #[fr,n,en,sf,tl] 31)).alloc (.cells (rcA lsn prev txn kind page next nu ok os oo on how root ek ep es (.slice A ts.length c) (.slice D ds.length d)) 55)).alloc (.cells #[(),(),(),(),""] 31)):=⟨_,rfl⟩
  have hs0:W0.heap.size=w.heap.size+3:=by rw[hW0];simp
  rw[← hW0]at H0 ⊢
  have hc0:=blkCell (H0.out.get 0 _ rfl)
  have hc1:=blkCell (H0.out.get 1 _ rfl)
  have hz1:=blkFrozen (H0.out.get 1 _ rfl)
  simp only[Nat.add_zero]at hc0
  clear hW0
  go_upto_region 2 with fail
  have H1:=Hq (show BxL w.heap.size w [(#[fr,n,en,sf,tl],31),((rcA (en+1) prev txn kind page next nu ok os oo on how root ek ep es (.slice A ts.length c) (.slice D ds.length d)),55),(#[(),(),(),(),""],31)] (W0.setCell ⟨w.heap.size+1,0,none⟩ (.int .i64 (en+1)))from by have h:=H0.out.set 1 0 (.int .i64 (en+1)) _ rfl;simpa using h)
  obtain⟨W1,hW1⟩:∃ W,W=W0.setCell ⟨w.heap.size+1,0,none⟩ (.int .i64 (en+1)):=⟨_,rfl⟩
  rw[← hW1]at H1 ⊢
  clear hW1 hc0 hc1 hz1 H0 hs0
  have HX1:=Hq (H1.out.get 1 _ rfl)
  go_upto_region 3 with(first
   |(with_reducible refine listLoad Kr 55 (.tmp 3) rfl (w.heap.size+1) rfl (rcA (en+1) prev txn kind page next nu ok os oo on how root ek ep es (.slice A ts.length c) (.slice D ds.length d)) _ HX1.out _ Tryz.underlying55 Kr Kr ?_)
   |(go_at_call 67;(with_reducible refine(HP.out _ H1.out.below).mono ?_);rintro e w2 ⟨rfl,hb2⟩))
  have H2:=Hq (H1.out.step hb2)
  clear hb2 H1 HX1 HP
  have hm:IntKind.i64.wrap (n*128)=n*128:=IntWalk.i64_in _ (by omega)
  have hm2:IntKind.i64.wrap (n*128-(x.size:Int))=n*128-(x.size:Int):=IntWalk.i64_in _ (by omega)
  have hm3:IntKind.i64.wrap (en+(x.size:Int))=en+(x.size:Int):=IntWalk.i64_in _ (by omega)
  by_cases hfull:n*128-(x.size:Int)<en
  ·have HO:=Hq (HFU2.out hfull)
   have HX2:=Hq (show w2.heap[w.heap.size]? =some (.cells #[fr,n,en,sf,tl] 31 (0,0))from by have h:=H2.out.get 0 _ rfl;simpa using h)
   have hc2:=blkCell HX2.out
   clear HFU2 HOK2
   go_wp2_with (first
    |(with_reducible refine listLoad Kr 31 (.tmp 2) rfl w.heap.size rfl #[fr,n,en,sf,tl] _ HX2.out _ Tryz.underlying31 Kr Kr ?_)
    |(with_reducible refine listStore Kr 31 (.tmp 4) (.tmp 31) rfl (w.heap.size+2) #[fr,n,en,sf,tl] _ _ rfl rfl (H2.out.get 2 _ rfl) Kr Kr Kr ?_))
   refine bodyPost_ret (v:=.tuple #[.agg #[fr,n,en,sf,tl],(),.int .i64 18]) (results_cell3 rfl _ _ rfl (load_whole (setRow_heap _ _ _ _ _ _ (H2.out.get 2 _ rfl)) Tryz.underlying31 Kr Kr) rfl rfl) rfl ?_
   rw[HO.out]
   exact⟨rfl,(H2.out.row 2 _ _ rfl).below⟩
  ·have HO:=Hq (HOK2.out (by omega))
   have hadd:∀ W:World,(Op.stringOp .add tl x).run Tryz.prog W= .ok (.string (tl++x)) W:=fun W=>run_string_add_sum W _ _ (by omega)
   have HX2:=Hq (show w2.heap[w.heap.size]? =some (.cells #[fr,n,en,sf,tl] 31 (0,0))from by have h:=H2.out.get 0 _ rfl;simpa using h)
   have hc2:=blkCell HX2.out
   have hz2:=blkFrozen HX2.out
   clear HFU2 HOK2
   go_upto_region 8 with fail
   have H3:=Hq (show BxL w.heap.size w [(#[fr,n,.int .i64 (en+(x.size:Int)),sf,tl],31),((rcA (en+1) prev txn kind page next nu ok os oo on how root ek ep es (.slice A ts.length c) (.slice D ds.length d)),55),(#[(),(),(),(),""],31)] (w2.setCell ⟨w.heap.size,2,none⟩ (.int .i64 (en+(x.size:Int))))from by have h:=H2.out.set 0 2 (.int .i64 (en+(x.size:Int))) _ rfl;simpa using h)
   obtain⟨W3,hW3⟩:∃ W,W=w2.setCell ⟨w.heap.size,2,none⟩ (.int .i64 (en+(x.size:Int))):=⟨_,rfl⟩
   rw[← hW3]at H3 ⊢
   clear hW3 hc2 hz2 HX2 H2
   have hc3:=blkCell (H3.out.get 0 _ rfl)
   have hz3:=blkFrozen (H3.out.get 0 _ rfl)
   simp only[Nat.add_zero]at hc3 hz3
   go_upto_region 9 with fail
   have H4:=Hq (show BxL w.heap.size w [(#[fr,n,.int .i64 (en+(x.size:Int)),sf,.string (tl++x)],31),((rcA (en+1) prev txn kind page next nu ok os oo on how root ek ep es (.slice A ts.length c) (.slice D ds.length d)),55),(#[(),(),(),(),""],31)] (W3.setCell ⟨w.heap.size,4,none⟩ (.string (tl++x)))from by have h:=H3.out.set 0 4 (.string (tl++x)) _ rfl;simpa using h)
   obtain⟨W4,hW4⟩:∃ W,W=W3.setCell ⟨w.heap.size,4,none⟩ (.string (tl++x)):=⟨_,rfl⟩
   rw[← hW4]at H4 ⊢
   clear hW4 hc3 hz3 H3 hadd
   have HD4:=Hq H4.out.drew
   refine wp_region_held_drew (S:=(fun u=>u.heap[w.heap.size]? =some (.cells #[fr,n,.int .i64 (en+(x.size:Int)),sf,.string (tl++x)] 31 (0,0))∧u.heap[w.heap.size+1]? =some (.cells (rcA (en+1) prev txn kind page next nu ok os oo on how root ek ep es (.slice A ts.length c) (.slice D ds.length d)) 55 (0,0)))) Kr ?_ (fun hHeld=>?_)
   ·first|exact hSn|exact⟨(by have h:=HD4.out.get 0 _ rfl;simpa using h),HD4.out.get 1 _ rfl⟩
   refine tkW 0 (some 43) (v:=?_) rfl ?_ (tkW 1 (some 44) (v:=?_) rfl ?_ (tkW 2 (some 45) (v:=?_) rfl ?_ ?_))
   iterate 3 (rotate_left;focus(intro u hSu;have hSa:=blkCell hSu.1;have hSb:=blkCell hSu.2;clear hSu;go_simp;(try with_reducible rfl)))
   try simp only[Act.put,pS]
   refine rdH 3 none rfl (fun K hK=>?_)
   refine wantedIf (by rfl) ?_
   refine wp_store_whole 31 (.tmp 4) (.tmp 43) rfl (w.heap.size+2) #[fr,n,.int .i64 (en+(x.size:Int)),sf,.string (tl++x)] _ _ rfl rfl (HD4.out.get 2 _ rfl) Kr Kr Kr ?_
   have hB5:=HD4.out.row 2 #[fr,n,.int .i64 (en+(x.size:Int)),sf,.string (tl++x)] _ rfl
   have hSn:=And.intro (show _=some (Obj.cells #[fr,n,.int .i64 (en+(x.size:Int)),sf,.string (tl++x)] 31 (0,0))from by have h:=hB5.get 0 _ rfl;simpa using h) (hB5.get 1 _ rfl)
   refine hK.out _ _ ?_ (fun hHeld=>?_)
   ·first|exact hSn|exact⟨(by have h:=HD4.out.get 0 _ rfl;simpa using h),HD4.out.get 1 _ rfl⟩
   clear hK K
   try simp only[Act.put]
   refine tkW 4 (some 5) (v:=?_) rfl ?_ (tkW 5 (some 6) (v:=?_) rfl ?_ ?_)
   iterate 2 (rotate_left;focus(intro u hSu;have hSa:=blkCell hSu.1;have hSb:=blkCell hSu.2;clear hSu;go_simp;(try with_reducible rfl)))
   try simp only[Act.put,pS]
   refine wpAnyH_done Kr ?_ _
   clear hHeld
   go_wp2_with fail
   refine bodyPost_ret (v:=.tuple #[.agg #[fr,n,.int .i64 (en+(x.size:Int)),sf,.string (tl++x)],.int .i64 (en+1),()]) (results_cell3 rfl _ _ rfl (load_whole (setRow_heap _ _ _ _ _ _ (HD4.out.get 2 _ rfl)) Tryz.underlying31 Kr Kr) rfl rfl) rfl ?_
   rw[HO.out]
   exact⟨rfl,hB5.below⟩
 ·have HO:=Hq (HN.out hR)
  have HP:=Hq (HPN.out hR)
  clear HPY HPN HN HFU HOK hR
  go_enter Tryz.func30,Tryz.ntmps30
  go_upto_region 1 with fail
  have H0:=Hq (show BxL w.heap.size w [(#[fr,n,en,sf,tl],31),((rcA lsn prev txn kind page next nu ok os oo on how root ek ep es (.slice A ts.length c) (.slice D ds.length d)),55),(#[(),(),(),(),""],31)] (((w.alloc (.cells #[fr,n,en,sf,tl] 31)).alloc (.cells (rcA lsn prev txn kind page next nu ok os oo on how root ek ep es (.slice A ts.length c) (.slice D ds.length d)) 55)).alloc (.cells #[(),(),(),(),""] 31))from(((BxL.nil (Below.refl w.heap.size w)).new (by simp) #[fr,n,en,sf,tl] 31).new (by simp) (rcA lsn prev txn kind page next nu ok os oo on how root ek ep es (.slice A ts.length c) (.slice D ds.length d)) 55).new (by simp) #[(),(),(),(),""] 31)
  obtain⟨W0,hW0⟩:∃ W,W=(((w.alloc (.cells #[fr,n,en,sf,tl] 31)).alloc (.cells (rcA lsn prev txn kind page next nu ok os oo on how root ek ep es (.slice A ts.length c) (.slice D ds.length d)) 55)).alloc (.cells #[(),(),(),(),""] 31)):=⟨_,rfl⟩
  have hs0:W0.heap.size=w.heap.size+3:=by rw[hW0];simp
  rw[← hW0]at H0 ⊢
  have hc0:=blkCell (H0.out.get 0 _ rfl)
  have hc1:=blkCell (H0.out.get 1 _ rfl)
  have hz1:=blkFrozen (H0.out.get 1 _ rfl)
  simp only[Nat.add_zero]at hc0
  clear hW0
  go_upto_region 2 with fail
  have H1:=Hq (show BxL w.heap.size w [(#[fr,n,en,sf,tl],31),((rcA (en+1) prev txn kind page next nu ok os oo on how root ek ep es (.slice A ts.length c) (.slice D ds.length d)),55),(#[(),(),(),(),""],31)] (W0.setCell ⟨w.heap.size+1,0,none⟩ (.int .i64 (en+1)))from by have h:=H0.out.set 1 0 (.int .i64 (en+1)) _ rfl;simpa using h)
  obtain⟨W1,hW1⟩:∃ W,W=W0.setCell ⟨w.heap.size+1,0,none⟩ (.int .i64 (en+1)):=⟨_,rfl⟩
  rw[← hW1]at H1 ⊢
  clear hW1 hc0 hc1 hz1 H0 hs0
  have HX1:=Hq (H1.out.get 1 _ rfl)
  go_upto_region 3 with(first
   |(with_reducible refine listLoad Kr 55 (.tmp 3) rfl (w.heap.size+1) rfl (rcA (en+1) prev txn kind page next nu ok os oo on how root ek ep es (.slice A ts.length c) (.slice D ds.length d)) _ HX1.out _ Tryz.underlying55 Kr Kr ?_)
   |(go_at_call 67;(with_reducible refine(HP.out _ H1.out.below).mono ?_);rintro e w2 ⟨rfl,hb2⟩))
  have H2:=Hq (H1.out.step hb2)
  clear hb2 H1 HX1 HP
  have HX2:=Hq (show w2.heap[w.heap.size]? =some (.cells #[fr,n,en,sf,tl] 31 (0,0))from by have h:=H2.out.get 0 _ rfl;simpa using h)
  go_wp2_with (first
   |(with_reducible refine listLoad Kr 31 (.tmp 2) rfl w.heap.size rfl #[fr,n,en,sf,tl] _ HX2.out _ Tryz.underlying31 Kr Kr ?_)
   |(with_reducible refine listStore Kr 31 (.tmp 4) (.tmp 20) rfl (w.heap.size+2) #[fr,n,en,sf,tl] _ _ rfl rfl (H2.out.get 2 _ rfl) Kr Kr Kr ?_))
  refine bodyPost_ret (v:=.tuple #[.agg #[fr,n,en,sf,tl],(),.int .i64 1]) (results_cell3 rfl _ _ rfl (load_whole (setRow_heap _ _ _ _ _ _ (H2.out.get 2 _ rfl)) Tryz.underlying31 Kr Kr) rfl rfl) rfl ?_
  rw[HO.out]
  exact⟨rfl,(H2.out.row 2 _ _ rfl).below⟩
end Go.Proofs.YtilakddepaplhaaGreat
