import Derived.Test.YtdfkambdagoojaaGreatDoorHa00
import Derived.Test.YtdfkambdagoojaaGreatDoorHa04
import Derived.Lib.AtoiAll
import Derived.Lib.ItoaMem
import Derived.Lib.ItoaLen
import Derived.Test.YtdfkambdagoojaaGreatDoorHa08
import Derived.Test.YtdfkambdagoojaaGreatDoorHa05
import Derived.Test.YtdfkambdagoojaaGreatDoorHa01
import Derived.Lib.SliceRun
import Derived.Deep.RegionLaw
import Derived.Deep.MidRow
import Derived.Lib.Small
set_option maxRecDepth 100000
set_option maxHeartbeats 16000000
set_option linter.unusedSimpArgs false
namespace Go.Proofs.YtdfkambdagoojaaGreatDoor
open Go.RowKit
theorem Cells.keepB {w w':World}{B b off c:Nat}{rs:List ByteArray}(h:Cells w (some ⟨b,off,none⟩) c rs)(hlt:b<B)(hb:Below B w w'):Cells w' (some ⟨b,off,none⟩) c rs:=fun h0=>by
 obtain⟨b',off',hA,hc,hl,hcell⟩:=h h0
 injection hA with hA
 injection hA with hA1 hA2
 subst hA1
 subst hA2
 refine⟨b,off,rfl,hc,Nat.lt_of_lt_of_le hl hb.size,fun j hj=>?_⟩
 rw[hb.cell (p:=⟨b,off+j,none⟩) hlt];exact hcell j hj
theorem padd_in (p:ByteArray)(k:Nat)(r:ByteArray)(hm:p.size≤140737488355328)(hb:isPg p=true)(hk:k<(leafP p).recs.length)(hr:mayB r=true)(w:World):
 Calls Tryz.prog 176 #[p,.int .i64 (k:Int),r] w fun e w'=>e= .returned (outV (Pg.fullO (withRecs p ((leafP p).recs.take k++[r]++(leafP p).recs.drop k))))∧Below w.heap.size w w':=by
 have HT:=Hq (fun W=>take_leaf p hm W)
 rw[hb]at HT
 have hgood:=leafP_good p
 have hln:=hgood.fine.len
 have hsm:=hgood.fine.sum
 have HY:=Hq (fun W=>may_any r W)
 change Hid (∀ W,Calls _ _ _ _ fun e w'=>e= .returned (.bool (mayB r))∧_)at HY
 rw[hr]at HY
 obtain⟨hr1,hr2⟩:=mayB_yes hr
 have hsz:Pg.sizeN ((leafP p).recs.take k++[r]++(leafP p).recs.drop k)≤1099511627776:=by
  have h1:=Pg.insAt_sum (leafP p).recs k r
  have h2:=Pg.insAt_length (leafP p).recs k r
  unfold Pg.insAt at h1 h2
  rw[if_neg (by omega)]at h1 h2
  unfold Pg.sizeN;omega
 have HU:=Hq (fun A c W hW=>full_any (withRecs p ((leafP p).recs.take k++[r]++(leafP p).recs.drop k)) A c (withRecs_small p _) hsz W hW)
 generalize Pg.fullO (withRecs p ((leafP p).recs.take k++[r]++(leafP p).recs.drop k))=o at HU ⊢
 change Hid (∀ A c W,Cells W A c ((leafP p).recs.take k++[r]++(leafP p).recs.drop k)→Calls _ _ #[.agg #[.int .i64 (leafP p).lsn,.int .i64 (leafP p).kind,.int .i64 (leafP p).link,.slice A ((leafP p).recs.take k++[r]++(leafP p).recs.drop k).length c]] _ _)at HU
 clear hsz hsm hgood hb hr hr1 hr2
 generalize leafP p=x at HT HU hln hk
 obtain⟨L,hL⟩:=ex (x.recs.take k++[r]++x.recs.drop k)
 rw[← hL]at HU
 have HL:=Hq hL
 clear hL
 have hk5:(k:Int)≤512:=by omega
 have hk0:(0:Int)≤(k:Int):=by omega
 have hkl:(k:Int)<(x.recs.length:Int):=by omega
 have hkl2:decide (x.recs.length≤k)=false:=decide_eq_false (by omega)
 go_enter Tryz.func176,Tryz.ntmps176
 go_upto_region 8 with(first|(go_at_call 122;refine(HT.out _).mono ?_;rintro e w1 ⟨A,c,rfl,hcl,hb1⟩)|(go_at_call 206;refine(HY.out _).mono ?_;rintro e w3 ⟨rfl,rfl⟩))
 obtain⟨b,off,rfl,hc,hbl,hcell⟩:=hcl.cells.at_ hk
 clear hcell
 have hkc:k<c:=by omega
 have hkc2:(k:Int)≤(c:Int):=by omega
 obtain⟨W,hW⟩:=ex (w1.alloc (.cells #[x.lsn,x.kind,x.link,.slice (some ⟨b,off,none⟩) x.recs.length c] 147 (0,0)))
 have hbW:Below w1.heap.size w1 W:=by rw[hW];exact(Below.refl _ _).alloc (Nat.le_refl _) _
 have hxW:W.heap[w1.heap.size]? =some (.cells #[x.lsn,x.kind,x.link,.slice (some ⟨b,off,none⟩) x.recs.length c] 147 (0,0)):=by rw[hW];exact heap_alloc_new w1 _
 have hszW:w1.heap.size<W.heap.size:=by rw[hW];simp
 rw[← hW]
 clear hW
 obtain⟨c0,c1,c2,c3,f0,f1,f2,f3⟩:=blk4 hxW
 have HX:=Hq hxW
 have HCC:=Hq (hcl.cells.below hbW)
 clear hcl hxW
 have hblW:b<W.heap.size:=by omega
 have HT1:=Hq (show(x.recs.take k).length=k by rw[List.length_take];omega)
 have HT2:=Hq (show(x.recs.drop k).length=x.recs.length-k by rw[List.length_drop])
 go_wp2_with (first|(at_builtin;refine wpList_appN _ rfl (.const (.slice none 0 0)) _ rfl W.heap.size (.slice none 0 0) [] rfl (OwnT.nil _ _) _ k _ (x.recs.take k) HT1.out rfl (HCC.out.take_ k) (by simp;omega) (Nat.le_refl _) ?_;intro v2 w2 hown2 hg2 hb2;rw[List.nil_append]at hown2;clear hg2;obtain⟨d0,d1,d2,d3,g0,g1,g2,g3⟩:=blk4 ((hb2.block _ hszW).trans HX.out))|(at_builtin;refine wpList_appN _ rfl (.tmp 46) _ rfl W.heap.size v2 (x.recs.take k) rfl (hown2.below ((Below.refl _ _).alloc (Nat.le_refl _) _)) _ 1 _ [r] rfl rfl (cells_one w2 _) (by rw[HT1.out];omega) (by have h1:=hb2.size;simp;omega) ?_;intro v4 w4 hown4 hg4 hb4;clear hg4;have hb4':=(hb2.trans (((Below.refl _ _).alloc hb2.size (.cells #[r] 9)).trans hb4));obtain⟨x0,x1,x2,x3,m0,m1,m2,m3⟩:=blk4 ((hb4'.block _ hszW).trans HX.out))|(at_builtin;refine wpList_appN _ rfl (.tmp 50) _ rfl W.heap.size v4 (x.recs.take k++[r]) rfl hown4 _ (x.recs.length-k) _ (x.recs.drop k) HT2.out rfl ((HCC.out.keepB hblW hb4').drop_ k) (by rw[List.length_append,HT1.out,List.length_singleton];omega) hb4'.size ?_;intro v6 w6 hown6 hg6 hb6;clear hg6;have hb6':=hb4'.trans hb6;rw[← HL.out]at hown6;obtain⟨A6,c6,rfl,hoc6,-⟩:=hown6.form;obtain⟨z0,z1,z2,z3,k0,k1,k2,k3⟩:=blk4 ((hb6'.block _ hszW).trans HX.out))|(go_at_call 207;refine(HU.out _ _ _ (OwnCells.set hoc6 ⟨w1.heap.size,3,none⟩ hszW _).cells).mono ?_;rintro e w7 ⟨rfl,hb7⟩))
 go_ret2
 exact⟨rfl,andThen (Below.setCell (hb1.trans ((hbW.trans (hb6'.mono hbW.size)).mono hb1.size)) hb1.size _) hb7⟩
theorem pdel_in (p:ByteArray)(k:Nat)(hm:p.size≤140737488355328)(hb:isPg p=true)(hk:k<(leafP p).recs.length)(hs:¬ (Pg.slotAt (leafP p).recs (k:Int)).size=0)(w:World):
 Calls Tryz.prog 177 #[p,.int .i64 (k:Int)] w fun e w'=>e= .returned (outV (Pg.fullO (withRecs p (Pg.delAt (leafP p).recs k))))∧Below w.heap.size w w':=by
 have HT:=Hq (fun W=>take_leaf p hm W)
 rw[hb]at HT
 have hgood:=leafP_good p
 have hln:=hgood.fine.len
 have hsm:=hgood.fine.sum
 have hsz:Pg.sizeN (Pg.delAt (leafP p).recs k)≤1099511627776:=Nat.le_trans (Pg.delAt_size hk) (Nat.le_trans hgood.fits (by omega))
 have HU:=Hq (fun A c W hW=>full_any (withRecs p (Pg.delAt (leafP p).recs k)) A c (withRecs_small p _) hsz W hW)
 generalize Pg.fullO (withRecs p (Pg.delAt (leafP p).recs k))=o at HU ⊢
 change Hid (∀ A c W,Cells W A c (Pg.delAt (leafP p).recs k)→Calls _ _ #[.agg #[.int .i64 (leafP p).lsn,.int .i64 (leafP p).kind,.int .i64 (leafP p).link,.slice A (Pg.delAt (leafP p).recs k).length c]] _ _)at HU
 have HA:=Hq (fun A c W hW=>at_any (leafP p) A c (k:Int) W hW)
 obtain⟨hie,hne⟩:=empty_no hs
 generalize Pg.slotAt (leafP p).recs (k:Int)=q at HA hie hne
 clear hsz hsm hgood hb hs
 generalize leafP p=x at HT HU hln hk HA
 obtain⟨L,hL⟩:=ex (Pg.delAt x.recs k)
 rw[← hL]at HU
 have HL:=Hq hL
 clear hL
 have hk5:(k:Int)≤512:=by omega
 have hk0:(0:Int)≤(k:Int):=by omega
 have hkl:(k:Int)<(x.recs.length:Int):=by omega
 have hkl2:decide (x.recs.length≤k)=false:=decide_eq_false (by omega)
 go_enter Tryz.func177,Tryz.ntmps177
 go_upto_region 6 with(first|(go_at_call 122;refine(HT.out _).mono ?_;rintro e w1 ⟨A,c,rfl,hcl,hb1⟩)|(go_at_call 205;refine(HA.out _ _ _ (hcl.cells.below ((Below.refl _ _).alloc (Nat.le_refl _) _))).mono ?_;rintro e w2 ⟨rfl,hb2⟩))
 obtain⟨b,off,rfl,hc,hbl,hcell⟩:=hcl.cells.at_ hk
 clear hcell
 have hkc:k<c:=by omega
 have hkc2:(k:Int)≤(c:Int):=by omega
 obtain⟨W,hW⟩:=ex w2
 have hbW:Below w1.heap.size w1 W:=by rw[hW];exact below_past hb2
 have hxW:W.heap[w1.heap.size]? =some (.cells #[x.lsn,x.kind,x.link,.slice (some ⟨b,off,none⟩) x.recs.length c] 147 (0,0)):=by rw[hW];exact blk_new hb2
 have hszW:w1.heap.size<W.heap.size:=by rw[hW];have:=hb2.size;simp at this;omega
 rw[← hW]
 clear hW hb2
 obtain⟨c0,c1,c2,c3,f0,f1,f2,f3⟩:=blk4 hxW
 have HX:=Hq hxW
 have HCC:=Hq (hcl.cells.below hbW)
 clear hcl hxW
 have hblW:b<W.heap.size:=by omega
 have HT1:=Hq (show(x.recs.take k).length=k by rw[List.length_take];omega)
 have HT2:=Hq (show(x.recs.drop (k+1)).length=x.recs.length-(k+1) by rw[List.length_drop])
 have hk1:((k:Int)+1).toNat=k+1:=by omega
 have hk2:(k:Int)+1≤(c:Int):=by omega
 have hk3:(k:Int)+1≤(x.recs.length:Int):=by omega
 by_cases hce:c=k+1
 ·subst hce
  go_wp2_with (first|(at_builtin;refine wpList_appN _ rfl (.const (.slice none 0 0)) _ rfl W.heap.size (.slice none 0 0) [] rfl (OwnT.nil _ _) _ k _ (x.recs.take k) HT1.out rfl (HCC.out.take_ k) (by simp;omega) (Nat.le_refl _) ?_;intro v2 w2 hown2 hg2 hb2;rw[List.nil_append]at hown2;clear hg2;obtain⟨d0,d1,d2,d3,g0,g1,g2,g3⟩:=blk4 ((hb2.block _ hszW).trans HX.out))|(at_builtin;refine wpList_appN _ rfl (.tmp 25) _ rfl W.heap.size v2 (x.recs.take k) rfl hown2 _ 0 _ (x.recs.drop (k+1)) (by rw[HT2.out];omega) rfl (Cells.nil_ _ _ _ (by rw[HT2.out];omega)) (by rw[HT1.out];omega) hb2.size ?_;intro v6 w6 hown6 hg6 hb6;clear hg6;have hb6':=hb2.trans hb6;have hown7:OwnT W.heap.size w6 v6 L:=(by rw[HL.out];exact hown6);clear hown6;obtain⟨A6,c6,rfl,hoc6,-⟩:=hown7.form;obtain⟨z0,z1,z2,z3,k0,k1,k2,k3⟩:=blk4 ((hb6'.block _ hszW).trans HX.out))|(go_at_call 207;refine(HU.out _ _ _ (OwnCells.set hoc6 ⟨w1.heap.size,3,none⟩ hszW _).cells).mono ?_;rintro e w7 ⟨rfl,hb7⟩))
  go_ret2
  exact⟨rfl,andThen (Below.setCell (hb1.trans ((hbW.trans (hb6'.mono hbW.size)).mono hb1.size)) hb1.size _) hb7⟩
 ·go_wp2_with (first|(at_builtin;refine wpList_appN _ rfl (.const (.slice none 0 0)) _ rfl W.heap.size (.slice none 0 0) [] rfl (OwnT.nil _ _) _ k _ (x.recs.take k) HT1.out rfl (HCC.out.take_ k) (by simp;omega) (Nat.le_refl _) ?_;intro v2 w2 hown2 hg2 hb2;rw[List.nil_append]at hown2;clear hg2;obtain⟨d0,d1,d2,d3,g0,g1,g2,g3⟩:=blk4 ((hb2.block _ hszW).trans HX.out))|(at_builtin;refine wpList_appN _ rfl (.tmp 25) _ rfl W.heap.size v2 (x.recs.take k) rfl hown2 _ (x.recs.length-(k+1)) _ (x.recs.drop (k+1)) HT2.out rfl ((HCC.out.keepB hblW hb2).drop_ (k+1)) (by rw[HT1.out];omega) hb2.size ?_;intro v6 w6 hown6 hg6 hb6;clear hg6;have hb6':=hb2.trans hb6;have hown7:OwnT W.heap.size w6 v6 L:=(by rw[HL.out];exact hown6);clear hown6;obtain⟨A6,c6,rfl,hoc6,-⟩:=hown7.form;obtain⟨z0,z1,z2,z3,k0,k1,k2,k3⟩:=blk4 ((hb6'.block _ hszW).trans HX.out))|(go_at_call 207;refine(HU.out _ _ _ (OwnCells.set hoc6 ⟨w1.heap.size,3,none⟩ hszW _).cells).mono ?_;rintro e w7 ⟨rfl,hb7⟩))
  go_ret2
  exact⟨rfl,andThen (Below.setCell (hb1.trans ((hbW.trans (hb6'.mono hbW.size)).mono hb1.size)) hb1.size _) hb7⟩
def addO (p:ByteArray)(i:Int)(r:ByteArray):ByteArray×Int:=
 if isPg p=false then(⟨#[]⟩,1)else if i<0 then(⟨#[]⟩,1)else if mayB r=false then(⟨#[]⟩,1)else if 512<i then(⟨#[]⟩,18)else Pg.fullO (withRecs p (Pg.insAt (leafP p).recs i.toNat r))
def delO (p:ByteArray)(i:Int):ByteArray×Int:=
 if isPg p=false then(⟨#[]⟩,1)else if(Pg.slotAt (leafP p).recs i).size=0 then(⟨#[]⟩,21)else Pg.fullO (withRecs p (Pg.delAt (leafP p).recs i.toNat))
theorem padd_any (p:ByteArray)(i:Int)(r:ByteArray)(hm:p.size≤140737488355328)(w:World):
 Calls Tryz.prog 176 #[p,i,r] w fun e w'=>e= .returned (outV (addO p i r))∧Below w.heap.size w w':=by
 have HT:=Hq (fun W=>take_leaf p hm W)
 have HY:=Hq (fun W=>may_any r W)
 change Hid (∀ W,Calls _ _ _ _ fun e w'=>e= .returned (.bool (mayB r))∧_)at HY
 have hgood:=leafP_good p
 unfold addO
 cases hb:isPg p with
 |false=>
  rw[if_pos rfl]
  rw[hb]at HT
  generalize leafP p=x at HT
  clear hgood hb HY
  go_enter Tryz.func176,Tryz.ntmps176
  go_wp2_with (first|(go_at_call 122;refine(HT.out _).mono ?_;rintro e w1 ⟨A,c,rfl,hcl,hb1⟩))
  go_ret2
  exact⟨rfl,below_past_alloc hb1⟩
 |true=>
  rw[if_neg (by simp)]
  by_cases h1:i<0
  ·rw[if_pos h1]
   rw[hb]at HT
   generalize leafP p=x at HT
   clear hgood hb HY
   go_enter Tryz.func176,Tryz.ntmps176
   go_wp2_with (first|(go_at_call 122;refine(HT.out _).mono ?_;rintro e w1 ⟨A,c,rfl,hcl,hb1⟩))
   go_ret2
   exact⟨rfl,below_past_alloc hb1⟩
  ·rw[if_neg h1]
   obtain⟨k,rfl⟩:=Int.eq_ofNat_of_zero_le (show 0≤i by omega)
   have hk0:(0:Int)≤(k:Int):=by omega
   clear h1
   rw[show((k:Int)).toNat=k from rfl]
   cases hy:mayB r with
   |false=>
    rw[if_pos rfl]
    rw[hy]at HY
    rw[hb]at HT
    generalize leafP p=x at HT
    clear hgood hb hy
    go_enter Tryz.func176,Tryz.ntmps176
    go_wp2_with (first|(go_at_call 122;refine(HT.out _).mono ?_;rintro e w1 ⟨A,c,rfl,hcl,hb1⟩)|(go_at_call 206;refine(HY.out _).mono ?_;rintro e w3 ⟨rfl,rfl⟩))
    go_ret2
    exact⟨rfl,below_past_alloc hb1⟩
   |true=>
    rw[if_neg (by simp)]
    by_cases hk:k<(leafP p).recs.length
    ·have hln:=hgood.fine.len
     rw[if_neg (by omega)]
     unfold Pg.insAt
     rw[if_neg (by omega)]
     exact padd_in p k r hm hb hk hy w
    ·by_cases h5:(512:Int)<(k:Int)
     ·rw[if_pos h5]
      rw[hb]at HT
      rw[hy]at HY
      generalize leafP p=x at HT
      clear hgood hb hy hk
      go_enter Tryz.func176,Tryz.ntmps176
      go_wp2_with (first|(go_at_call 122;refine(HT.out _).mono ?_;rintro e w1 ⟨A,c,rfl,hcl,hb1⟩)|(go_at_call 206;refine(HY.out _).mono ?_;rintro e w3 ⟨rfl,rfl⟩))
      go_ret2
      exact⟨rfl,below_past_alloc hb1⟩
     ·rw[if_neg h5]
      rw[show Pg.insAt (leafP p).recs k r=Pg.putAt (leafP p).recs k r from if_pos (by omega)]
      obtain⟨hr1,hr2⟩:=mayB_yes hy
      have hln:=hgood.fine.len
      have hsm:=hgood.fine.sum
      have hps:=Pg.putAt_size (leafP p).recs k r
      have HW:=Hq (fun A c W hW=>with_any (leafP p) A c k r (by omega) (by omega) W hW)
      have HU:=Hq (fun A c W hW=>full_any (withRecs p (Pg.putAt (leafP p).recs k r)) A c (withRecs_small p _) (by show Pg.sizeN (Pg.putAt _ _ _)≤_;omega) W hW)
      change Hid (∀ A c W,Cells W A c (leafP p).recs→Calls _ _ _ _ fun e w'=>∃ A' c',e= .returned (leafV (withRecs p (Pg.putAt (leafP p).recs k r)) A' c')∧OwnCells _ w' A' c' (withRecs p (Pg.putAt (leafP p).recs k r)).recs∧_)at HW
      rw[hb]at HT
      rw[hy]at HY
      clear hps hln hsm hr1 hr2 hgood hb hy
      generalize withRecs p (Pg.putAt (leafP p).recs k r)=y at HW HU ⊢
      generalize Pg.fullO y=o at HU ⊢
      generalize leafP p=x at HT HW hk
      have hkl:(x.recs.length:Int)≤(k:Int):=by omega
      go_enter Tryz.func176,Tryz.ntmps176
      go_wp2_with (first|(go_at_call 122;refine(HT.out _).mono ?_;rintro e w1 ⟨A,c,rfl,hcl,hb1⟩)|(go_at_call 206;refine(HY.out _).mono ?_;rintro e w3 ⟨rfl,rfl⟩)|(go_at_call 208;refine(HW.out _ _ _ (hcl.cells.below ((Below.refl _ _).alloc (Nat.le_refl _) _))).mono ?_;rintro e w4 ⟨A',c',rfl,ho4,hb4⟩)|(go_at_call 207;refine(HU.out _ _ _ ho4.cells).mono ?_;rintro e w5 ⟨rfl,hb5⟩))
      go_ret2
      exact⟨rfl,andThen (andThen (below_past_alloc hb1) hb4) hb5⟩
theorem pdel_any (p:ByteArray)(i:Int)(hm:p.size≤140737488355328)(w:World):
 Calls Tryz.prog 177 #[p,i] w fun e w'=>e= .returned (outV (delO p i))∧Below w.heap.size w w':=by
 have HT:=Hq (fun W=>take_leaf p hm W)
 have HA:=Hq (fun A c W hW=>at_any (leafP p) A c i W hW)
 unfold delO
 cases hb:isPg p with
 |false=>
  rw[if_pos rfl]
  rw[hb]at HT
  generalize leafP p=x at HT
  clear hb HA
  go_enter Tryz.func177,Tryz.ntmps177
  go_wp2_with (first|(go_at_call 122;refine(HT.out _).mono ?_;rintro e w1 ⟨A,c,rfl,hcl,hb1⟩))
  go_ret2
  exact⟨rfl,below_past_alloc hb1⟩
 |true=>
  rw[if_neg (by simp)]
  by_cases h2:(Pg.slotAt (leafP p).recs i).size=0
  ·rw[if_pos h2]
   rw[hb]at HT
   clear hb
   rw[empty_yes h2]at HA
   generalize leafP p=x at HT HA
   clear h2
   go_enter Tryz.func177,Tryz.ntmps177
   go_wp2_with (first|(go_at_call 122;refine(HT.out _).mono ?_;rintro e w1 ⟨A,c,rfl,hcl,hb1⟩)|(go_at_call 205;refine(HA.out _ _ _ (hcl.cells.below ((Below.refl _ _).alloc (Nat.le_refl _) _))).mono ?_;rintro e w2 ⟨rfl,hb2⟩;obtain⟨c0,c1,c2,c3,f0,f1,f2,f3⟩:=blk4 (blk_new hb2)))
   go_ret2
   exact⟨rfl,andThen hb1 (below_past hb2)⟩
  ·rw[if_neg h2]
   obtain⟨hi0,hi1⟩:=Pg.slotAt_lt h2
   obtain⟨k,rfl⟩:=Int.eq_ofNat_of_zero_le hi0
   rw[show((k:Int)).toNat=k from rfl]
   exact pdel_in p k hm hb (by omega) h2 w
theorem bytes_eq {p q:ByteArray}(h:p.data.toList=q.data.toList):p=q:=ByteArray.ext (Array.toList_inj.1 h)
theorem isPg_of {p:ByteArray}{x:Pg.Leaf}(h:Pg.right p.data.toList=some x):isPg p=true∧leafP p=x:=by
 unfold isPg leafP Pg.leafOf
 rw[h]
 exact⟨rfl,rfl⟩
theorem right_of_isPg {p:ByteArray}(h:isPg p=true):Pg.right p.data.toList=some (leafP p):=by
 unfold isPg at h
 unfold leafP Pg.leafOf
 cases hr:Pg.right p.data.toList with
 |none=>rw[hr]at h;cases h
 |some x=>rfl
theorem size_list (p:ByteArray):p.data.toList.length=p.size:=by simp
def pageB (x:Pg.Leaf):ByteArray:=⟨(Pg.layL x).toArray⟩
theorem pageB_list (x:Pg.Leaf):(pageB x).data.toList=Pg.layL x:=rfl
theorem pageB_size {x:Pg.Leaf}(hs:Pg.sizeN (Pg.trim x.recs)≤512):(pageB x).size=512:=by
 rw[← size_list,pageB_list];exact Pg.layL_length hs
theorem pageB_is {x:Pg.Leaf}(hx:Pg.Small x)(hs:Pg.sizeN (Pg.trim x.recs)≤512)(he:∀ r∈x.recs,r.size≤400):isPg (pageB x)=true∧leafP (pageB x)={x with recs:=Pg.trim x.recs}:=
 isPg_of (by rw[pageB_list];exact Pg.right_layL hx hs he)
theorem fullO_pageB {x:Pg.Leaf}(hs:Pg.sizeN (Pg.trim x.recs)≤512):Pg.fullO x=(pageB x,0):=Pg.fullO_yes hs
theorem fullO_cases (x:Pg.Leaf):(Pg.sizeN (Pg.trim x.recs)≤512∧Pg.fullO x=(pageB x,0))∨(512<Pg.sizeN (Pg.trim x.recs)∧Pg.fullO x=(⟨#[]⟩,18)):=by
 rcases Nat.lt_or_ge 512 (Pg.sizeN (Pg.trim x.recs))with h|h
 ·exact .inr ⟨h,Pg.fullO_no h⟩
 ·exact .inl ⟨h,Pg.fullO_yes h⟩
theorem putB4 (n:Nat):(Oct.putB (n:Int) 4).data.toList=Oct.putL (Oct.word n) 4:=Oct.putB_list _ 4 (by omega)
theorem sealT_list (t:ByteArray):(sealT t).data.toList=Oct.putL (Oct.word (Oct.sumN t.data.toList)) 4++t.data.toList:=by
 unfold sealT
 rw[ByteArray.data_append,Array.toList_append,putB4]
theorem pgextract_list (p:ByteArray)(h:p.size=512):(p.extract 4 512).data.toList=p.data.toList.drop 4:=by
 rw[show 512=4+508 from rfl,extract_eq]
 show(p.data.toList.drop 4).take 508=_
 exact List.take_of_length_le (by rw[List.length_drop,size_list];omega)
theorem sealB_is {p:ByteArray}(h:isPg p=true):isPg (sealB p)=true∧leafP (sealB p)=leafP p∧sealedP (sealB p)=true∧(sealB p).size=512:=by
 have h5:=isPg_size h
 have hl:(sealB p).data.toList=Oct.putL (Oct.word (Oct.sumN (p.data.toList.drop 4))) 4++p.data.toList.drop 4:=by
  unfold sealB
  rw[if_pos h,sealT_list,pgextract_list p h5]
 have hz:(sealB p).size=512:=by
  rw[← size_list,hl,List.length_append,Oct.putL_length,List.length_drop,size_list];omega
 have hd:(sealB p).data.toList.drop 4=p.data.toList.drop 4:=by rw[hl];exact List.drop_left' (Oct.putL_length _ 4)
 have hr:=Pg.right_sum (q:=(sealB p).data.toList) (right_of_isPg h) (by rw[size_list];exact hz) hd
 obtain⟨h1,h2⟩:=isPg_of hr
 refine⟨h1,h2,?_,hz⟩
 unfold sealedP
 rw[h1,Bool.true_and]
 apply decide_eq_true
 apply bytes_eq
 rw[sealT_list,pgextract_list _ hz,hd]
 exact hl.symm
end Go.Proofs.YtdfkambdagoojaaGreatDoor
namespace Pg
def rec_ (rs:List ByteArray)(j:Nat):ByteArray:=(rs[j]?).getD ⟨#[]⟩
theorem rec_past {rs:List ByteArray}{j:Nat}(h:rs.length≤j):rec_ rs j=⟨#[]⟩:=by
 unfold rec_;rw[List.getElem?_eq_none h];rfl
theorem rec_in {rs:List ByteArray}{j:Nat}(h:j<rs.length):rec_ rs j=rs[j]:=by
 unfold rec_;rw[List.getElem?_eq_getElem h];rfl
theorem slotAt_rec (rs:List ByteArray)(k:Nat):slotAt rs (k:Int)=rec_ rs k:=by
 unfold slotAt rec_
 rw[if_neg (by omega)];rfl
theorem nil_of_size {r:ByteArray}(h:r.size=0):r=⟨#[]⟩:=by
 apply ByteArray.ext
 exact Array.eq_empty_of_size_eq_zero h
theorem trimN_rest (rs:List ByteArray):∀ m j,trimN rs m≤j→j<m→(rec_ rs j).size=0:=by
 intro m
 induction m with
 |zero=>intro j _ h;omega
 |succ m ih=>
  intro j h1 h2
  unfold trimN at h1
  split at h1
  ·rename_i h0
   by_cases hj:j=m
   ·rw[hj];exact h0
   ·exact ih j h1 (by omega)
  ·omega
theorem trim_rec (rs:List ByteArray)(j:Nat):rec_ (trim rs) j=rec_ rs j:=by
 have hle:=trimN_le rs rs.length
 by_cases h:j<trimN rs rs.length
 ·unfold rec_ trim
  rw[List.getElem?_take_of_lt h]
 ·have h1:rec_ (trim rs) j=⟨#[]⟩:=rec_past (by unfold trim;rw[List.length_take];omega)
  rw[h1]
  by_cases hj:j<rs.length
  ·exact(nil_of_size (trimN_rest rs rs.length j (by omega) hj)).symm
  ·exact(rec_past (by omega)).symm
theorem tight_ext {rs ss:List ByteArray}(h1:Tight rs)(h2:Tight ss)(h:∀ j,rec_ rs j=rec_ ss j):rs=ss:=by
 have key:∀ {a b:List ByteArray},Tight a→(∀ j,rec_ a j=rec_ b j)→a.length≤b.length:=by
  intro a b ha hab
  rcases tight_last ha with h0|h0
  ·omega
  ·rcases Nat.lt_or_ge b.length a.length with hlt|hge
   ·exfalso
    apply h0
    have h3:=hab (a.length-1)
    have h4:rec_ b (a.length-1)=⟨#[]⟩:=rec_past (by omega)
    rw[h4]at h3
    unfold rec_ at h3
    rw[h3];rfl
   ·exact hge
 have hl:rs.length=ss.length:=Nat.le_antisymm (key h1 h) (key h2 fun j=>(h j).symm)
 apply List.ext_getElem hl
 intro j hj1 hj2
 have:=h j
 rwa[rec_in hj1,rec_in hj2]at this
theorem trim_ext {rs ss:List ByteArray}(h:∀ j,rec_ rs j=rec_ ss j):trim rs=trim ss:=
 tight_ext (trim_trim rs) (trim_trim ss) fun j=>by rw[trim_rec,trim_rec,h]
theorem putAt_rec (rs:List ByteArray)(k:Nat)(r:ByteArray)(j:Nat):rec_ (putAt rs k r) j=if j=k then r else rec_ rs j:=putAt_get rs k r j
theorem insAt_rec (rs:List ByteArray)(k:Nat)(r:ByteArray)(j:Nat):rec_ (insAt rs k r) j=if j<k then rec_ rs j else if j=k then r else rec_ rs (j-1):=by
 unfold insAt
 split
 ·rename_i h
  rw[putAt_rec]
  by_cases h1:j=k
  ·rw[if_pos h1,if_neg (by omega),if_pos h1]
  ·rw[if_neg h1]
   by_cases h2:j<k
   ·rw[if_pos h2]
   ·rw[if_neg h2,if_neg h1,rec_past (by omega),rec_past (by omega)]
 ·rename_i h
  unfold rec_
  rw[List.append_assoc,List.getElem?_append]
  have hl:(rs.take k).length=k:=by rw[List.length_take];omega
  rw[hl]
  by_cases h2:j<k
  ·rw[if_pos h2,if_pos h2,List.getElem?_take_of_lt h2]
  ·rw[if_neg h2,if_neg h2,List.singleton_append]
   by_cases h1:j=k
   ·rw[if_pos h1,h1,Nat.sub_self];rfl
   ·rw[if_neg h1]
    obtain⟨m,rfl⟩:∃ m,j=k+1+m:=⟨j-(k+1),by omega⟩
    rw[show k+1+m-k=m+1 by omega,List.getElem?_cons_succ,List.getElem?_drop,show k+1+m-1=k+m by omega]
theorem delAt_rec (rs:List ByteArray)(k:Nat)(h:k<rs.length)(j:Nat):rec_ (delAt rs k) j=if j<k then rec_ rs j else rec_ rs (j+1):=by
 unfold delAt rec_
 rw[List.getElem?_append]
 have hl:(rs.take k).length=k:=by rw[List.length_take];omega
 rw[hl]
 by_cases h2:j<k
 ·rw[if_pos h2,if_pos h2,List.getElem?_take_of_lt h2]
 ·rw[if_neg h2,if_neg h2,List.getElem?_drop,show k+1+(j-k)=j+1 by omega]
end Pg
namespace Go.Proofs.YtdfkambdagoojaaGreatDoor
open Go.RowKit
structure Made (p q:ByteArray) (rs:List ByteArray):Prop where
 isPg:isPg q=true
 size:q.size=512
 lsn:(leafP q).lsn=(leafP p).lsn
 kind:(leafP q).kind=(leafP p).kind
 link:(leafP q).link=(leafP p).link
 rec_:∀ j,Pg.rec_ (leafP q).recs j=Pg.rec_ rs j
theorem full_made {p q:ByteArray}{rs:List ByteArray}{e:Int}(he:∀ r∈rs,r.size≤400)(h:Pg.fullO (withRecs p rs)=(q,e))(h0:e=0):Made p q rs∧q=pageB (withRecs p rs):=by
 rcases fullO_cases (withRecs p rs)with⟨hs,h1⟩|⟨hs,h1⟩
 ·rw[h1]at h
  injection h with hq _
  obtain⟨h2,h3⟩:=pageB_is (withRecs_small p rs) hs he
  rw[hq]at h2 h3
  refine⟨⟨h2,by rw[← hq];exact pageB_size hs,by rw[h3];rfl,by rw[h3];rfl,by rw[h3];rfl,fun j=>?_⟩,hq.symm⟩
  rw[h3]
  exact Pg.trim_rec rs j
 ·rw[h1]at h
  injection h with _ h4
  omega
theorem plain_page {p:ByteArray}(h:isPg p=true):lsnB p ((leafP p).lsn:Nat)=pageB (leafP p):=by
 have h1:=(leafP_good p).fine.small.1
 unfold lsnB
 rw[if_neg (by rw[h];simp;omega)]
 rfl
theorem back_page {p q:ByteArray}{rs:List ByteArray}(hp:isPg p=true)(h1:(leafP q).lsn=(leafP p).lsn)(h2:(leafP q).kind=(leafP p).kind)(h3:(leafP q).link=(leafP p).link)(h:∀ j,Pg.rec_ rs j=Pg.rec_ (leafP p).recs j):
 Pg.fullO (withRecs q rs)=(lsnB p ((leafP p).lsn:Nat),0):=by
 have hg:=leafP_good p
 have ht:Pg.trim rs=(leafP p).recs:=by rw[Pg.trim_ext h];exact Pg.trim_of_tight hg.tight
 have hs:Pg.sizeN (Pg.trim (withRecs q rs).recs)≤512:=by show Pg.sizeN (Pg.trim rs)≤512;rw[ht];exact hg.fits
 rw[plain_page hp,fullO_pageB hs]
 have e:Pg.layL (withRecs q rs)=Pg.layL (leafP p):=by
  unfold Pg.layL
  have e1:(withRecs q rs).recs=rs:=rfl
  rw[e1,ht,Pg.trim_of_tight hg.tight]
  unfold Pg.layR Pg.headL
  rw[show(withRecs q rs).lsn=(leafP p).lsn from h1,show(withRecs q rs).kind=(leafP p).kind from h2,show(withRecs q rs).link=(leafP p).link from h3]
 unfold pageB
 rw[e]
theorem out_eq {a b:ByteArray}{x y:Int}(h:(a,x)=(b,y)):a=b∧x=y:=by injection h with h1 h2;exact⟨h1,h2⟩
theorem not_false_true {b:Bool}(h:¬ b=false):b=true:=by cases b;exact absurd rfl h;rfl
theorem leaf_each (p:ByteArray):∀ r∈(leafP p).recs,r.size≤400:=(leafP_good p).fine.each
theorem putO_ok {p q r:ByteArray}{i:Int}(h:putO p i r=(q,0)):∃ k:Nat,i=k∧isPg p=true∧(Pg.rec_ (leafP p).recs k).size=0∧mayB r=true∧k≤512∧Made p q (Pg.putAt (leafP p).recs k r):=by
 unfold putO at h
 split at h
 ·have:=(out_eq h).2;omega
 ·rename_i h1
  split at h
  ·have:=(out_eq h).2;omega
  ·rename_i h2
   obtain⟨k,rfl⟩:=Int.eq_ofNat_of_zero_le (show 0≤i by omega)
   rw[Pg.slotAt_rec]at h
   split at h
   ·have:=(out_eq h).2;omega
   ·rename_i h3
    split at h
    ·have:=(out_eq h).2;omega
    ·rename_i h4
     split at h
     ·have:=(out_eq h).2;omega
     ·rename_i h5
      have hm:mayB r=true:=by simpa using h4
      refine⟨k,rfl,not_false_true h1,by simpa using h3,hm,by omega,(full_made (Pg.putAt_mem (leaf_each p) (mayB_yes hm).2) h rfl).1⟩
theorem cutO_ok {p q:ByteArray}{i:Int}(h:cutO p i=(q,0)):∃ k:Nat,i=k∧isPg p=true∧(Pg.rec_ (leafP p).recs k).size≠0∧k<(leafP p).recs.length∧Made p q (Pg.putAt (leafP p).recs k ⟨#[]⟩):=by
 unfold cutO at h
 split at h
 ·have:=(out_eq h).2;omega
 ·rename_i h1
  split at h
  ·have:=(out_eq h).2;omega
  ·rename_i h2
   obtain⟨h3,h4⟩:=Pg.slotAt_lt h2
   obtain⟨k,rfl⟩:=Int.eq_ofNat_of_zero_le h3
   rw[Pg.slotAt_rec]at h2
   exact⟨k,rfl,not_false_true h1,h2,by omega,(full_made (Pg.putAt_mem (leaf_each p) (by show(0:Nat)≤400;omega)) h rfl).1⟩
theorem setO_ok {p q r:ByteArray}{i:Int}(h:setO p i r=(q,0)):∃ k:Nat,i=k∧isPg p=true∧mayB r=true∧(Pg.rec_ (leafP p).recs k).size≠0∧k<(leafP p).recs.length∧Made p q (Pg.putAt (leafP p).recs k r):=by
 unfold setO at h
 split at h
 ·have:=(out_eq h).2;omega
 ·rename_i h1
  split at h
  ·have:=(out_eq h).2;omega
  ·rename_i h5
   split at h
   ·have:=(out_eq h).2;omega
   ·rename_i h2
    have hm:mayB r=true:=by simpa using h5
    obtain⟨h3,h4⟩:=Pg.slotAt_lt h2
    obtain⟨k,rfl⟩:=Int.eq_ofNat_of_zero_le h3
    rw[Pg.slotAt_rec]at h2
    exact⟨k,rfl,not_false_true h1,hm,h2,by omega,(full_made (Pg.putAt_mem (leaf_each p) (mayB_yes hm).2) h rfl).1⟩
theorem addO_ok {p q r:ByteArray}{i:Int}(h:addO p i r=(q,0)):∃ k:Nat,i=k∧isPg p=true∧mayB r=true∧k≤512∧Made p q (Pg.insAt (leafP p).recs k r):=by
 unfold addO at h
 split at h
 ·have:=(out_eq h).2;omega
 ·rename_i h1
  split at h
  ·have:=(out_eq h).2;omega
  ·rename_i h2
   obtain⟨k,rfl⟩:=Int.eq_ofNat_of_zero_le (show 0≤i by omega)
   split at h
   ·have:=(out_eq h).2;omega
   ·rename_i h5
    split at h
    ·have:=(out_eq h).2;omega
    ·have hm:mayB r=true:=by simpa using h5
     exact⟨k,rfl,not_false_true h1,hm,by omega,(full_made (Pg.insAt_mem (leaf_each p) (mayB_yes hm).2) h rfl).1⟩
theorem delO_ok {p q:ByteArray}{i:Int}(h:delO p i=(q,0)):∃ k:Nat,i=k∧isPg p=true∧(Pg.rec_ (leafP p).recs k).size≠0∧k<(leafP p).recs.length∧Made p q (Pg.delAt (leafP p).recs k):=by
 unfold delO at h
 split at h
 ·have:=(out_eq h).2;omega
 ·rename_i h1
  split at h
  ·have:=(out_eq h).2;omega
  ·rename_i h2
   obtain⟨h3,h4⟩:=Pg.slotAt_lt h2
   obtain⟨k,rfl⟩:=Int.eq_ofNat_of_zero_le h3
   rw[Pg.slotAt_rec]at h2
   exact⟨k,rfl,not_false_true h1,h2,by omega,(full_made (Pg.delAt_mem (leaf_each p)) h rfl).1⟩
theorem rec_lt {rs:List ByteArray}{k:Nat}(h:(Pg.rec_ rs k).size≠0):k<rs.length:=by
 rcases Nat.lt_or_ge k rs.length with h1|h1
 ·exact h1
 ·rw[Pg.rec_past h1]at h;exact absurd rfl h
theorem rec_may {p:ByteArray}{k:Nat}(h:(Pg.rec_ (leafP p).recs k).size≠0):mayB (Pg.rec_ (leafP p).recs k)=true:=by
 unfold mayB
 apply decide_eq_true
 have hl:=rec_lt h
 refine⟨by omega,?_⟩
 rw[Pg.rec_in hl]
 exact leaf_each p _ (List.getElem_mem hl)
theorem putO_do {p r:ByteArray}{k:Nat}(h1:isPg p=true)(h2:(Pg.rec_ (leafP p).recs k).size=0)(h3:mayB r=true)(h4:k≤512):putO p k r=Pg.fullO (withRecs p (Pg.putAt (leafP p).recs k r)):=by
 unfold putO
 rw[if_neg (by rw[h1];simp),if_neg (by omega),if_neg (by rw[Pg.slotAt_rec];omega),if_neg (by rw[h3];simp),if_neg (by omega)];rfl
theorem cutO_do {p:ByteArray}{k:Nat}(h1:isPg p=true)(h2:(Pg.rec_ (leafP p).recs k).size≠0):cutO p k=Pg.fullO (withRecs p (Pg.putAt (leafP p).recs k ⟨#[]⟩)):=by
 unfold cutO
 rw[if_neg (by rw[h1];simp),if_neg (by rw[Pg.slotAt_rec];exact h2)];rfl
theorem setO_do {p r:ByteArray}{k:Nat}(h1:isPg p=true)(h3:mayB r=true)(h2:(Pg.rec_ (leafP p).recs k).size≠0):setO p k r=Pg.fullO (withRecs p (Pg.putAt (leafP p).recs k r)):=by
 unfold setO
 rw[if_neg (by rw[h1];simp),if_neg (by rw[h3];simp),if_neg (by rw[Pg.slotAt_rec];exact h2)];rfl
theorem addO_do {p r:ByteArray}{k:Nat}(h1:isPg p=true)(h3:mayB r=true)(h4:k≤512):addO p k r=Pg.fullO (withRecs p (Pg.insAt (leafP p).recs k r)):=by
 unfold addO
 rw[if_neg (by rw[h1];simp),if_neg (by omega),if_neg (by rw[h3];simp),if_neg (by omega)];rfl
theorem delO_do {p:ByteArray}{k:Nat}(h1:isPg p=true)(h2:(Pg.rec_ (leafP p).recs k).size≠0):delO p k=Pg.fullO (withRecs p (Pg.delAt (leafP p).recs k)):=by
 unfold delO
 rw[if_neg (by rw[h1];simp),if_neg (by rw[Pg.slotAt_rec];exact h2)];rfl
def plB (p:ByteArray):ByteArray:=lsnB p ((leafP p).lsn:Nat)
theorem back1 {p q r:ByteArray}{i:Int}(h:putO p i r=(q,0)):(Pg.slotAt (leafP p).recs i).size=0∧q.size=512∧cutO q i=(plB p,0):=by
 obtain⟨k,rfl,hp,h0,hm,hk,M⟩:=putO_ok h
 have hr:=mayB_yes hm
 refine⟨by rw[Pg.slotAt_rec];exact h0,M.size,?_⟩
 rw[cutO_do M.isPg (by rw[M.rec_,Pg.putAt_rec,if_pos rfl];omega)]
 refine back_page hp M.lsn M.kind M.link fun j=>?_
 rw[Pg.putAt_rec,M.rec_,Pg.putAt_rec]
 by_cases hj:j=k
 ·rw[if_pos hj,hj,Pg.nil_of_size h0]
 ·rw[if_neg hj,if_neg hj]
theorem back2 {p q:ByteArray}{i:Int}(h:cutO p i=(q,0)):(Pg.slotAt (leafP p).recs i).size≠0∧q.size=512∧putO q i (Pg.slotAt (leafP p).recs i)=(plB p,0):=by
 obtain⟨k,rfl,hp,h0,hk,M⟩:=cutO_ok h
 have hl:=(leafP_good p).fine.len
 rw[Pg.slotAt_rec]
 refine⟨h0,M.size,?_⟩
 rw[putO_do M.isPg (by rw[M.rec_,Pg.putAt_rec,if_pos rfl];rfl) (rec_may h0) (by omega)]
 refine back_page hp M.lsn M.kind M.link fun j=>?_
 rw[Pg.putAt_rec,M.rec_,Pg.putAt_rec]
 by_cases hj:j=k
 ·rw[if_pos hj,hj]
 ·rw[if_neg hj,if_neg hj]
theorem back3 {p q r:ByteArray}{i:Int}(h:setO p i r=(q,0)):(Pg.slotAt (leafP p).recs i).size≠0∧q.size=512∧setO q i (Pg.slotAt (leafP p).recs i)=(plB p,0)∧(leafP q).lsn=(leafP p).lsn∧(leafP q).kind=(leafP p).kind∧(leafP q).link=(leafP p).link:=by
 obtain⟨k,rfl,hp,hm,h0,hk,M⟩:=setO_ok h
 have hr:=mayB_yes hm
 rw[Pg.slotAt_rec]
 refine⟨h0,M.size,?_,M.lsn,M.kind,M.link⟩
 rw[setO_do M.isPg (rec_may h0) (by rw[M.rec_,Pg.putAt_rec,if_pos rfl];omega)]
 refine back_page hp M.lsn M.kind M.link fun j=>?_
 rw[Pg.putAt_rec,M.rec_,Pg.putAt_rec]
 by_cases hj:j=k
 ·rw[if_pos hj,hj]
 ·rw[if_neg hj,if_neg hj]
theorem back4 {p q r:ByteArray}{i:Int}(h:addO p i r=(q,0)):q.size=512∧delO q i=(plB p,0):=by
 obtain⟨k,rfl,hp,hm,hk,M⟩:=addO_ok h
 have hr:=mayB_yes hm
 refine⟨M.size,?_⟩
 have h1:(Pg.rec_ (leafP q).recs k).size≠0:=by rw[M.rec_,Pg.insAt_rec,if_neg (by omega),if_pos rfl];omega
 rw[delO_do M.isPg h1]
 refine back_page hp M.lsn M.kind M.link fun j=>?_
 rw[Pg.delAt_rec _ _ (rec_lt h1)]
 by_cases hj:j<k
 ·rw[if_pos hj,M.rec_,Pg.insAt_rec,if_pos hj]
 ·rw[if_neg hj,M.rec_,Pg.insAt_rec,if_neg (by omega),if_neg (by omega),Nat.add_sub_cancel]
theorem back5 {p q:ByteArray}{i:Int}(h:delO p i=(q,0)):q.size=512∧addO q i (Pg.slotAt (leafP p).recs i)=(plB p,0):=by
 obtain⟨k,rfl,hp,h0,hk,M⟩:=delO_ok h
 have hl:=(leafP_good p).fine.len
 rw[Pg.slotAt_rec]
 refine⟨M.size,?_⟩
 rw[addO_do M.isPg (rec_may h0) (by omega)]
 refine back_page hp M.lsn M.kind M.link fun j=>?_
 rw[Pg.insAt_rec,M.rec_,M.rec_,Pg.delAt_rec _ _ hk,Pg.delAt_rec _ _ hk]
 by_cases hj:j<k
 ·rw[if_pos hj,if_pos hj]
 ·rw[if_neg hj]
  by_cases hj2:j=k
  ·rw[if_pos hj2,hj2]
  ·rw[if_neg hj2,if_neg (by omega),show j-1+1=j by omega]
end Go.Proofs.YtdfkambdagoojaaGreatDoor
namespace NumPlain
def inN (n:Int):Bool:=decide (-1000000000000000≤n)&&decide (n≤1000000000000000)
theorem inN_true {n:Int}(h:inN n=true): -1000000000000000≤n∧n≤1000000000000000:=by
 simpa[inN]using h
theorem inN_of {n:Int}(h1: -1000000000000000≤n)(h2:n≤1000000000000000):inN n=true:=by
 simp[inN,h1,h2]
def sizeN (a:Int):Int:=if a<0 then -a else a
open Go.Lib
theorem digit_toNat {d:Nat}(h:d<10):(UInt8.ofNat (48+d)).toNat=48+d:=by
 rw[UInt8.toNat_ofNat'];omega
theorem parse_digits:∀ (u:Nat),u≤1000000000000000→parseUint10 0 (decDigits u)= .ok u:=by
 have key:∀ (u:Nat),u≤1000000000000000→∀ r,parseUint10 0 (decDigits u++r)=parseUint10 u r:=by
  intro u
  induction u using Nat.strongRecOn with
  |_ u ih=>
   intro hu r
   rw[decDigits]
   by_cases h:u<10
   ·rw[dif_pos h]
    simp only[List.cons_append,List.nil_append,parseUint10,digit_toNat h]
    rw[if_pos (by omega),if_neg (by omega),if_neg (by omega)]
    congr 1;omega
   ·rw[dif_neg h,List.append_assoc,ih (u/10) (by omega) (by omega)]
    simp only[List.cons_append,List.nil_append,parseUint10,digit_toNat (show u%10<10 by omega)]
    rw[if_pos (by omega),if_neg (by omega),if_neg (by omega)]
    congr 1;omega
 intro u hu
 have:=key u hu []
 simpa[parseUint10]using this
theorem decDigits_ne (u:Nat):decDigits u≠[]:=by
 rw[decDigits];split<;>simp
theorem decDigits_head (u:Nat):∃ c r,decDigits u=c::r∧48≤c.toNat∧c.toNat≤57:=by
 induction u using Nat.strongRecOn with
 |_ u ih=>
  rw[decDigits]
  by_cases h:u<10
  ·rw[dif_pos h]
   exact⟨_,_,rfl,by rw[digit_toNat h];omega,by rw[digit_toNat h];omega⟩
  ·rw[dif_neg h]
   obtain⟨c,r,e,h1,h2⟩:=ih (u/10) (by omega)
   exact⟨c,r++[UInt8.ofNat (48+u%10)],by rw[e];rfl,h1,h2⟩
theorem atoiAll_itoa {v:Int}(hv:inN v=true):atoiAll (itoa v)= .ok v:=by
 obtain⟨h1,h2⟩:=inN_true hv
 by_cases hn:v<0
 ·obtain⟨u,rfl⟩:∃ u:Nat,v= -(u:Int):=⟨v.natAbs,by omega⟩
  rw[itoa_neg u (by omega)]
  have hp:parseMag (decDigits u)= .ok u:=by rw[parseMag,if_neg (decDigits_ne u),parse_digits u (by omega)]
  simp only[atoiAll]
  rw[if_pos (by decide),hp]
  simp only[]
  rw[if_neg (by simp),if_neg (by omega),if_pos (by decide)]
 ·obtain⟨u,rfl⟩:∃ u:Nat,v=(u:Int):=⟨v.natAbs,by omega⟩
  rw[itoa_nonneg u]
  obtain⟨c,r,e,hc1,hc2⟩:=decDigits_head u
  have hp:=parse_digits u (by omega)
  rw[e]at hp
  simp only[e,atoiAll]
  rw[if_neg (by omega)]
  simp only[parseMag,if_neg (List.cons_ne_nil c r),hp]
  rw[if_neg (by omega),if_neg (by omega),if_neg (by omega)]
def digits:ByteArray:=⟨#[48,49,50,51,52,53,54,55,56,57]⟩
end NumPlain
namespace Go.Proofs.YtdfkambdagoojaaGreatDoor
open Go.RowKit
structure Cop where
 kind:Int
 slot:Int
 old:ByteArray
 new:ByteArray
def itoaB (n:Int):ByteArray:=⟨(Lib.itoa n).toArray⟩
def noPage:ByteArray×Bool:=(⟨#[]⟩,false)
def okB (x:ByteArray×Int):ByteArray×Bool:=(x.1,decide (x.2=0))
def oldIs (p:ByteArray)(o:Cop):Bool:= !decide ((Pg.slotAt (leafP p).recs o.slot).size=0)&&decide (o.old=Pg.slotAt (leafP p).recs o.slot)
def linkedO (p:ByteArray)(o:Cop):ByteArray×Bool:=
 match Lib.atoiAll o.new.data.toList with
 | .ok n=>if itoaB n=o.new∧o.old=itoaB ((leafP p).link:Nat)∧o.slot=0 then(linkB p n,!decide ((linkB p n).size=0))else noPage
 |_=>noPage
def wholeO (p:ByteArray)(o:Cop):ByteArray×Bool:=
 if o.slot=0∧o.old=lsnB p 0∧¬ o.new.size=0∧lsnB o.new 0=o.new then(lsnB o.new ((leafP p).lsn:Nat),!decide ((lsnB o.new ((leafP p).lsn:Nat)).size=0))else noPage
def madeO (p:ByteArray)(o:Cop):ByteArray×Bool:=
 if o.kind=1 then(if o.old.size=0 then okB (putO p o.slot o.new)else noPage)
 else if o.kind=2 then(if oldIs p o&&decide (o.new.size=0)then okB (cutO p o.slot)else noPage)
 else if o.kind=3 then(if oldIs p o then okB (setO p o.slot o.new)else noPage)
 else if o.kind=4 then(if o.old.size=0 then okB (addO p o.slot o.new)else noPage)
 else if o.kind=5 then(if oldIs p o&&decide (o.new.size=0)then okB (delO p o.slot)else noPage)
 else if o.kind=6 then linkedO p o
 else if o.kind=7 then wholeO p o
 else noPage
def rightO (p:ByteArray)(o:Cop):Bool:=isPg p&&(madeO p o).2
def doO (p:ByteArray)(o:Cop):ByteArray×Int:=if rightO p o then((madeO p o).1,0)else(⟨#[]⟩,1)
def backK (k:Int):Int:=if k=1 then 2 else if k=2 then 1 else if k=4 then 5 else if k=5 then 4 else k
def backO (o:Cop):Cop:=⟨backK o.kind,o.slot,o.new,o.old⟩
theorem okB_yes {x:ByteArray×Int}(h:(okB x).2=true):x=(x.1,0):=by
 obtain⟨a,e⟩:=x
 have:e=0:=of_decide_eq_true h
 rw[this]
theorem size_ne {p:ByteArray}{n:Int}(h:¬ (lsnB p n).size=0):isPg p=true∧0≤n∧n<281474976710656:=by
 unfold lsnB at h
 split at h
 ·exact absurd rfl h
 ·rename_i h1
  cases hp:isPg p with
  |false=>exact absurd (.inl hp) h1
  |true=>exact⟨rfl,by omega,by omega⟩
theorem size_ne_link {p:ByteArray}{n:Int}(h:¬ (linkB p n).size=0):isPg p=true∧0≤n∧n<16777216:=by
 unfold linkB at h
 split at h
 ·exact absurd rfl h
 ·rename_i h1
  cases hp:isPg p with
  |false=>exact absurd (.inl hp) h1
  |true=>exact⟨rfl,by omega,by omega⟩
theorem head_is (p:ByteArray){l k:Nat}(hl:l<281474976710656)(hk:k<16777216):isPg (pageB ⟨l,(leafP p).kind,k,(leafP p).recs⟩)=true∧leafP (pageB ⟨l,(leafP p).kind,k,(leafP p).recs⟩)=⟨l,(leafP p).kind,k,(leafP p).recs⟩∧(pageB ⟨l,(leafP p).kind,k,(leafP p).recs⟩).size=512:=by
 have hg:=leafP_good p
 have ht:=Pg.trim_of_tight hg.tight
 have hs:Pg.sizeN (Pg.trim (leafP p).recs)≤512:=by rw[ht];exact hg.fits
 obtain⟨h1,h2⟩:=pageB_is (x:=⟨l,(leafP p).kind,k,(leafP p).recs⟩) ⟨hl,hg.fine.small.2.1,hk⟩ hs hg.fine.each
 refine⟨h1,?_,pageB_size hs⟩
 rw[h2]
 simp only[ht]
theorem lsn_head {p:ByteArray}(h:isPg p=true){l:Nat}(hl:l<281474976710656):lsnB p (l:Int)=pageB ⟨l,(leafP p).kind,(leafP p).link,(leafP p).recs⟩:=by
 unfold lsnB
 rw[if_neg (by rw[h];simp;omega)]
 rfl
theorem link_head {p:ByteArray}(h:isPg p=true){k:Nat}(hk:k<16777216):linkB p (k:Int)=pageB ⟨(leafP p).lsn,(leafP p).kind,k,(leafP p).recs⟩:=by
 unfold linkB
 rw[if_neg (by rw[h];simp;omega)]
 rfl
theorem lsn_small (p:ByteArray):(leafP p).lsn<281474976710656:=(leafP_good p).fine.small.1
theorem link_small (p:ByteArray):(leafP p).link<16777216:=(leafP_good p).fine.small.2.2
theorem lsn_page {p:ByteArray}(h:isPg p=true){l:Nat}(hl:l<281474976710656):isPg (lsnB p (l:Int))=true∧leafP (lsnB p (l:Int))=⟨l,(leafP p).kind,(leafP p).link,(leafP p).recs⟩∧(lsnB p (l:Int)).size=512:=by
 rw[lsn_head h hl];exact head_is p hl (link_small p)
theorem link_page {p:ByteArray}(h:isPg p=true){k:Nat}(hk:k<16777216):isPg (linkB p (k:Int))=true∧leafP (linkB p (k:Int))=⟨(leafP p).lsn,(leafP p).kind,k,(leafP p).recs⟩∧(linkB p (k:Int)).size=512:=by
 rw[link_head h hk];exact head_is p (lsn_small p) hk
theorem lsn_lsn {p:ByteArray}(h:isPg p=true){l m:Nat}(hl:l<281474976710656)(hm:m<281474976710656):lsnB (lsnB p (l:Int)) (m:Int)=lsnB p (m:Int):=by
 obtain⟨h1,h2,_⟩:=lsn_page h hl
 rw[lsn_head h1 hm,lsn_head h hm,h2]
theorem plB_eq {p:ByteArray}(h:isPg p=true):plB p=pageB (leafP p):=plain_page h
theorem plB_page {p:ByteArray}(h:isPg p=true):isPg (plB p)=true∧leafP (plB p)=leafP p∧(plB p).size=512:=lsn_page h (lsn_small p)
theorem itoa_read (n:Nat)(h:n<16777216):Lib.atoiAll (itoaB (n:Int)).data.toList= .ok (n:Int):=by
 show Lib.atoiAll (Lib.itoa (n:Int))=_
 exact NumPlain.atoiAll_itoa (NumPlain.inN_of (by omega) (by omega))
structure Undone (p q:ByteArray) (o:Cop):Prop where
 page:isPg q=true
 size:q.size=512
 lsn:(leafP q).lsn=(leafP p).lsn
 norm:plB q=q
 back:madeO q (backO o)=(plB p,true)
theorem made_norm {p q:ByteArray}{rs:List ByteArray}(he:∀ r∈rs,r.size≤400)(h:Pg.fullO (withRecs p rs)=(q,0)):plB q=q:=by
 obtain⟨M,hq⟩:=full_made he h rfl
 rw[plB_eq M.isPg]
 have hs:Pg.sizeN (Pg.trim rs)≤512:=by
  rcases fullO_cases (withRecs p rs)with⟨hs,_⟩|⟨_,h2⟩
  ·exact hs
  ·rw[h2]at h;injection h with _ h;omega
 obtain⟨_,h3⟩:=pageB_is (withRecs_small p rs) hs he
 rw[← hq]at h3
 rw[h3]
 have ht:Pg.trim (Pg.trim rs)=Pg.trim rs:=Pg.trim_ext fun j=>Pg.trim_rec rs j
 have e:Pg.layL {withRecs p rs with recs:=Pg.trim (withRecs p rs).recs}=Pg.layL (withRecs p rs):=by
  unfold Pg.layL
  show Pg.layR _ (Pg.trim (Pg.trim rs))=Pg.layR _ (Pg.trim rs)
  rw[ht]
  rfl
 rw[hq]
 unfold pageB
 rw[e]
theorem putO_norm {p q r:ByteArray}{i:Int}(h:putO p i r=(q,0)):plB q=q:=by
 obtain⟨k,rfl,hp,h0,hm,hk,_⟩:=putO_ok h
 rw[putO_do hp h0 hm hk]at h
 exact made_norm (Pg.putAt_mem (leaf_each p) (mayB_yes hm).2) h
theorem cutO_norm {p q:ByteArray}{i:Int}(h:cutO p i=(q,0)):plB q=q:=by
 obtain⟨k,rfl,hp,h0,hk,_⟩:=cutO_ok h
 rw[cutO_do hp h0]at h
 exact made_norm (Pg.putAt_mem (leaf_each p) (by show 0≤400;omega)) h
theorem setO_norm {p q r:ByteArray}{i:Int}(h:setO p i r=(q,0)):plB q=q:=by
 obtain⟨k,rfl,hp,hm,h0,hk,_⟩:=setO_ok h
 rw[setO_do hp hm h0]at h
 exact made_norm (Pg.putAt_mem (leaf_each p) (mayB_yes hm).2) h
theorem addO_norm {p q r:ByteArray}{i:Int}(h:addO p i r=(q,0)):plB q=q:=by
 obtain⟨k,rfl,hp,hm,hk,_⟩:=addO_ok h
 rw[addO_do hp hm hk]at h
 exact made_norm (Pg.insAt_mem (leaf_each p) (mayB_yes hm).2) h
theorem delO_norm {p q:ByteArray}{i:Int}(h:delO p i=(q,0)):plB q=q:=by
 obtain⟨k,rfl,hp,h0,hk,_⟩:=delO_ok h
 rw[delO_do hp h0]at h
 exact made_norm (Pg.delAt_mem (leaf_each p)) h
theorem oldIs_yes {p:ByteArray}{o:Cop}(h:oldIs p o=true):(Pg.slotAt (leafP p).recs o.slot).size≠0∧o.old=Pg.slotAt (leafP p).recs o.slot:=by
 unfold oldIs at h
 rw[Bool.and_eq_true]at h
 exact⟨by simpa using h.1,of_decide_eq_true h.2⟩
theorem oldIs_of {p:ByteArray}{o:Cop}(h:o.old.size≠0)(h2:Pg.slotAt (leafP p).recs o.slot=o.old):oldIs p o=true:=by
 unfold oldIs
 rw[h2]
 simp[h]
theorem undone {p:ByteArray}{o:Cop}(h:rightO p o=true):Undone p (madeO p o).1 o:=by
 unfold rightO at h
 rw[Bool.and_eq_true]at h
 obtain⟨hp,hm⟩:=h
 obtain⟨kind,slot,old,new⟩:=o
 by_cases h1:kind=1
 ·subst h1
  have e:madeO p ⟨1,slot,old,new⟩=if old.size=0 then okB (putO p slot new)else noPage:=if_pos rfl
  rw[e]at hm ⊢
  split at hm
  ·rename_i h0
   rw[if_pos h0]
   have hq:=okB_yes hm
   obtain⟨k,hk,_,hz,hmay,_,M⟩:=putO_ok hq
   obtain⟨_,hsz,hc⟩:=back1 hq
   have hr:=mayB_yes hmay
   have hold:Pg.slotAt (leafP (putO p slot new).1).recs slot=new:=by subst hk;rw[Pg.slotAt_rec,M.rec_,Pg.putAt_rec,if_pos rfl]
   refine⟨M.isPg,hsz,M.lsn,putO_norm hq,?_⟩
   show(if oldIs (putO p slot new).1 ⟨2,slot,new,old⟩&&decide (old.size=0)then okB (cutO (putO p slot new).1 slot)else noPage)=_
   rw[oldIs_of (by show new.size≠0;omega) hold,decide_eq_true h0,hc]
   rfl
  ·cases hm
 by_cases h2:kind=2
 ·subst h2
  have e:madeO p ⟨2,slot,old,new⟩=if oldIs p ⟨2,slot,old,new⟩&&decide (new.size=0)then okB (cutO p slot)else noPage:=rfl
  rw[e]at hm ⊢
  split at hm
  ·rename_i h0
   rw[if_pos h0]
   rw[Bool.and_eq_true]at h0
   obtain⟨ho1,ho2⟩:=oldIs_yes h0.1
   have hn:=of_decide_eq_true h0.2
   have hq:=okB_yes hm
   obtain⟨k,hk,_,hz,_,M⟩:=cutO_ok hq
   obtain⟨_,hsz,hc⟩:=back2 hq
   refine⟨M.isPg,hsz,M.lsn,cutO_norm hq,?_⟩
   show(if new.size=0 then okB (putO (cutO p slot).1 slot old)else noPage)=_
   rw[if_pos hn,show old=Pg.slotAt (leafP p).recs slot from ho2,hc]
   rfl
  ·cases hm
 by_cases h3:kind=3
 ·subst h3
  have e:madeO p ⟨3,slot,old,new⟩=if oldIs p ⟨3,slot,old,new⟩then okB (setO p slot new)else noPage:=rfl
  rw[e]at hm ⊢
  split at hm
  ·rename_i h0
   rw[if_pos h0]
   obtain⟨ho1,ho2⟩:=oldIs_yes h0
   have hq:=okB_yes hm
   obtain⟨k,hk,_,hmay,hz,_,M⟩:=setO_ok hq
   obtain⟨_,hsz,hc,hl,_⟩:=back3 hq
   have hr:=mayB_yes hmay
   have hold:Pg.slotAt (leafP (setO p slot new).1).recs slot=new:=by subst hk;rw[Pg.slotAt_rec,M.rec_,Pg.putAt_rec,if_pos rfl]
   refine⟨M.isPg,hsz,M.lsn,setO_norm hq,?_⟩
   show(if oldIs (setO p slot new).1 ⟨3,slot,new,old⟩then okB (setO (setO p slot new).1 slot old)else noPage)=_
   rw[if_pos (oldIs_of (by show new.size≠0;omega) hold),show old=Pg.slotAt (leafP p).recs slot from ho2,hc]
   rfl
  ·cases hm
 by_cases h4:kind=4
 ·subst h4
  have e:madeO p ⟨4,slot,old,new⟩=if old.size=0 then okB (addO p slot new)else noPage:=rfl
  rw[e]at hm ⊢
  split at hm
  ·rename_i h0
   rw[if_pos h0]
   have hq:=okB_yes hm
   obtain⟨k,hk,_,hmay,_,M⟩:=addO_ok hq
   obtain⟨hsz,hc⟩:=back4 hq
   have hr:=mayB_yes hmay
   have hold:Pg.slotAt (leafP (addO p slot new).1).recs slot=new:=by subst hk;rw[Pg.slotAt_rec,M.rec_,Pg.insAt_rec,if_neg (by omega),if_pos rfl]
   refine⟨M.isPg,hsz,M.lsn,addO_norm hq,?_⟩
   show(if oldIs (addO p slot new).1 ⟨5,slot,new,old⟩&&decide (old.size=0)then okB (delO (addO p slot new).1 slot)else noPage)=_
   rw[oldIs_of (by show new.size≠0;omega) hold,decide_eq_true h0,hc]
   rfl
  ·cases hm
 by_cases h5:kind=5
 ·subst h5
  have e:madeO p ⟨5,slot,old,new⟩=if oldIs p ⟨5,slot,old,new⟩&&decide (new.size=0)then okB (delO p slot)else noPage:=rfl
  rw[e]at hm ⊢
  split at hm
  ·rename_i h0
   rw[if_pos h0]
   rw[Bool.and_eq_true]at h0
   obtain⟨ho1,ho2⟩:=oldIs_yes h0.1
   have hn:=of_decide_eq_true h0.2
   have hq:=okB_yes hm
   obtain⟨k,hk,_,hz,_,M⟩:=delO_ok hq
   obtain⟨hsz,hc⟩:=back5 hq
   refine⟨M.isPg,hsz,M.lsn,delO_norm hq,?_⟩
   show(if new.size=0 then okB (addO (delO p slot).1 slot old)else noPage)=_
   rw[if_pos hn,show old=Pg.slotAt (leafP p).recs slot from ho2,hc]
   rfl
  ·cases hm
 by_cases h6:kind=6
 ·subst h6
  have e:madeO p ⟨6,slot,old,new⟩=linkedO p ⟨6,slot,old,new⟩:=rfl
  rw[e]at hm ⊢
  unfold linkedO at hm ⊢
  simp only at hm ⊢
  obtain⟨n,hn⟩:∃ n,Lib.atoiAll new.data.toList= .ok n:=by
   cases hn:Lib.atoiAll new.data.toList with
   |ok n=>exact⟨n,rfl⟩
   |_=>rw[hn]at hm;cases hm
  rw[hn]at hm ⊢
  simp only at hm ⊢
  ·split at hm
   ·rename_i hc
    rw[if_pos hc]
    obtain⟨c1,c2,c3⟩:=hc
    have hz:¬ (linkB p n).size=0:=by simpa using hm
    obtain⟨_,n0,n1⟩:=size_ne_link hz
    obtain⟨m,rfl⟩:=Int.eq_ofNat_of_zero_le n0
    have hm1:m<16777216:=by omega
    obtain⟨g1,g2,g3⟩:=link_page hp hm1
    have hb:linkB (linkB p (m:Int)) ((leafP p).link:Nat)=plB p:=by
     rw[link_head g1 (link_small p),g2,plB_eq hp]
    refine⟨g1,g3,by rw[g2],?_,?_⟩
    ·rw[plB_eq g1,g2,link_head hp hm1]
    ·show linkedO (linkB p (m:Int)) ⟨6,slot,new,old⟩=_
     unfold linkedO
     simp only
     rw[c2,itoa_read _ (link_small p)]
     simp only
     rw[g2]
     simp only
     simp only[true_and]at*
     rw[if_pos (by first|exact⟨rfl,c1.symm,c3⟩|exact⟨trivial,c1.symm,c3⟩|exact⟨c1.symm,c3⟩),hb]
     have:=(plB_page hp).2.2
     rw[this]
     rfl
   ·cases hm
 by_cases h7:kind=7
 ·subst h7
  have e:madeO p ⟨7,slot,old,new⟩=wholeO p ⟨7,slot,old,new⟩:=rfl
  rw[e]at hm ⊢
  unfold wholeO at hm ⊢
  simp only at hm ⊢
  split at hm
  ·rename_i hc
   rw[if_pos hc]
   obtain⟨c1,c2,c3,c4⟩:=hc
   have hz:¬ (lsnB new ((leafP p).lsn:Nat)).size=0:=by simpa using hm
   obtain⟨hn,_,_⟩:=size_ne hz
   obtain⟨g1,g2,g3⟩:=lsn_page hn (lsn_small p)
   obtain⟨i1,i2,i3⟩:=lsn_page hp (l:=0) (by omega)
   refine⟨g1,g3,by rw[g2],?_,?_⟩
   ·rw[plB_eq g1,g2,lsn_head hn (lsn_small p)]
   ·show wholeO (lsnB new ((leafP p).lsn:Nat)) ⟨7,slot,new,old⟩=_
    unfold wholeO
    simp only
    have j1:lsnB (lsnB new ((leafP p).lsn:Nat)) 0=new:=by
     have:=lsn_lsn hn (lsn_small p) (m:=0) (by omega)
     exact this.trans c4
    have j2:lsnB (lsnB p 0) 0=lsnB p 0:=lsn_lsn hp (l:=0) (m:=0) (by omega) (by omega)
    have j3:lsnB (lsnB p 0) ((leafP p).lsn:Nat)=plB p:=lsn_lsn hp (l:=0) (by omega) (lsn_small p)
    have i3':(lsnB p 0).size=512:=i3
    rw[c2,g2]
    simp only
    rw[if_pos ⟨c1,j1.symm,by rw[i3'];omega,j2⟩,j3]
    have:=(plB_page hp).2.2
    rw[this]
    rfl
  ·cases hm
 ·have e:madeO p ⟨kind,slot,old,new⟩=noPage:=by
   unfold madeO
   simp only
   rw[if_neg h1,if_neg h2,if_neg h3,if_neg h4,if_neg h5,if_neg h6,if_neg h7]
  rw[e]at hm
  cases hm
theorem do_back {p:ByteArray}{o:Cop}(h:rightO p o=true):doO p o=((madeO p o).1,0)∧rightO (madeO p o).1 (backO o)=true∧doO (madeO p o).1 (backO o)=(plB p,0):=by
 have U:=undone h
 have hr:rightO (madeO p o).1 (backO o)=true:=by unfold rightO;rw[U.page,U.back];rfl
 refine⟨by unfold doO;rw[if_pos h],hr,?_⟩
 unfold doO
 rw[if_pos hr,U.back]
end Go.Proofs.YtdfkambdagoojaaGreatDoor
namespace Lg
open Rc
def logS (F N:Nat)(d:Dk):List UInt8:=flat ((d.sectors.drop F).take N)
structure LInv (F N:Nat) (d:Dk) (g:Lo) (r1 r2:List Rec):Prop where
 whole:Whole d.sectors
 room:F+N≤d.sectors.length
 hf:g.from_=(F:Int)
 hn:g.n=(N:Int)
 row:Row 0 (r1++r2)
 pre:(logS F N d).take (bytes r1).length=bytes r1
 safe:g.safe=((bytes r1).length:Int)
 end_:g.end_=((bytes (r1++r2)).length:Int)
 tail:g.tail=⟨((bytes (r1++r2)).drop ((bytes r1).length-(bytes r1).length%128)).toArray⟩
 fit:(bytes (r1++r2)).length≤N*128
theorem bytes_le (r1 r2:List Rec):(bytes (r1++r2)).length=(bytes r1).length+(bytes r2).length:=by rw[bytes_append,List.length_append]
theorem bytes_one (r:Rec):bytes [r]=putR r:=by unfold bytes;simp
theorem bytes_nil {l:List Rec}(h:(bytes l).length=0):l=[]:=by
 cases l with
 |nil=>rfl
 |cons r l=>rw[bytes_cons,List.length_append,putR_len]at h;omega
theorem LInv.new {F N:Nat}{d:Dk}(hw:Whole d.sectors)(hr:F+N≤d.sectors.length):LInv F N d ⟨F,N,0,0,⟨#[]⟩⟩ [] []:=
 ⟨hw,hr,rfl,rfl,trivial,rfl,rfl,rfl,rfl,Nat.zero_le _⟩
theorem LInv.append {F N:Nat}{d:Dk}{g:Lo}{r1 r2:List Rec}(h:LInv F N d g r1 r2)(r:Rec):
 (appendD g r=(g,0,1))∨(appendD g r=(g,0,18))∨
 ((appendD g r).2=(g.end_+1,0)∧LInv F N d (appendD g r).1 r1 (r2++[{r with lsn:=g.end_+1}])):=by
 by_cases h1:Right {r with lsn:=g.end_+1}
 ·by_cases h2:g.n*128-((putR {r with lsn:=g.end_+1}).length:Int)<g.end_
  ·refine .inr (.inl ?_)
   unfold appendD;simp only;rw[if_neg (fun hn=>hn h1),if_pos h2]
  ·refine .inr (.inr ?_)
   have e:appendD g r=({g with end_:=g.end_+((putR {r with lsn:=g.end_+1}).length:Int),tail:=g.tail++⟨(putR {r with lsn:=g.end_+1}).toArray⟩},g.end_+1,0):=by
    unfold appendD;simp only;rw[if_neg (fun hn=>hn h1),if_neg h2]
   rw[e]
   refine⟨rfl,?_⟩
   have hb:bytes (r1++(r2++[{r with lsn:=g.end_+1}]))=bytes (r1++r2)++putR {r with lsn:=g.end_+1}:=by
    rw[← List.append_assoc,bytes_append (r1++r2),bytes_one]
   refine⟨h.whole,h.room,h.hf,h.hn,?_,h.pre,h.safe,?_,?_,?_⟩
   ·rw[← List.append_assoc,row_append]
    refine⟨h.row,h1,?_,trivial⟩
    show g.end_+1=_
    rw[h.end_];simp
   ·show g.end_+_=_
    rw[hb,List.length_append,h.end_];omega
   ·show g.tail++_=_
    have h3:=bytes_le r1 r2
    rw[hb,h.tail,List.drop_append_of_le_length (by omega)]
    apply ByteArray.ext
    rw[ByteArray.data_append]
    simp
   ·rw[hb,List.length_append]
    have h4:=h.hn
    have h5:=h.end_
    omega
 ·refine .inl ?_
  unfold appendD;simp only;rw[if_pos h1]
end Lg
namespace Tx
open Rc Lg
def noted (r:Rec):Prop:=1≤r.txn∧1≤r.kind∧r.kind≤7
instance (r:Rec):Decidable (noted r):=by unfold noted;exact inferInstance
def tuneT (r:Rec)(t:TxnAt):TxnAt:=⟨t.txn,r.lsn,if r.kind=1∨r.kind=2 then r.lsn else if r.kind=3∨r.kind=4 then r.next else t.next,if r.kind=5 then true else t.done⟩
def placeT:List TxnAt→Int→Option Nat
 |[],_=>none
 |t::l,n=>if t.txn=n then some 0 else(placeT l n).map (·+1)
def noteT (l:List TxnAt)(r:Rec):List TxnAt:=
 if ¬ noted r then l else
 match placeT l r.txn with
 |none=>if r.kind=7 then l else l++[tuneT r ⟨r.txn,0,0,false⟩]
 |some i=>if r.kind=7 then l.take i++l.drop (i+1)else l.take i++tuneT r (l[i]?.getD ⟨0,0,0,false⟩)::l.drop (i+1)
structure St where
 zlog:Int
 zpages:Int
 zframes:Int
 disk:Dk
 log:Lo
 hand:Int
 txns:List TxnAt
 next:Int
def fresh (n:Nat):St:=⟨n,0,0,newD (n+1),⟨1,n,0,0,⟨#[]⟩⟩,0,[],1⟩
end Tx
namespace Lg
open Rc
theorem newD_wholeN (n:Nat):Whole (newD n).sectors:=fun b hb=>by
 have:b=zero128:=by
  have h:=List.mem_replicate.1 hb
  exact h.2
 rw[this];exact zero128_size
end Lg
namespace Tx
open Rc Lg
def Good (N:Nat)(s:St):Prop:=∃ r1 r2,LInv 1 N s.disk s.log r1 r2∧s.disk.down=false∧s.disk.left= -1∧s.disk.sectors.length=N+1∧Lies (logS 1 N s.disk) r1∧(r1++r2).foldl noteT []=s.txns
def Has (L:List Rec)(x:Int):Prop:=∃ r∈L,r.kind=5∧r.txn=x
end Tx
namespace Lg
open Rc
end Lg
namespace Tx
open Rc Lg
structure LogB (s:St):Prop where
 e0:0≤s.log.end_
 e1:s.log.end_≤512000
 t0:(s.log.tail.size:Int)≤s.log.end_
 t1:s.log.end_%128≤(s.log.tail.size:Int)
 f:s.log.from_=1
 n0:0≤s.log.n
 n1:s.log.n≤4000
 s0:0≤s.log.safe
 s1:s.log.safe≤s.log.end_
end Tx
namespace Go.Proofs.YtdfkambdagoojaaGreatDoor
open Go.RowKit
theorem info_tx:(Tryz.prog.info? 83).map (fun i=>(i.zero,i.size,i.bytes))=some (some (.agg #[(),(),(),false]),4,32):=by kernel_rfl
theorem txC_one (t:Rc.TxnAt):∀ u∈txC t,u.oneCell'=true:=by
 intro u hu
 simp only[txC,List.mem_cons,List.not_mem_nil,or_false]at hu
 rcases hu with rfl|rfl|rfl|rfl<;>rfl
theorem txC_all (l:List Rc.TxnAt):∀ u∈l.flatMap txC,u.oneCell'=true:=by
 intro u hu
 obtain⟨t,_,ht⟩:=List.mem_flatMap.1 hu
 exact txC_one t u ht
theorem ownSetAt {w:World}{B size n c g:Nat}{e:TypeId}{xs:List Value}(h:w.ownsRow B e size (.slice (some ⟨g,0,none⟩) n c) n xs)(j:Nat)(hj:j<n*size):
 w.cell? ⟨g,j,none⟩=xs[j]?∧w.frozen? ⟨g,j,none⟩=false∧∀ x,(w.setCell ⟨g,j,none⟩ x).ownsRow B e size (.slice (some ⟨g,0,none⟩) n c) n (xs.set j x):=by
 obtain⟨hl,h2⟩:=h
 rcases h2 with⟨h0,_⟩|⟨g',cap,cur,hv,hg,hh,hn,hcap,hsz,htake⟩
 ·cases h0
 ·injection hv with hv1 hv2 hv3
  injection hv1 with hv1
  injection hv1 with hv1 _ _
  subst hv1 hv3
  have hnc:n*size≤c*size:=Nat.mul_le_mul_right _ hn
  refine⟨?_,blkFrozen hh j,fun x=>⟨by rw[List.length_set];exact hl,.inr ⟨g,c,cur.setIfInBounds j x,rfl,hg,blkSet j hh x,hn,hcap,by rw[Array.size_setIfInBounds];exact hsz,?_⟩⟩⟩
  ·rw[blkCell hh j,← htake,List.getElem?_take,if_pos hj,Array.getElem?_toList]
  ·rw[← htake]
   refine List.ext_getElem? fun i=>?_
   rw[List.getElem?_set,List.getElem?_take,List.length_take,List.getElem?_take,Array.toList_setIfInBounds,List.getElem?_set]
   have hs:cur.toList.length=cur.size:=by simp
   by_cases h1:j=i
   ·subst h1
    rw[if_pos rfl,if_pos rfl,if_pos hj,if_pos (by omega),if_pos (by omega)]
   ·rw[if_neg h1,if_neg h1]
theorem flat_set {α:Type}{enc:α→List Value}{k:Nat}(hk:∀ x,(enc x).length=k):∀ (l:List α) (j f:Nat) (y:α) (x:Value) (hj:j<l.length),f<k→enc y=(enc l[j]).set f x→(l.flatMap enc).set (j*k+f) x=(l.set j y).flatMap enc:=by
 intro l
 induction l with
 |nil=>intro j f y x hj;simp at hj
 |cons a l ih=>
  intro j f y x hj hf he
  cases j with
  |zero=>
   simp only[List.getElem_cons_zero]at he
   rw[List.flatMap_cons,List.set_cons_zero,List.flatMap_cons,he,Nat.zero_mul,Nat.zero_add,List.set_append_left _ _ (by rw[hk];exact hf)]
  |succ j=>
   simp only[List.getElem_cons_succ]at he
   rw[List.flatMap_cons,List.set_cons_succ,List.flatMap_cons,List.set_append_right _ _ (by rw[hk,Nat.succ_mul];omega)]
   congr 1
   rw[show(j+1)*k+f-(enc a).length=j*k+f by rw[hk,Nat.succ_mul];omega]
   exact ih j f y x (by simpa using hj) hf he
theorem setCells_blk {g:Nat}{T:TypeId}{fr:Nat×Nat}:∀ (vs:List Value) (o:Nat) (cs:Array Value) (w:World),w.heap[g]? =some (.cells cs T fr)→∃ cs':Array Value,(w.setCells g o vs).heap[g]? =some (.cells cs' T fr)∧cs'.size=cs.size∧∀ j,cs'[j]? =if o≤j∧j<o+vs.length∧j<cs.size then vs[j-o]? else cs[j]? :=by
 intro vs
 induction vs with
 |nil=>intro o cs w h;exact⟨cs,h,rfl,fun j=>by rw[if_neg (by simp;omega)]⟩
 |cons v vs ih=>
  intro o cs w h
  obtain⟨cs',h1,h2,h3⟩:=ih (o+1) _ _ (blkSet o h v)
  refine⟨cs',h1,by rw[h2,Array.size_setIfInBounds],fun j=>?_⟩
  rw[h3,Array.size_setIfInBounds,Array.getElem?_setIfInBounds]
  by_cases hj:j=o
  ·subst hj
   rw[if_neg (by omega),if_pos rfl]
   by_cases hb:j<cs.size
   ·rw[if_pos hb,if_pos ⟨Nat.le_refl _,by simp,hb⟩,Nat.sub_self];rfl
   ·rw[if_neg hb,if_neg (by omega),Array.getElem?_eq_none (by omega)]
  ·by_cases hc:o+1≤j∧j<o+1+vs.length∧j<cs.size
   ·rw[if_pos hc,if_pos (by simp;omega)]
    obtain⟨m,rfl⟩:∃ m,j=o+1+m:=⟨j-(o+1),by omega⟩
    rw[show o+1+m-(o+1)=m by omega,show o+1+m-o=m+1 by omega,List.getElem?_cons_succ]
   ·rw[if_neg hc,if_neg (fun e=>hj e.symm),if_neg (by simp;omega)]
theorem setCells_below {B g:Nat}(hg:B≤g):∀ (vs:List Value) (o:Nat) (w:World),Below B w (w.setCells g o vs):=by
 intro vs
 induction vs with
 |nil=>intro o w;exact Below.refl _ _
 |cons v vs ih=>
  intro o w
  exact((Below.refl B w).setCell (p:=⟨g,o,none⟩) hg v).trans (ih (o+1) _)
theorem tclone_any (l:List Rc.TxnAt)(hl:l.length≤1000000)(A:Option Addr)(c:Nat)(w:World)(hr:TxR w A c l):
 Calls Tryz.prog 79 #[.slice A l.length c] w fun e w'=>∃ v,e= .returned v∧OwnL txC 4 83 w.heap.size w' v l∧Below w.heap.size w w':=by
 obtain⟨i0,hi,hz0,hz1,hz2⟩:=info_parts info_tx
 have HR:=Hq hr
 cases A with
 |none=>
  have hl0:l=[]:=by
   rcases Nat.eq_zero_or_pos l.length with h0|h0
   ·exact List.eq_nil_of_length_eq_zero h0
   ·obtain⟨b,off,e,_⟩:=hr h0
    cases e
  subst hl0
  clear hr HR
  have hq:∀ w,(binOp .eql 34 (.slice none 0 c) (.slice none 0 0)).run Tryz.prog w= .ok (.bool true) w:=fun w=>Lib.run_eql_slice_nil w 34 83 none 0 c 0 0 Tryz.underlying34
  simp only[List.length_nil]
  go_enter Tryz.func79,Tryz.ntmps79
  go_wp2_with fail
  go_ret
  exact⟨_,rfl,ownNil _ _ _ _,Below.refl _ _⟩
 |some ad=>
  have HRD:=Hq (hr.below (allocB w (.cells #[] 83)))
  have hq:∀ w,(binOp .eql 34 (.slice (some ad) l.length c) (.slice none 0 0)).run Tryz.prog w= .ok (.bool false) w:=fun w=>Lib.run_eql_slice_nil w 34 83 (some ad) l.length c 0 0 Tryz.underlying34
  clear hr
  go_enter Tryz.func79,Tryz.ntmps79
  go_wp2_with (at_builtin;refine listWants Kr fun K hK=>wp_appR (w.alloc (.cells #[] 83)) (.tmp 5) (.tmp 6) 34 83 i0 (.agg #[(),(),(),false]) 4 32 Tryz.underlying34 hi hz0 hz1 hz2 rfl (by omega) rfl w.heap.size _ 0 [] rfl (ownEmpty w 83 4) (some ad) l.length c (l.flatMap txC) rfl HRD.out (by rw[flat_len txC_len]) (txC_all l) (by omega) (by omega) (by simp) ?_;intro v2 w2 ho hg hb;refine hK _ _ ?_)
  go_ret
  rw[List.nil_append,Nat.zero_add]at ho
  exact⟨_,rfl,ho,(allocB w (.cells #[] 83)).trans hb⟩
end Go.Proofs.YtdfkambdagoojaaGreatDoor
namespace Tx
open Rc
end Tx
namespace Go.Proofs.YtdfkambdagoojaaGreatDoor
open Go.RowKit
theorem rowSet {w:World}{B g N c:Nat}{M:List Rc.TxnAt}(h:w.ownsRow B 83 4 (.slice (some ⟨g,0,none⟩) N c) N (M.flatMap txC))(hN:M.length=N)(k:Nat)(hk:k<M.length)(f:Nat)(hf:f<4)(x:Value)(y:Rc.TxnAt)(he:txC y=(txC M[k]).set f x):
 w.cell? ⟨g,k*4+f,none⟩=(txC M[k])[f]?∧w.frozen? ⟨g,k*4+f,none⟩=false∧(w.setCell ⟨g,k*4+f,none⟩ x).ownsRow B 83 4 (.slice (some ⟨g,0,none⟩) N c) N ((M.set k y).flatMap txC):=by
 obtain⟨h1,h2,h3⟩:=ownSetAt h (k*4+f) (by omega)
 refine⟨by rw[h1,flat_at txC_len M k f hk hf],h2,?_⟩
 rw[← flat_set txC_len M k f y x hk hf he]
 exact h3 x
theorem ownSome {w:World}{B size n:Nat}{e:TypeId}{v:Value}{xs:List Value}(h:w.ownsRow B e size v n xs)(hn:0<n):∃ g c,v= .slice (some ⟨g,0,none⟩) n c∧B≤g:=by
 rcases h.2 with⟨_,h0⟩|⟨g,cap,cur,hv,hg,_⟩
 ·omega
 ·exact⟨g,cap,hv,hg⟩
end Go.Proofs.YtdfkambdagoojaaGreatDoor
namespace Tx
end Tx
namespace Go.Proofs.YtdfkambdagoojaaGreatDoor
open Go.RowKit
theorem listPart {P:Program}{ops:Array Oper}{rest:List Oper}{op:Oper}{a:Act}{w:World}{Q:Exit→Act→World→Prop}(hw:Region.wanted op (yielded ops a.tmps)=true)(ty:TypeId)(x:Operand)(ho:op.op= .load ty x)
 (b o:Nat) (hx:a.eval x= .pointer (some ⟨b,o,none⟩)) (part cells:Array Value) (t:TypeId) (hg:w.heap[b]? =some (.cells cells t (0,0))) (hp:(cells.toList.drop o).take part.size=part.toList) (d:TypeDesc)
 (hu:P.underlying ty=some d) (hd:d.isRow=true) (hi:(P.info? ty).map (·.size)=some part.size)
 (h:wpList P ops Q rest (a.put op.dst (.agg part)) w):wpList P ops Q (op::rest) a w:=
 listWants hw fun K hK=>by
  refine wp_load_mid ty x ho b o hx part.toList d (fun j v hj=>?_) hu hd (by simpa using hi) ?_
  ·rw[blkCell hg]
   have h1:j<part.size:=by have:=(List.getElem?_eq_some_iff.1 hj).1;simpa using this
   rw[← hp,List.getElem?_take,if_pos h1,List.getElem?_drop,Array.getElem?_toList]at hj
   exact hj
  ·simpa using hK _ _ h
theorem lP {P:Program}{ops:Array Oper}{rest:List Oper}{op:Oper}{a:Act}{w:World}{Q:Exit→Act→World→Prop}{ty:TypeId}{x:Operand}{b o:Nat}(part:Array Value){cells:Array Value}{t:TypeId}{d:TypeDesc}(hg:w.heap[b]? =some (.cells cells t (0,0)))(hu:P.underlying ty=some d)(h:wpList P ops Q rest (a.put op.dst (.agg part)) w)(ho:op.op= .load ty x:=by exact rfl)(hx:a.eval x= .pointer (some ⟨b,o,none⟩):=by with_unfolding_all exact rfl)(hw:Region.wanted op (yielded ops a.tmps)=true:=by kernel_rfl)(hp:(cells.toList.drop o).take part.size=part.toList:=by kernel_rfl)(hd:d.isRow=true:=by kernel_rfl)(hi:(P.info? ty).map (·.size)=some part.size:=by kernel_rfl):wpList P ops Q (op::rest) a w:=listPart hw ty x ho b o hx part cells t hg hp d hu hd hi h
theorem listPut {P:Program}{ops:Array Oper}{rest:List Oper}{op:Oper}{a:Act}{w:World}{Q:Exit→Act→World→Prop}(hw:Region.wanted op (yielded ops a.tmps)=true)(ty:TypeId)(x y:Operand)(ho:op.op= .store ty x y)
 (b o:Nat) (part cur res:Array Value) (t:TypeId) (hx:a.eval x= .pointer (some ⟨b,o,none⟩)) (hy:a.eval y= .agg part) (hg:w.heap[b]? =some (.cells cur t (0,0))) (hr:res=(cur.toList.take o++part.toList++cur.toList.drop (o+part.toList.length)).toArray)
 (hsz:decide (o+part.toList.length≤cur.size)=true) (hi:(P.info? ty).map (·.size)=some part.size) (h1:part.all (·.oneCell')=true) (h:wpList P ops Q rest (a.put op.dst undef) (w.setRow b res)):wpList P ops Q (op::rest) a w:=
 listWants hw fun K hK=>by
  have hst:=run_storeCells_at P b o t part.toList 0 cur w hg (by rw[Nat.add_zero];exact of_decide_eq_true hsz) (fun v hv=>(Array.all_eq_true_iff_forall_mem.1 h1) v (by simpa using hv))
  rw[Nat.add_zero,← hr]at hst
  have hrun:(storeVar ty ⟨b,o,none⟩ (.agg part)).run P w= .ok () (w.setRow b res):=by
   cases hq:P.info? ty with
   |none=>simp[hq]at hi
   |some i=>
    have hs:part.size=i.size:=by simp[hq]at hi;omega
    simp[storeVar,sizeOf,typeInfo,hq,Value.cells,hs,hst]
  unfold Oper.wp execOp
  simp only[ho,hx,hy,Instr.storeAt,Instr.sureAddr,Sem.run_bind,Sem.run_pure,Result.andThen_ok,hrun]
  exact hK _ _ h
theorem lU {P:Program}{ops:Array Oper}{rest:List Oper}{op:Oper}{a:Act}{w:World}{Q:Exit→Act→World→Prop}{ty:TypeId}{x y:Operand}{b o:Nat}(part:Array Value){cur:Array Value}(res:Array Value){t:TypeId}(hg:w.heap[b]? =some (.cells cur t (0,0)))(h:wpList P ops Q rest (a.put op.dst undef) (w.setRow b res))(ho:op.op= .store ty x y:=by exact rfl)(hx:a.eval x= .pointer (some ⟨b,o,none⟩):=by with_unfolding_all exact rfl)(hy:a.eval y= .agg part:=by with_unfolding_all exact rfl)(hw:Region.wanted op (yielded ops a.tmps)=true:=by kernel_rfl)(hr:res=(cur.toList.take o++part.toList++cur.toList.drop (o+part.toList.length)).toArray:=by kernel_rfl)(hs:decide (o+part.toList.length≤cur.size)=true:=by kernel_rfl)(hi:(P.info? ty).map (·.size)=some part.size:=by kernel_rfl)(h1:part.all (·.oneCell')=true:=by kernel_rfl):wpList P ops Q (op::rest) a w:=listPut hw ty x y ho b o part cur res t hx hy hg hr hs hi h1 h
structure SP where
 A:Option Addr
 c:Nat
 F:Option Addr
 fn:Nat
 fc:Nat
 T:Option Addr
 tc:Nat
abbrev storeV (s:Tx.St)(p:SP):Value:=.agg #[s.zlog,s.zpages,s.zframes,.slice p.A s.disk.sectors.length p.c,s.disk.left,s.disk.down,s.log.from_,s.log.n,s.log.end_,s.log.safe,s.log.tail,.slice p.F p.fn p.fc,s.hand,.slice p.T s.txns.length p.tc,s.next]
structure StoreR (w:World) (s:Tx.St) (p:SP):Prop where
 dk:DiskR w s.disk p.A p.c
 dt:NewT 0 w 9 p.A
 tx:TxR w p.T p.tc s.txns
 tt:NewT 0 w 83 p.T
theorem StoreR.below {w w':World}{s:Tx.St}{p:SP}(h:StoreR w s p)(hb:Below w.heap.size w w'):StoreR w' s p:=⟨h.dk.below hb,h.dt.below hb,h.tx.below hb,h.tt.below hb⟩
theorem StoreR.other {w:World}{s:Tx.St}{p:SP}(h:StoreR w s p){b:Nat}{cur:Array Value}{t:TypeId}{fr:Nat×Nat}(hb:w.heap[b]? =some (.cells cur t fr))(h1:t≠9)(h2:t≠83)(cs:Array Value):StoreR (w.setRow b cs) s p:=
 ⟨⟨h.dt.readsRow h.dk.secs hb h1 cs,h.dk.small⟩,h.dt.row b cs,h.tt.readsRow h.tx hb h2 cs,h.tt.row b cs⟩
theorem StoreR.set {w:World}{s:Tx.St}{p:SP}(h:StoreR w s p){b:Nat}{cur:Array Value}{t:TypeId}{fr:Nat×Nat}(hb:w.heap[b]? =some (.cells cur t fr))(h1:t≠9)(h2:t≠83)(j:Nat)(v:Value):StoreR (w.setCell ⟨b,j,none⟩ v) s p:=by
 rw[setCell_eq_setRow w b j cur t fr v hb]
 exact h.other hb h1 h2 _
theorem recR_nil (r:Rc.Rec)(w:World)(h1:r.txns=[])(h2:r.dirty=[]):RecR w r none 0 none 0:=by
 refine⟨?_,?_,by rw[h1,h2];exact⟨Nat.zero_le _,Nat.zero_le _⟩⟩
 ·rw[h1];exact Reads.none_ _ _ _ _
 ·rw[h2];exact Reads.none_ _ _ _ _
end Go.Proofs.YtdfkambdagoojaaGreatDoor
namespace Lg
open Rc
structure Al (l:Lo):Prop where
 s0:0≤l.safe
 se:l.safe≤l.end_
 tl:l.end_-(l.tail.size:Int)=l.safe-l.safe%128
end Lg
namespace Tx
open Rc Lg
theorem al_append {l:Lo}(r:Rec)(h:Al l):Al (appendD l r).1:=by
 have h1:=h.s0
 have h2:=h.se
 have h3:=h.tl
 by_cases hR:Right {r with lsn:=l.end_+1}
 ·by_cases hF:l.n*128-((putR {r with lsn:=l.end_+1}).length:Int)<l.end_
  ·unfold appendD
   simp only
   rw[if_neg (fun hn=>hn hR),if_pos hF]
   exact h
  ·have e:(appendD l r).1={l with end_:=l.end_+((putR {r with lsn:=l.end_+1}).length:Int),tail:=l.tail++⟨(putR {r with lsn:=l.end_+1}).toArray⟩}:=by
    unfold appendD
    simp only
    rw[if_neg (fun hn=>hn hR),if_neg hF]
   rw[e]
   have hz:(⟨(putR {r with lsn:=l.end_+1}).toArray⟩:ByteArray).size=(putR {r with lsn:=l.end_+1}).length:=by show(putR {r with lsn:=l.end_+1}).toArray.size=_;simp
   refine⟨h1,?_,?_⟩
   ·show l.safe≤l.end_+((putR {r with lsn:=l.end_+1}).length:Int);omega
   ·show l.end_+((putR {r with lsn:=l.end_+1}).length:Int)-((l.tail++⟨(putR {r with lsn:=l.end_+1}).toArray⟩).size:Int)=l.safe-l.safe%128
    rw[ByteArray.size_append,hz]
    omega
 ·unfold appendD
  simp only
  rw[if_pos hR]
  exact h
end Tx
namespace Go.Proofs.YtdfkambdagoojaaGreatDoor
open Go.RowKit
abbrev stA (s:Tx.St)(p:SP):Array Value:=#[s.zlog,s.zpages,s.zframes,.slice p.A s.disk.sectors.length p.c,s.disk.left,s.disk.down,s.log.from_,s.log.n,s.log.end_,s.log.safe,s.log.tail,.slice p.F p.fn p.fc,s.hand,.slice p.T s.txns.length p.tc,s.next]
structure Fr where
 page:Int
 bytes:ByteArray
 pins:Int
 mark:Bool
 rc:Int
def frL (f:Fr):List Value:=[.int .i64 f.page,.string f.bytes,.int .i64 f.pins,.bool f.mark,.int .i64 f.rc]
abbrev frA (f:Fr):Array Value:=#[f.page,f.bytes,f.pins,f.mark,f.rc]
theorem frL_len (f:Fr):(frL f).length=5:=rfl
theorem frL_one (f:Fr):∀ u∈frL f,u.oneCell'=true:=by
 intro u hu
 simp only[frL,List.mem_cons,List.not_mem_nil,or_false]at hu
 rcases hu with rfl|rfl|rfl|rfl|rfl<;>rfl
theorem frL_all (l:List Fr):∀ u∈l.flatMap frL,u.oneCell'=true:=by
 intro u hu
 obtain⟨v,_,h⟩:=List.mem_flatMap.1 hu
 exact frL_one v u h
theorem info_fr:(Tryz.prog.info? 95).map (fun i=>(i.zero,i.size,i.bytes))=some (some (.agg #[(),"",(),false,()]),5,48):=by kernel_rfl
theorem str_nil:(⟨#[]⟩:ByteArray).toList=[]:=by rw[ByteArray.toList_eq]
theorem str_ne {b:ByteArray}(h:b≠⟨#[]⟩):¬ b.toList=[]∧(b.toList==[])=false∧(b.toList==(⟨#[]⟩:ByteArray).toList)=false:=by
 have h1:¬ b.toList=[]:=fun h2=>h (by
  rw[ByteArray.toList_eq]at h2
  obtain⟨⟨l⟩⟩:=b
  simp only at h2
  rw[h2])
 have h3:(b.toList==[])=false:=by simpa using h1
 exact⟨h1,h3,by rw[str_nil];exact h3⟩
structure PoolR (w:World) (s:Tx.St) (p:SP) (fs:List Fr):Prop where
 st:StoreR w s p
 fn:p.fn=fs.length
 fr:Reads w p.F p.fc fs.length (fs.flatMap frL)
 ft:NewT 0 w 95 p.F
theorem PoolR.below {w w':World}{s:Tx.St}{p:SP}{fs:List Fr}(h:PoolR w s p fs)(hb:Below w.heap.size w w'):PoolR w' s p fs:=⟨h.st.below hb,h.fn,h.fr.below hb,h.ft.below hb⟩
theorem PoolR.other {w:World}{s:Tx.St}{p:SP}{fs:List Fr}(h:PoolR w s p fs){b:Nat}{cur:Array Value}{t:TypeId}{fr:Nat×Nat}(hb:w.heap[b]? =some (.cells cur t fr))(h1:t≠9)(h2:t≠83)(h3:t≠95)(cs:Array Value):PoolR (w.setRow b cs) s p fs:=
 ⟨h.st.other hb h1 h2 cs,h.fn,h.ft.readsRow h.fr hb h3 cs,h.ft.row b cs⟩
theorem rowB {B g:Nat}{w u:World}(hg:B≤g)(hb:Below B w u)(cs:Array Value):Below B w (u.setRow g cs):=
 ⟨hb.os,hb.tape,hb.output,by show _≤(u.heap.modify _ _).size;have:=hb.size;simpa using this,fun k hk=>by show(u.heap.modify _ _)[k]? =_;rw[Array.getElem?_modify,if_neg (by omega)];exact hb.block k hk⟩
section
variable {α : Type} {enc : α → List Value} {k : Nat} {e : TypeId} {B g c : Nat} {w : World} {l : List α}
theorem flat_put (hk:∀ x,(enc x).length=k)(l:List α)(i:Nat)(hi:i<l.length)(x:α)(t:Nat):((l.set i x).flatMap enc)[t]? =if i*k≤t∧t<i*k+k then(enc x)[t-i*k]? else(l.flatMap enc)[t]? :=by
 have hle:i*k+k≤l.length*k:=by have:=Nat.mul_le_mul_right k (show i+1≤l.length from hi);rwa[Nat.add_mul,Nat.one_mul]at this
 by_cases hin:i*k≤t∧t<i*k+k
 ·rw[if_pos hin]
  obtain⟨j,rfl⟩:∃ j,t=i*k+j:=⟨t-i*k,by omega⟩
  rw[flat_at hk (l.set i x) i j (by rw[List.length_set];exact hi) (by omega),List.getElem_set_self,Nat.add_sub_cancel_left]
 ·rw[if_neg hin]
  by_cases ht:t<l.length*k
  ·have hk0:0<k:=by rcases Nat.eq_zero_or_pos k with h|h;(· subst h;omega);(· exact h)
   have hd:t/k<l.length:=by rw[Nat.div_lt_iff_lt_mul hk0];exact ht
   have hm:t%k<k:=Nat.mod_lt _ hk0
   have e1:t=t/k*k+t%k:=by rw[Nat.mul_comm];exact(Nat.div_add_mod t k).symm
   have hne:i≠t/k:=fun h=>hin (by rw[h];omega)
   rw[e1,flat_at hk (l.set i x) (t/k) (t%k) (by rw[List.length_set];exact hd) hm,flat_at hk l (t/k) (t%k) hd hm,List.getElem_set_ne hne]
  ·rw[List.getElem?_eq_none (by rw[flat_len hk,List.length_set];omega),List.getElem?_eq_none (by rw[flat_len hk];omega)]
theorem own_blk (ho:OwnL enc k e B w (.slice (some ⟨g,0,none⟩) l.length c) l):∃ cur:Array Value,B≤g∧g<w.heap.size∧w.heap[g]? =some (.cells cur e (0,0))∧l.length≤c∧c≤maxLen∧cur.size=c*k∧∀ t,t<l.length*k→cur[t]? =(l.flatMap enc)[t]? :=by
 obtain⟨hxl,h2⟩:=ho
 rcases h2 with⟨h0,_⟩|⟨g',cap,cur,hv,hgB,hh,hnc,hcap,hsz,htake⟩
 ·cases h0
 injection hv with hv1 hv2 hv3
 injection hv1 with hv1
 injection hv1 with hv1 _ _
 subst hv1 hv3
 refine⟨cur,hgB,heapLt hh,hh,hnc,hcap,hsz,fun t ht=>?_⟩
 rw[← htake,List.getElem?_take,if_pos ht,Array.getElem?_toList]
theorem own_mk {cur:Array Value}(hk:∀ x,(enc x).length=k)(hB:B≤g)(hg:w.heap[g]? =some (.cells cur e (0,0)))(hn:l.length≤c)(hc:c≤maxLen)(hs:cur.size=c*k)(h:∀ t,t<l.length*k→cur[t]? =(l.flatMap enc)[t]?):OwnL enc k e B w (.slice (some ⟨g,0,none⟩) l.length c) l:=by
 refine⟨flat_len hk l,.inr ⟨g,c,cur,rfl,hB,hg,hn,hc,hs,?_⟩⟩
 refine List.ext_getElem? fun t=>?_
 rw[List.getElem?_take]
 by_cases ht:t<l.length*k
 ·rw[if_pos ht,Array.getElem?_toList,h t ht]
 ·rw[if_neg ht,List.getElem?_eq_none (by rw[flat_len hk];omega)]
theorem own_put (hk:∀ x,(enc x).length=k)(ho:OwnL enc k e B w (.slice (some ⟨g,0,none⟩) l.length c) l)(i:Nat)(hi:i<l.length)(x:α):
 w.there g (i*k) k∧OwnL enc k e B (w.setCells g (i*k) (enc x)) (.slice (some ⟨g,0,none⟩) (l.set i x).length c) (l.set i x)∧Below B w (w.setCells g (i*k) (enc x)):=by
 obtain⟨cur,hB,hg,hh,hn,hc,hs,ht⟩:=own_blk ho
 have hle:i*k+k≤l.length*k:=by have:=Nat.mul_le_mul_right k (show i+1≤l.length from hi);rwa[Nat.add_mul,Nat.one_mul]at this
 have hlc:l.length*k≤c*k:=Nat.mul_le_mul_right _ hn
 obtain⟨cur',k1,k2,k3⟩:=setCells_blk (enc x) (i*k) cur w hh
 refine⟨fun j hj=>⟨by rw[blkCell hh,Array.getElem?_eq_getElem (by omega)];rfl,blkFrozen hh _⟩,own_mk hk hB k1 (by rw[List.length_set];exact hn) hc (by rw[k2];exact hs) (fun t h=>?_),setCells_below hB _ _ _⟩
 rw[List.length_set]at h
 rw[k3,flat_put hk l i hi x t,hk]
 by_cases hin:i*k≤t∧t<i*k+k
 ·rw[if_pos ⟨hin.1,hin.2,by omega⟩,if_pos hin]
 ·rw[if_neg (fun h=>hin ⟨h.1,h.2.1⟩),if_neg hin,ht t h]
end
theorem rsector_at (s:Tx.St)(p:SP)(n:Int)(h0:0≤s.zlog∧s.zlog≤1000)(h1:0≤n∧n≤1000)(w:World):
 Calls Tryz.prog 12 #[storeV s p,n] w fun e w'=>e= .returned (.int .i64 (1+s.zlog+4*n))∧Below w.heap.size w w':=by
 go_enter Tryz.func12,Tryz.ntmps12
 go_upto_region 1 with fail
 have H0:=nW1 w (stA s p) 36
 obtain⟨W0,hW0⟩:=exW H0
 rw[← hW0]at H0 ⊢
 clear hW0
 have hc:=show W0.cell? ⟨w.heap.size,0,none⟩=some (.int .i64 s.zlog)from by rw[blkCell H0.out.get0];rfl
 have hw1:IntKind.i64.wrap (1+s.zlog)=1+s.zlog:=IntWalk.i64_in _ (by omega)
 have hw2:IntKind.i64.wrap (4*n)=4*n:=IntWalk.i64_in _ (by omega)
 have hw3:IntKind.i64.wrap (1+s.zlog+4*n)=1+s.zlog+4*n:=IntWalk.i64_in _ (by omega)
 go_wp2_with fail
 go_ret
 exact⟨rfl,H0.out.below⟩
structure Nrm (p:ByteArray):Prop where
 is:isPg p=true
 pl:plB p=p
theorem Nrm.eq {p:ByteArray}(h:Nrm p):pageB (leafP p)=p:=(plB_eq h.is).symm.trans h.pl
theorem Nrm.size {p:ByteArray}(h:Nrm p):p.size=512:=isPg_size h.is
theorem nrm_page {x:Pg.Leaf}(hx:Pg.Small x)(hs:Pg.sizeN x.recs≤512)(he:∀ r∈x.recs,r.size≤400)(ht:Pg.trim x.recs=x.recs):Nrm (pageB x)∧leafP (pageB x)=x:=by
 obtain⟨h1,h2⟩:=pageB_is hx (by rw[ht];exact hs) he
 have h3:leafP (pageB x)=x:=by rw[h2,ht]
 exact⟨⟨h1,by rw[plB_eq h1,h3]⟩,h3⟩
theorem nrm_lsn {p:ByteArray}(h:isPg p=true){l:Nat}(hl:l<281474976710656):Nrm (lsnB p (l:Int))∧leafP (lsnB p (l:Int))=⟨l,(leafP p).kind,(leafP p).link,(leafP p).recs⟩:=by
 obtain⟨h1,h2,_⟩:=lsn_page h hl
 refine⟨⟨h1,?_⟩,h2⟩
 unfold plB
 rw[h2]
 exact lsn_lsn h hl hl
theorem nrm_pl {p:ByteArray}(h:isPg p=true):Nrm (plB p)∧leafP (plB p)=leafP p:=nrm_lsn h (lsn_small p)
theorem seal_pl {p:ByteArray}(h:Nrm p):plB (sealB p)=p:=by
 obtain⟨h1,h2,_⟩:=sealB_is h.is
 rw[plB_eq h1,h2,h.eq]
def zeroP:ByteArray:=⟨(List.replicate 512 0).toArray⟩
theorem zero_none:isPg zeroP=false:=by
 have h:Pg.right zeroP.data.toList=none:=by
  have e:zeroP.data.toList=List.replicate 512 0:=rfl
  rw[e]
  decide+kernel
 unfold isPg
 rw[h];rfl
theorem seal_zero {p:ByteArray}(h:isPg p=true):sealB p≠zeroP:=fun e=>by
 have h1:=(sealB_is h).1
 rw[e,zero_none]at h1
 cases h1
theorem new_nrm (k:Nat)(hk:k≤4):Nrm (newB k)∧leafP (newB k)=⟨0,k,0,[]⟩:=by
 have e:newB (k:Int)=pageB ⟨0,k,0,[]⟩:=by unfold newB;rw[if_neg (by omega)];rfl
 rw[e]
 exact nrm_page ⟨by show 0<281474976710656;omega,hk,by show 0<16777216;omega⟩ (by show 19≤512;omega) (fun r h=>by cases h) (Pg.trim_of_tight fun r h=>by cases h)
end Go.Proofs.YtdfkambdagoojaaGreatDoor
namespace Ck
open Lg
open Rc
end Ck
namespace Sc
open Rc Lg Ck
structure Pw (N M:Nat) (d:Dk) (g:Lo):Prop where
 whole:Whole d.sectors
 len:d.sectors.length=M
 room:1+N≤M
 up:d.down=false
 left:d.left= -1
 inv:∃ r1 r2,LInv 1 N d g r1 r2
theorem pw_new (N M:Nat)(h:1+N≤M):Pw N M (newD M) ⟨1,N,0,0,⟨#[]⟩⟩:=by
 have hl:(newD M).sectors.length=M:=by show(List.replicate M zero128).length=_;rw[List.length_replicate]
 have hw:Whole (newD M).sectors:=newD_wholeN _
 exact⟨hw,hl,h,rfl,rfl,[],[],LInv.new (F:=1) hw (by omega)⟩
theorem Pw.put {N M:Nat}{d:Dk}{g:Lo}(h:Pw N M d g)(r:Rec)(hR:Right {r with lsn:=g.end_+1})(hf:g.end_+((putR {r with lsn:=g.end_+1}).length:Int)≤(N:Int)*128):
 ∃ g2,appendD g r=(g2,g.end_+1,0)∧Pw N M d g2∧g2.end_=g.end_+((putR {r with lsn:=g.end_+1}).length:Int):=by
 obtain⟨h1,h2,h3,h4,h5,r1,r2,h6⟩:=h
 have hn:=h6.hn
 have ha:=h6.append r
 have e:appendD g r=((appendD g r).1,g.end_+1,0)∧(appendD g r).1.end_=g.end_+((putR {r with lsn:=g.end_+1}).length:Int):=by
  unfold appendD
  simp only
  rw[if_neg (fun hx=>hx hR),if_neg (by omega)]
  exact⟨rfl,rfl⟩
 rcases ha with e1|e1|⟨_,hg⟩
 ·have h9:=e.1;rw[e1]at h9;have:=congrArg (fun x=>x.2.2) h9;simp at this
 ·have h9:=e.1;rw[e1]at h9;have:=congrArg (fun x=>x.2.2) h9;simp at this
 ·exact⟨_,e.1,⟨h1,h2,h3,h4,h5,_,_,hg⟩,e.2⟩
def pgAt (d:Dk)(a:Nat):ByteArray:=⟨(flat ((d.sectors.drop a).take 4)).toArray⟩
theorem part_list (b:ByteArray)(i n:Nat):(b.extract i (i+n)).data.toList=(b.data.toList.drop i).take n:=by
 rw[ByteArray.data_extract,Array.toList_extract,List.extract_eq_take_drop]
 congr 1
 omega
def sec4 (b:ByteArray)(i:Nat):ByteArray:=b.extract (i*128) (i*128+128)
theorem pgAt_four {d:Dk}{a:Nat}(ha:a+4≤d.sectors.length):pgAt d a=((d.sectors[a]++d.sectors[a+1])++d.sectors[a+2])++d.sectors[a+3]:=by
 have e:(d.sectors.drop a).take 4=[d.sectors[a],d.sectors[a+1],d.sectors[a+2],d.sectors[a+3]]:=by
  apply List.ext_getElem?
  intro j
  rw[List.getElem?_take]
  split
  ·rw[List.getElem?_drop]
   have:j=0∨j=1∨j=2∨j=3:=by omega
   rcases this with rfl|rfl|rfl|rfl<;>rw[List.getElem?_eq_getElem (by omega)]<;>rfl
  ·rw[List.getElem?_eq_none (by simp;omega)]
 unfold pgAt
 rw[e]
 apply ByteArray.ext
 apply Array.toList_inj.1
 unfold flat
 simp
end Sc
namespace Go.Proofs.YtdfkambdagoojaaGreatDoor
open Go.RowKit Sc
theorem numZ:Rc.num 0:=⟨by decide,by decide⟩
abbrev Full (f:Fr):Prop:=f.bytes≠⟨#[]⟩
structure FrO (n:Nat) (fs:List Fr) (C:Nat→ByteArray):Prop where
 at_:∀ i (hi:i<fs.length),Full fs[i]→∃ p:Nat,p<n∧fs[i].page=(p:Int)∧fs[i].bytes=C p
 ds:∀ i j (hi:i<fs.length) (hj:j<fs.length),i≠j→Full fs[i]→Full fs[j]→fs[i].page≠fs[j].page
 pin:∀ i (hi:i<fs.length),fs[i].pins=0
 rc:∀ i (hi:i<fs.length),Rc.num fs[i].rc
 sz:∀ i (hi:i<fs.length),fs[i].bytes.size≤512
def Dirt (fs:List Fr)(p:Nat):Prop:=∃ i,∃ h:i<fs.length,Full fs[i]∧fs[i].page=(p:Int)∧fs[i].rc≠0
theorem set_at (fs:List Fr)(k:Nat)(f:Fr)(i:Nat)(hi:i<(fs.set k f).length):(i=k∧(fs.set k f)[i]=f)∨(i≠k∧∃ hi':i<fs.length,(fs.set k f)[i]=fs[i]):=by
 rw[List.getElem_set]
 by_cases e:k=i
 ·rw[if_pos e];exact .inl ⟨e.symm,rfl⟩
 ·rw[if_neg e];exact .inr ⟨fun h=>e h.symm,by simpa using hi,rfl⟩
def Lay (N:Nat)(d:Lg.Dk)(p:Nat)(b:ByteArray):Prop:=pgAt d (1+N+4*p)=sealB b∨(pgAt d (1+N+4*p)=zeroP∧b=newB (0:Nat))
structure PI (N n:Nat) (s:Tx.St) (fs:List Fr) (C:Nat→ByteArray):Prop where
 zl:s.zlog=(N:Int)
 zp:s.zpages=(n:Int)
 n1:1≤n∧n≤60∧N≤3000
 pw:Pw N (1+N+4*n) s.disk s.log
 nf:1≤fs.length∧fs.length≤64
 hd:0≤s.hand∧s.hand≤64
 fr:FrO n fs C
 nm:∀ p,p<n→Nrm (C p)
 dk:∀ p,p<n→¬ Dirt fs p→Lay N s.disk p (C p)
def Says (p:Prop)(w:World)(e:Ending)(w':World):Prop:=∃ b:Bool,e= .returned (.bool b)∧(b=true↔p)∧Below w.heap.size w w'
def FirstAt {α:Type}(P:α→Prop)(l:List α)(w:World)(e:Ending)(w':World):Prop:=
 ∃ k:Int,e= .returned (.int .i64 k)∧((k= -1∧∀ x∈l,¬ P x)∨∃ (i:Nat) (h:i<l.length),k=(i:Int)∧P l[i]∧∀ j (hj:j<i),¬ P (l[j]'(by omega)))∧Below w.heap.size w w'
theorem first_no {α:Type}{P:α→Prop}{l:List α}{w w':World}(h:∀ j (hj:j<l.length),¬ P l[j])(hb:Below w.heap.size w w'):FirstAt P l w (.returned (.int .i64 (-1))) w':=
 ⟨-1,rfl,.inl ⟨rfl,fun x hx=>by obtain⟨j,hj,rfl⟩:=List.getElem_of_mem hx;exact h j hj⟩,hb⟩
theorem first_yes {α:Type}{P:α→Prop}{l:List α}{w w':World}{k:Nat}(hk:k<l.length)(hp:P l[k])(h:∀ j (hj:j<l.length),j<k→¬ P l[j])(hb:Below w.heap.size w w'):FirstAt P l w (.returned (.int .i64 (k:Int))) w':=
 ⟨(k:Int),rfl,.inr ⟨k,hk,rfl,hp,fun j hj=>h j (by omega) hj⟩,hb⟩
theorem indexF_any (P:Fr→Prop)(g:Nat)(cb:Array Value)(eg:∀ args w,(callFunc g args).run Tryz.prog w= .ok (.enter g args) w)(l:List Fr)(hl:l.length≤140737488355328)(A:Option Addr)(c:Nat)(w:World)(hr:Reads w A c l.length (l.flatMap frL))
 (hc:∀ x∈l,∀ W,Below w.heap.size w W→Calls Tryz.prog g (#[.agg (frA x)]++cb) W (Says (P x) W)):
 Calls Tryz.prog 52 #[.slice A l.length c,.func (.func g) #[] cb] w (FirstAt P l w):=by
 have HR:=Hq hr
 have HC:=Hq hc
 have HNO:=Hq (fun h w' hb=>first_no (P:=P) (l:=l) (w:=w) (w':=w') h hb)
 have HYES:=Hq (fun k hk hp h w' hb=>first_yes (P:=P) (l:=l) (w:=w) (w':=w') (k:=k) hk hp h hb)
 generalize FirstAt P l w=Q at HNO HYES ⊢
 clear hr hc
 go_enter Tryz.func52,Tryz.ntmps52
 go_wp2_with fail
 go_loopw [8] (fun i wr=>∃ k:Nat,k≤l.length∧i= .int .i64 k∧(∀ j (hj:j<l.length),j<k→¬ P l[j])∧Below w.heap.size w wr) (fun i _=>l.length-(intOf i).toNat)
 case atStart=>exact⟨0,Nat.zero_le _,rfl,fun _ _ h=>absurd h (by omega),Below.refl _ _⟩
 case round=>
  obtain⟨k,hk,rfl,hall,hbw⟩:=hrel
  have HA:=Hq hall
  clear hall
  by_cases hlt:k<l.length
  ·obtain⟨b,off,rfl,hca,hbl,hcell⟩:=read_at frL_len (HR.out.below hbw) hlt
   have HY:=Hq (fun hp=>HYES.out k hlt hp HA.out)
   have HN:=Hq (show ¬ P l[k]→∀ j (hj:j<l.length),j<k+1→¬ P l[j]from fun h j hj hjk=>by
    rcases Nat.lt_or_eq_of_le (Nat.le_of_lt_succ hjk)with h1|h1
    ·exact HA.out j hj h1
    ·subst h1;exact h)
   have hcx:=HC.out l[k] (List.getElem_mem hlt) wr hbw
   generalize l[k]=x at hcell HY HN hcx
   obtain⟨fp,fb,fi,fm,fr⟩:=x
   have HCELL:=Hq (show wr.rangeAt b (off+k*5) [.int .i64 fp,.string fb,.int .i64 fi,.bool fm,.int .i64 fr]from hcell)
   have HCX:=Hq hcx
   clear hcell HA hcx
   dsimp only[frA]at HCX
   have hk0:(0:Int)≤(k:Int):=by omega
   have hki:(k:Int)<(l.length:Int):=by omega
   have hwk:IntKind.i64.wrap ((k:Int)+1)=(k:Int)+1:=IntWalk.i64_in _ (by omega)
   by_cases hp:P ⟨fp,fb,fi,fm,fr⟩
   ·have HP:=Hq hp
    clear hp hca
    go_wp2_with (first
     |(with_reducible refine wpList_load_mid rfl 95 (.tmp 14) rfl b (off+k*5) rfl [.int .i64 fp,.string fb,.int .i64 fi,.bool fm,.int .i64 fr] _ HCELL.out Tryz.underlying95 Kr Kr ?_)
     |(go_at_fn g;(with_reducible refine HCX.out.mono ?_);rintro e w2 ⟨q,rfl,hq,hb2⟩;obtain rfl:q=true:=hq.2 HP.out;clear hq))
    exact HY.out HP.out _ (joinB hbw hb2)
   ·have HP:=Hq hp
    clear hp hca
    go_wp2_with (first
     |(with_reducible refine wpList_load_mid rfl 95 (.tmp 14) rfl b (off+k*5) rfl [.int .i64 fp,.string fb,.int .i64 fi,.bool fm,.int .i64 fr] _ HCELL.out Tryz.underlying95 Kr Kr ?_)
     |(go_at_fn g;(with_reducible refine HCX.out.mono ?_);rintro e w2 ⟨q,rfl,hq,hb2⟩;obtain rfl:q=false:=(by cases q with|true=>exact absurd (hq.1 rfl) HP.out|false=>rfl);clear hq))
    go_roundw
    case rel=>exact⟨k+1,by omega,by go_num,HN.out HP.out,joinB hbw hb2⟩
    case measure=>simp[intOf];omega
  ·have HF:=Hq (HNO.out (fun j hj=>HA.out j hj (by omega)) _ hbw)
   go_wp2_with fail
   exact HF.out
abbrev txA (t:Rc.TxnAt):Array Value:=#[t.txn,t.last,t.next,t.done]
theorem indexT_any (P:Rc.TxnAt→Prop)(g:Nat)(cb:Array Value)(eg:∀ args w,(callFunc g args).run Tryz.prog w= .ok (.enter g args) w)(l:List Rc.TxnAt)(hl:l.length≤140737488355328)(A:Option Addr)(c:Nat)(w:World)(hr:Reads w A c l.length (l.flatMap txC))
 (hc:∀ x∈l,∀ W,Below w.heap.size w W→Calls Tryz.prog g (#[.agg (txA x)]++cb) W (Says (P x) W)):
 Calls Tryz.prog 76 #[.slice A l.length c,.func (.func g) #[] cb] w (FirstAt P l w):=by
 have HR:=Hq hr
 have HC:=Hq hc
 have HNO:=Hq (fun h w' hb=>first_no (P:=P) (l:=l) (w:=w) (w':=w') h hb)
 have HYES:=Hq (fun k hk hp h w' hb=>first_yes (P:=P) (l:=l) (w:=w) (w':=w') (k:=k) hk hp h hb)
 generalize FirstAt P l w=Q at HNO HYES ⊢
 clear hr hc
 go_enter Tryz.func76,Tryz.ntmps76
 go_wp2_with fail
 go_loopw [8] (fun i wr=>∃ k:Nat,k≤l.length∧i= .int .i64 k∧(∀ j (hj:j<l.length),j<k→¬ P l[j])∧Below w.heap.size w wr) (fun i _=>l.length-(intOf i).toNat)
 case atStart=>exact⟨0,Nat.zero_le _,rfl,fun _ _ h=>absurd h (by omega),Below.refl _ _⟩
 case round=>
  obtain⟨k,hk,rfl,hall,hbw⟩:=hrel
  have HA:=Hq hall
  clear hall
  by_cases hlt:k<l.length
  ·obtain⟨b,off,rfl,hca,hbl,hcell⟩:=read_at txC_len (HR.out.below hbw) hlt
   have HY:=Hq (fun hp=>HYES.out k hlt hp HA.out)
   have HN:=Hq (show ¬ P l[k]→∀ j (hj:j<l.length),j<k+1→¬ P l[j]from fun h j hj hjk=>by
    rcases Nat.lt_or_eq_of_le (Nat.le_of_lt_succ hjk)with h1|h1
    ·exact HA.out j hj h1
    ·subst h1;exact h)
   have hcx:=HC.out l[k] (List.getElem_mem hlt) wr hbw
   generalize l[k]=x at hcell HY HN hcx
   obtain⟨ta,tb,tc,td⟩:=x
   have HCELL:=Hq (show wr.rangeAt b (off+k*4) [.int .i64 ta,.int .i64 tb,.int .i64 tc,.bool td]from hcell)
   have HCX:=Hq hcx
   clear hcell HA hcx
   dsimp only[txA]at HCX
   have hk0:(0:Int)≤(k:Int):=by omega
   have hki:(k:Int)<(l.length:Int):=by omega
   have hwk:IntKind.i64.wrap ((k:Int)+1)=(k:Int)+1:=IntWalk.i64_in _ (by omega)
   by_cases hp:P ⟨ta,tb,tc,td⟩
   ·have HP:=Hq hp
    clear hp hca
    go_wp2_with (first
     |(with_reducible refine wpList_load_mid rfl 83 (.tmp 14) rfl b (off+k*4) rfl [.int .i64 ta,.int .i64 tb,.int .i64 tc,.bool td] _ HCELL.out Tryz.underlying83 Kr Kr ?_)
     |(go_at_fn g;(with_reducible refine HCX.out.mono ?_);rintro e w2 ⟨q,rfl,hq,hb2⟩;obtain rfl:q=true:=hq.2 HP.out;clear hq))
    exact HY.out HP.out _ (joinB hbw hb2)
   ·have HP:=Hq hp
    clear hp hca
    go_wp2_with (first
     |(with_reducible refine wpList_load_mid rfl 83 (.tmp 14) rfl b (off+k*4) rfl [.int .i64 ta,.int .i64 tb,.int .i64 tc,.bool td] _ HCELL.out Tryz.underlying83 Kr Kr ?_)
     |(go_at_fn g;(with_reducible refine HCX.out.mono ?_);rintro e w2 ⟨q,rfl,hq,hb2⟩;obtain rfl:q=false:=(by cases q with|true=>exact absurd (hq.1 rfl) HP.out|false=>rfl);clear hq))
    go_roundw
    case rel=>exact⟨k+1,by omega,by go_num,HN.out HP.out,joinB hbw hb2⟩
    case measure=>simp[intOf];omega
  ·have HF:=Hq (HNO.out (fun j hj=>HA.out j hj (by omega)) _ hbw)
   go_wp2_with fail
   exact HF.out
theorem fclone_any (l:List Fr)(hl:l.length≤1000000)(A:Option Addr)(c:Nat)(w:World)(hr:Reads w A c l.length (l.flatMap frL)):
 Calls Tryz.prog 126 #[.slice A l.length c] w fun e w'=>∃ v,e= .returned v∧OwnL frL 5 95 w.heap.size w' v l∧Below w.heap.size w w':=by
 obtain⟨i0,hi,hz0,hz1,hz2⟩:=info_parts info_fr
 have HR:=Hq hr
 cases A with
 |none=>
  have hl0:l=[]:=by
   rcases Nat.eq_zero_or_pos l.length with h0|h0
   ·exact List.eq_nil_of_length_eq_zero h0
   ·obtain⟨b,off,e,_⟩:=hr h0
    cases e
  subst hl0
  clear hr HR
  have hq:∀ w,(binOp .eql 31 (.slice none 0 c) (.slice none 0 0)).run Tryz.prog w= .ok (.bool true) w:=fun w=>Lib.run_eql_slice_nil w 31 95 none 0 c 0 0 Tryz.underlying31
  simp only[List.length_nil]
  go_enter Tryz.func126,Tryz.ntmps126
  go_wp2_with fail
  go_ret
  exact⟨_,rfl,ownNil _ _ _ _,Below.refl _ _⟩
 |some ad=>
  have HRD:=Hq (hr.below (allocB w (.cells #[] 95)))
  have hq:∀ w,(binOp .eql 31 (.slice (some ad) l.length c) (.slice none 0 0)).run Tryz.prog w= .ok (.bool false) w:=fun w=>Lib.run_eql_slice_nil w 31 95 (some ad) l.length c 0 0 Tryz.underlying31
  clear hr
  go_enter Tryz.func126,Tryz.ntmps126
  go_wp2_with (at_builtin;refine listWants Kr fun K hK=>wp_appR (w.alloc (.cells #[] 95)) (.tmp 5) (.tmp 6) 31 95 i0 (.agg #[(),"",(),false,()]) 5 48 Tryz.underlying31 hi hz0 hz1 hz2 rfl (by omega) rfl w.heap.size _ 0 [] rfl (ownEmpty w 95 5) (some ad) l.length c (l.flatMap frL) rfl HRD.out (by rw[flat_len frL_len]) (frL_all l) (by omega) (by omega) (by simp) ?_;intro v2 w2 ho hg hb;refine hK _ _ ?_)
  go_ret
  rw[List.nil_append,Nat.zero_add]at ho
  exact⟨_,rfl,ho,(allocB w (.cells #[] 95)).trans hb⟩
structure MkR (fs fs':List Fr):Prop where
 len:fs'.length=fs.length
 at_:∀ i (h:i<fs.length) (h':i<fs'.length),fs'[i]={fs[i]with mark:=fs'[i].mark}
theorem MkR.refl (fs:List Fr):MkR fs fs:=⟨rfl,fun _ _ _=>rfl⟩
theorem MkR.set {fs fs':List Fr}(h:MkR fs fs'){k:Nat}(hk:k<fs'.length)(m:Bool):MkR fs (fs'.set k {fs'[k]with mark:=m}):=by
 refine⟨by rw[List.length_set];exact h.len,fun i hi hi'=>?_⟩
 have hl:=h.len
 rcases set_at fs' k {fs'[k]with mark:=m} i hi' with⟨e,e1⟩|⟨_,h2,e1⟩
 ·subst e
  rw[e1,h.at_ i hi hk]
 ·rw[e1];exact h.at_ i hi h2
end Go.Proofs.YtdfkambdagoojaaGreatDoor
namespace Rc
theorem num0':num 0:=⟨by decide,by decide⟩
theorem put_small {r:Rec}(h:Right r)(hk:r.kind≠9):(Lg.putR r).length≤1262:=by
 rw[Lg.putR_len]
 unfold bodyB
 rw[List.length_append,headB_len]
 cases h with
 |small kind lsn prev txn hk2 h1 h2 h3=>
  have hk3:restB (bare kind lsn prev txn)=[]:=by
   unfold restB bare
   simp only
   rw[if_neg (by omega),if_neg (by omega),if_neg (by omega),if_neg (by omega),if_neg (by omega)]
  rw[hk3];simp
 |change lsn prev txn page op how root e h1 h2 h3 h4 h5 h6=>
  rw[restB_2 rfl]
  have ho:=opB_len h5
  have ht:(treeB ⟨lsn,prev,txn,2,page,0,0,op,how,root,e,[],[]⟩).length≤200:=by
   unfold treeB
   rcases h6 with⟨h7,_⟩|⟨h7,h8,h9,h10,h11⟩
   ·simp only at h7;subst h7;simp
   ·simp only at h7 h11
    rw[if_neg (show ¬ how=1 by omega)]
    simp only[List.length_append,p_length,t_len]
    omega
  simp only[List.length_append,p_length]
  omega
 |clr lsn prev txn page op next h1 h2 h3 h4 h5 h6=>
  rw[restB_3 rfl]
  have ho:=opB_len h5
  simp only[List.length_append,p_length]
  omega
 |nest lsn prev txn next h1 h2 h3 h6=>
  rw[restB_4 rfl]
  simp only[p_length]
  omega
 |image lsn prev txn page op h1 h2 h3 h4 h5=>
  rw[restB_8 rfl]
  have ho:=opB_len h5
  simp only[List.length_append,p_length]
  omega
 |check lsn prev txn n ts ds h1 h2 h3 h4 h5=>exact absurd rfl hk
end Rc
namespace Go.Proofs.YtdfkambdagoojaaGreatDoor
open Go.RowKit Sc
theorem PI.log {N n:Nat}{s:Tx.St}{fs:List Fr}{C:Nat→ByteArray}(h:PI N n s fs C)(r:Rc.Rec)(hR:Rc.Right {r with lsn:=s.log.end_+1})(hk:r.kind≠9)(hr:s.log.end_+1262≤(N:Int)*128):
 ∃ g2,Lg.appendD s.log r=(g2,s.log.end_+1,0)∧PI N n {s with log:=g2} fs C∧s.log.end_<g2.end_∧g2.end_≤s.log.end_+1262:=by
 have h1:=Rc.put_small hR hk
 have h2:8≤(Lg.putR {r with lsn:=s.log.end_+1}).length:=by rw[Lg.putR_len];omega
 obtain⟨g2,e,h3,h4⟩:=h.pw.put r hR (by omega)
 exact⟨g2,e,⟨h.zl,h.zp,h.n1,h3,h.nf,h.hd,h.fr,h.nm,h.dk⟩,by omega,by omega⟩
def Pgs (fs fs':List Fr):Prop:=∀ j (h:j<fs.length) (h':j<fs'.length),fs'[j].page=fs[j].page∧fs'[j].bytes=fs[j].bytes
theorem Pgs.refl (fs:List Fr):Pgs fs fs:=fun _ _ _=>⟨rfl,rfl⟩
theorem Pgs.trans {fs fs' fs2:List Fr}(h:Pgs fs fs')(k:Pgs fs' fs2)(e:fs'.length=fs.length):Pgs fs fs2:=fun j h1 h2=>
 ⟨(k j (by omega) h2).1.trans (h j h1 (by omega)).1,(k j (by omega) h2).2.trans (h j h1 (by omega)).2⟩
theorem Pgs.marks {fs fs':List Fr}(h:MkR fs fs'):Pgs fs fs':=fun j h1 h2=>by rw[h.at_ j h1 h2];exact⟨rfl,rfl⟩
theorem Pgs.set (fs:List Fr)(k:Nat)(hk:k<fs.length)(f:Fr)(h1:f.page=fs[k].page)(h2:f.bytes=fs[k].bytes):Pgs fs (fs.set k f):=fun j hj hj'=>by
 rcases set_at fs k f j hj' with⟨e,e1⟩|⟨_,_,e1⟩
 ·subst e;rw[e1];exact⟨h1,h2⟩
 ·rw[e1];exact⟨rfl,rfl⟩
theorem Pgs.none_ {fs fs':List Fr}(h:Pgs fs fs')(e:fs'.length=fs.length){p:Int}(hn:∀ j (hj:j<fs.length),Full fs[j]→fs[j].page≠p):∀ j (hj:j<fs'.length),Full fs'[j]→fs'[j].page≠p:=fun j hj hf=>by
 have h1:=h j (by omega) hj
 rw[h1.1]
 refine hn j (by omega) ?_
 unfold Full at hf ⊢
 rw[← h1.2];exact hf
end Go.Proofs.YtdfkambdagoojaaGreatDoor
namespace Sc
def bit (b:ByteArray)(p:Nat):Bool:=(b.data.toList[p/8]?.getD 0).toNat.testBit (p%8)
end Sc
namespace Go.Proofs.YtdfkambdagoojaaGreatDoor
open Go.RowKit Sc
theorem pgAt_new {M a:Nat}(h:a+4≤M):pgAt (Lg.newD M) a=zeroP:=by
 have e:((Lg.newD M).sectors.drop a).take 4=[Lg.zero128,Lg.zero128,Lg.zero128,Lg.zero128]:=by
  apply List.ext_getElem?
  intro j
  rw[List.getElem?_take]
  split
  ·rename_i hj
   rw[List.getElem?_drop]
   show(List.replicate M Lg.zero128)[a+j]? =_
   rw[List.getElem?_replicate,if_pos (by omega)]
   have:j=0∨j=1∨j=2∨j=3:=by omega
   rcases this with rfl|rfl|rfl|rfl<;>rfl
  ·rw[List.getElem?_eq_none (by simp;omega)]
 unfold pgAt
 rw[e]
 have hf:Lg.flat [Lg.zero128,Lg.zero128,Lg.zero128,Lg.zero128]=List.replicate 512 0:=by
  have h1:∀ L,Lg.flat (Lg.zero128::L)=List.replicate 128 0++Lg.flat L:=fun L=>rfl
  rw[h1,h1,h1,h1,Lg.flat_nil,List.append_nil,List.replicate_append_replicate,List.replicate_append_replicate,List.replicate_append_replicate]
 rw[hf]
 rfl
def freeF (k:Nat):List Fr:=List.replicate k ⟨0,⟨#[]⟩,0,false,0⟩
theorem freeF_at {k i:Nat}(hi:i<(freeF k).length):(freeF k)[i]=⟨0,⟨#[]⟩,0,false,0⟩:=(List.mem_replicate.1 (List.getElem_mem hi)).2
theorem freeF_len (k:Nat):(freeF k).length=k:=List.length_replicate
def newS (N n k:Nat):Tx.St:=⟨(N:Int),(n:Int),(k:Int),Lg.newD (1+N+4*n),⟨1,(N:Int),0,0,⟨#[]⟩⟩,0,[],1⟩
theorem pi_new {N n k:Nat}(hn:1≤n∧n≤60∧N≤3000)(hk:1≤k∧k≤64):PI N n (newS N n k) (freeF k) (fun _=>newB (0:Nat)):=by
 refine⟨rfl,rfl,hn,pw_new N (1+N+4*n) (by omega),by rw[freeF_len];exact hk,⟨Int.le_refl _,(by decide:(0:Int)≤64)⟩,⟨fun i hi hb=>?_,fun i j hi hj _ hb _=>?_,fun i hi=>?_,fun i hi=>?_,fun i hi=>?_⟩,fun p _=>(new_nrm 0 (by omega)).1,fun p hp _=>.inr ⟨pgAt_new (by omega),rfl⟩⟩
 ·rw[Full,freeF_at hi]at hb;exact absurd rfl hb
 ·rw[Full,freeF_at hi]at hb;exact absurd rfl hb
 ·rw[freeF_at hi]
 ·rw[freeF_at hi];exact numZ
 ·rw[freeF_at hi];exact Nat.zero_le _
end Go.Proofs.YtdfkambdagoojaaGreatDoor
