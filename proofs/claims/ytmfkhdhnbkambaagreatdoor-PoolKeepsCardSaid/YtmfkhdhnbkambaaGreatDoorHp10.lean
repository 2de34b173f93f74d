import Derived.Test.YtmfkhdhnbkambaaGreatDoorHp00
import Derived.Test.YtmfkhdhnbkambaaGreatDoorHp04
import Derived.Lib.AtoiAll
import Derived.Lib.ItoaMem
import Derived.Lib.ItoaLen
import Derived.Test.YtmfkhdhnbkambaaGreatDoorHp08
import Derived.Test.YtmfkhdhnbkambaaGreatDoorHp05
import Derived.Test.YtmfkhdhnbkambaaGreatDoorHp01
import Derived.Lib.SliceRun
import Derived.Deep.RegionLaw
set_option maxRecDepth 100000
set_option maxHeartbeats 16000000
set_option linter.unusedSimpArgs false
namespace Go.Proofs.YtmfkhdhnbkambaaGreatDoor
open Go.RowKit
theorem rpput_any (p:ByteArray)(i:Int)(r:ByteArray)(hm:p.size≤140737488355328)(w:World):
 Calls Tryz.prog 90 #[p,i,r] w fun e w'=>e= .returned (outV (putO p i r))∧Below w.heap.size w w':=by
 have HT:=Hq (fun W=>rparts_leaf p hm W)
 have HA:=Hq (fun W=>rget_any_rec p i hm W)
 have HY:=Hq (fun W=>rmay_any r W)
 change Hid (∀ W,Calls _ _ _ _ fun e w'=>e= .returned (.bool (mayB r))∧_)at HY
 have hgood:=leafP_good p
 unfold putO
 cases hb:isPg p with
 |false=>
  rw[if_pos rfl]
  rw[hb]at HT
  generalize Pg.slotAt (leafP p).recs i=q at HA
  generalize (!decide (q.size=0))=b at HA
  generalize leafP p=x at HT
  clear hgood hb HY
  go_enter Tryz.func90,Tryz.ntmps90
  go_wp2_with (first|(go_at_call 43;refine(HT.out _).mono ?_;rintro e w1 ⟨y0,A,c,rfl,hcl,hb1⟩)|(go_at_call 89;refine(HA.out _).mono ?_;rintro e w2 ⟨rfl,hb2⟩))
  go_ret2
  exact⟨rfl,andThen hb1 (below_past hb2)⟩
 |true=>
  rw[hb]at HT
  rw[if_neg (by simp)]
  clear hb
  by_cases h1:i<0
  ·rw[if_pos h1]
   generalize Pg.slotAt (leafP p).recs i=q at HA
   generalize (!decide (q.size=0))=b at HA
   generalize leafP p=x at HT
   clear hgood HY
   go_enter Tryz.func90,Tryz.ntmps90
   go_wp2_with (first|(go_at_call 43;refine(HT.out _).mono ?_;rintro e w1 ⟨y0,A,c,rfl,hcl,hb1⟩;obtain⟨hy,hco⟩:=hcl rfl;clear hcl;subst hy)|(go_at_call 89;refine(HA.out _).mono ?_;rintro e w2 ⟨rfl,hb2⟩;obtain⟨c0,c1,c2,c3,f0,f1,f2,f3⟩:=blk4 (blk_new hb2);have hlt:w1.heap.size<w2.heap.size:=(by have:=hb2.size;simp at this;omega)))
   go_ret2
   exact⟨rfl,andThen hb1 (below_past hb2)⟩
  ·rw[if_neg h1]
   obtain⟨k,rfl⟩:=Int.eq_ofNat_of_zero_le (show 0≤i by omega)
   have hk0:(0:Int)≤(k:Int):=by omega
   clear h1
   rw[show((k:Int)).toNat=k from rfl]
   by_cases h2:(Pg.slotAt (leafP p).recs (k:Int)).size≠0
   ·rw[if_pos h2]
    rw[decide_eq_false h2]at HA
    clear h2
    generalize Pg.slotAt (leafP p).recs (k:Int)=q at HA
    generalize leafP p=x at HT
    clear hgood HY
    go_enter Tryz.func90,Tryz.ntmps90
    go_wp2_with (first|(go_at_call 43;refine(HT.out _).mono ?_;rintro e w1 ⟨y0,A,c,rfl,hcl,hb1⟩;obtain⟨hy,hco⟩:=hcl rfl;clear hcl;subst hy)|(go_at_call 89;refine(HA.out _).mono ?_;rintro e w2 ⟨rfl,hb2⟩;obtain⟨c0,c1,c2,c3,f0,f1,f2,f3⟩:=blk4 (blk_new hb2);have hlt:w1.heap.size<w2.heap.size:=(by have:=hb2.size;simp at this;omega)))
    go_ret2
    exact⟨rfl,andThen hb1 (below_past hb2)⟩
   ·rw[if_neg h2]
    rw[decide_eq_true (Decidable.not_not.1 h2)]at HA
    clear h2
    generalize Pg.slotAt (leafP p).recs (k:Int)=q at HA
    cases hy:mayB r with
    |false=>
     rw[if_pos rfl]
     rw[hy]at HY
     generalize leafP p=x at HT
     clear hgood hy
     go_enter Tryz.func90,Tryz.ntmps90
     go_wp2_with (first|(go_at_call 43;refine(HT.out _).mono ?_;rintro e w1 ⟨y0,A,c,rfl,hcl,hb1⟩;obtain⟨hy,hco⟩:=hcl rfl;clear hcl;subst hy)|(go_at_call 89;refine(HA.out _).mono ?_;rintro e w2 ⟨rfl,hb2⟩;obtain⟨c0,c1,c2,c3,f0,f1,f2,f3⟩:=blk4 (blk_new hb2);have hlt:w1.heap.size<w2.heap.size:=(by have:=hb2.size;simp at this;omega))|(go_at_call 139;refine(HY.out _).mono ?_;rintro e w3 ⟨rfl,rfl⟩))
     go_ret2
     exact⟨rfl,andThen hb1 (below_past hb2)⟩
    |true=>
     rw[if_neg (by simp)]
     rw[hy]at HY
     obtain⟨hr1,hr2⟩:=mayB_yes hy
     clear hy
     by_cases h5:(512:Int)<(k:Int)
     ·rw[if_pos h5]
      have HW:=Hq (fun A c n W=>rwith_far A c n (k:Int) r h5 W)
      generalize leafP p=x at HT
      clear hgood
      go_enter Tryz.func90,Tryz.ntmps90
      go_wp2_with (first|(go_at_call 43;refine(HT.out _).mono ?_;rintro e w1 ⟨y0,A,c,rfl,hcl,hb1⟩;obtain⟨hy,hco⟩:=hcl rfl;clear hcl;subst hy)|(go_at_call 89;refine(HA.out _).mono ?_;rintro e w2 ⟨rfl,hb2⟩;obtain⟨c0,c1,c2,c3,f0,f1,f2,f3⟩:=blk4 (blk_new hb2);have hlt:w1.heap.size<w2.heap.size:=(by have:=hb2.size;simp at this;omega))|(go_at_call 139;refine(HY.out _).mono ?_;rintro e w3 ⟨rfl,rfl⟩)|(go_at_call 140;refine(HW.out _ _ _ _).mono ?_;rintro e w4 ⟨rfl,rfl⟩))
      go_ret2
      exact⟨rfl,andThen hb1 (below_past hb2)⟩
     ·rw[if_neg h5]
      have hln:=hgood.fine.len
      have hsm:=hgood.fine.sum
      have hps:=Pg.putAt_size (leafP p).recs k r
      have HW:=Hq (fun A c W hW=>prwith_any (leafP p).recs A c k r (by omega) (by omega) W hW)
      have HU:=Hq (fun A c W hW=>laid_any (withRecs p (Pg.putAt (leafP p).recs k r)) A c (withRecs_small p _) (by show Pg.sizeN (Pg.putAt _ _ _)≤_;omega) (.inr ((Pg.trim_tight _).2 (Pg.putAt_tight hgood.tight k (by omega)))) W hW)
      generalize Pg.fullO (withRecs p (Pg.putAt (leafP p).recs k r))=o at HU ⊢
      change Hid (∀ A c W,Cells W A c (Pg.putAt (leafP p).recs k r)→Calls _ _ #[.agg #[.int .i64 (leafP p).lsn,.int .i64 (leafP p).kind,.int .i64 (leafP p).link,.slice A (Pg.putAt (leafP p).recs k r).length c]] _ _)at HU
      clear hps hln hsm hgood
      generalize Pg.putAt (leafP p).recs k r=rs at HW HU
      generalize leafP p=x at HT HW HU
      go_enter Tryz.func90,Tryz.ntmps90
      go_wp2_with (first|(go_at_call 43;refine(HT.out _).mono ?_;rintro e w1 ⟨y0,A,c,rfl,hcl,hb1⟩;obtain⟨hy,hco⟩:=hcl rfl;clear hcl;subst hy)|(go_at_call 89;refine(HA.out _).mono ?_;rintro e w2 ⟨rfl,hb2⟩;obtain⟨c0,c1,c2,c3,f0,f1,f2,f3⟩:=blk4 (blk_new hb2);have hlt:w1.heap.size<w2.heap.size:=(by have:=hb2.size;simp at this;omega))|(go_at_call 139;refine(HY.out _).mono ?_;rintro e w3 ⟨rfl,rfl⟩)|(go_at_call 140;refine(HW.out _ _ _ (hco.cells.below (below_past hb2))).mono ?_;rintro e w4 ⟨A',c',rfl,ho4,hb4⟩;obtain⟨d0,d1,d2,d3,g0,g1,g2,g3⟩:=blk4 (blk_old (blk_new hb2) hb4))|(go_at_call 141;refine(HU.out _ _ _ (OwnCells.set ho4 _ hlt _).cells).mono ?_;rintro e w5 ⟨rfl,hb5⟩))
      go_ret2
      exact⟨rfl,andThen ((andThen (andThen hb1 (below_past hb2)) hb4).setCell hb1.size _) hb5⟩
theorem rpcut_any (p:ByteArray)(i:Int)(hm:p.size≤140737488355328)(w:World):
 Calls Tryz.prog 91 #[p,i] w fun e w'=>e= .returned (outV (cutO p i))∧Below w.heap.size w w':=by
 have HT:=Hq (fun W=>rparts_leaf p hm W)
 have HA:=Hq (fun W=>rget_any_rec p i hm W)
 have hgood:=leafP_good p
 unfold cutO
 cases hb:isPg p with
 |false=>
  rw[if_pos rfl]
  rw[hb]at HT
  generalize leafP p=x at HT
  clear hgood hb HA
  go_enter Tryz.func91,Tryz.ntmps91
  go_wp2_with (first|(go_at_call 43;refine(HT.out _).mono ?_;rintro e w1 ⟨y0,A,c,rfl,hcl,hb1⟩))
  go_ret2
  exact⟨rfl,below_past_alloc hb1⟩
 |true=>
  rw[hb]at HT
  rw[if_neg (by simp)]
  clear hb
  by_cases h2:(Pg.slotAt (leafP p).recs i).size=0
  ·rw[if_pos h2]
   rw[decide_eq_true h2]at HA
   generalize Pg.slotAt (leafP p).recs i=q at HA
   generalize leafP p=x at HT
   clear hgood h2
   go_enter Tryz.func91,Tryz.ntmps91
   go_wp2_with (first|(go_at_call 43;refine(HT.out _).mono ?_;rintro e w1 ⟨y0,A,c,rfl,hcl,hb1⟩;obtain⟨hy,hco⟩:=hcl rfl;clear hcl;subst hy)|(go_at_call 89;refine(HA.out _).mono ?_;rintro e w2 ⟨rfl,hb2⟩;obtain⟨c0,c1,c2,c3,f0,f1,f2,f3⟩:=blk4 (blk_new hb2);have hlt:w1.heap.size<w2.heap.size:=(by have:=hb2.size;simp at this;omega)))
   go_ret2
   exact⟨rfl,andThen hb1 (below_past hb2)⟩
  ·rw[if_neg h2]
   obtain⟨hi0,hi1⟩:=Pg.slotAt_lt h2
   rw[decide_eq_false h2]at HA
   clear h2
   generalize Pg.slotAt (leafP p).recs i=q at HA
   obtain⟨k,rfl⟩:=Int.eq_ofNat_of_zero_le hi0
   rw[show((k:Int)).toNat=k from rfl]
   have hz:(⟨#[]⟩:ByteArray).size=0:=rfl
   have hln:=hgood.fine.len
   have hsm:=hgood.fine.sum
   have hps:=Pg.putAt_size (leafP p).recs k ⟨#[]⟩
   have HW:=Hq (fun A c W hW=>prwith_any (leafP p).recs A c k ⟨#[]⟩ (by omega) (by omega) W hW)
   have HU:=Hq (fun A c W hW=>laid_any (withRecs p (Pg.putAt (leafP p).recs k ⟨#[]⟩)) A c (withRecs_small p _) (by show Pg.sizeN (Pg.putAt _ _ _)≤_;omega) (.inl (Nat.le_trans (Pg.cutAt_size (by omega)) hgood.fits)) W hW)
   generalize Pg.fullO (withRecs p (Pg.putAt (leafP p).recs k ⟨#[]⟩))=o at HU ⊢
   change Hid (∀ A c W,Cells W A c (Pg.putAt (leafP p).recs k ⟨#[]⟩)→Calls _ _ #[.agg #[.int .i64 (leafP p).lsn,.int .i64 (leafP p).kind,.int .i64 (leafP p).link,.slice A (Pg.putAt (leafP p).recs k ⟨#[]⟩).length c]] _ _)at HU
   clear hps hln hsm hgood
   generalize Pg.putAt (leafP p).recs k ⟨#[]⟩=rs at HW HU
   generalize leafP p=x at HT HW HU
   go_enter Tryz.func91,Tryz.ntmps91
   go_wp2_with (first|(go_at_call 43;refine(HT.out _).mono ?_;rintro e w1 ⟨y0,A,c,rfl,hcl,hb1⟩;obtain⟨hy,hco⟩:=hcl rfl;clear hcl;subst hy)|(go_at_call 89;refine(HA.out _).mono ?_;rintro e w2 ⟨rfl,hb2⟩;obtain⟨c0,c1,c2,c3,f0,f1,f2,f3⟩:=blk4 (blk_new hb2);have hlt:w1.heap.size<w2.heap.size:=(by have:=hb2.size;simp at this;omega))|(go_at_call 140;refine(HW.out _ _ _ (hco.cells.below (below_past hb2))).mono ?_;rintro e w4 ⟨A',c',rfl,ho4,hb4⟩;obtain⟨d0,d1,d2,d3,g0,g1,g2,g3⟩:=blk4 (blk_old (blk_new hb2) hb4))|(go_at_call 141;refine(HU.out _ _ _ (OwnCells.set ho4 _ hlt _).cells).mono ?_;rintro e w5 ⟨rfl,hb5⟩))
   go_ret2
   exact⟨rfl,andThen ((andThen (andThen hb1 (below_past hb2)) hb4).setCell hb1.size _) hb5⟩
theorem rpset_any (p:ByteArray)(i:Int)(r:ByteArray)(hm:p.size≤140737488355328)(w:World):
 Calls Tryz.prog 92 #[p,i,r] w fun e w'=>e= .returned (outV (setO p i r))∧Below w.heap.size w w':=by
 have HT:=Hq (fun W=>rparts_leaf p hm W)
 have HA:=Hq (fun W=>rget_any_rec p i hm W)
 have HY:=Hq (fun W=>rmay_any r W)
 change Hid (∀ W,Calls _ _ _ _ fun e w'=>e= .returned (.bool (mayB r))∧_)at HY
 have hgood:=leafP_good p
 unfold setO
 cases hb:isPg p with
 |false=>
  rw[if_pos rfl]
  rw[hb]at HT
  generalize leafP p=x at HT
  clear hgood hb HA HY
  go_enter Tryz.func92,Tryz.ntmps92
  go_wp2_with (first|(go_at_call 43;refine(HT.out _).mono ?_;rintro e w1 ⟨y0,A,c,rfl,hcl,hb1⟩))
  go_ret2
  exact⟨rfl,below_past_alloc hb1⟩
 |true=>
  rw[hb]at HT
  rw[if_neg (by simp)]
  clear hb
  cases hy:mayB r with
  |false=>
   rw[if_pos rfl]
   rw[hy]at HY
   generalize leafP p=x at HT
   clear hgood hy HA
   go_enter Tryz.func92,Tryz.ntmps92
   go_wp2_with (first|(go_at_call 43;refine(HT.out _).mono ?_;rintro e w1 ⟨y0,A,c,rfl,hcl,hb1⟩;obtain⟨hy,hco⟩:=hcl rfl;clear hcl;subst hy)|(go_at_call 139;refine(HY.out _).mono ?_;rintro e w3 ⟨rfl,rfl⟩))
   go_ret2
   exact⟨rfl,below_past_alloc hb1⟩
  |true=>
   rw[if_neg (by simp)]
   rw[hy]at HY
   obtain⟨hr1,hr2⟩:=mayB_yes hy
   clear hy
   by_cases h2:(Pg.slotAt (leafP p).recs i).size=0
   ·rw[if_pos h2]
    rw[decide_eq_true h2]at HA
    generalize Pg.slotAt (leafP p).recs i=q at HA
    generalize leafP p=x at HT
    clear hgood h2
    go_enter Tryz.func92,Tryz.ntmps92
    go_wp2_with (first|(go_at_call 43;refine(HT.out _).mono ?_;rintro e w1 ⟨y0,A,c,rfl,hcl,hb1⟩;obtain⟨hy,hco⟩:=hcl rfl;clear hcl;subst hy)|(go_at_call 139;refine(HY.out _).mono ?_;rintro e w3 ⟨rfl,rfl⟩)|(go_at_call 89;refine(HA.out _).mono ?_;rintro e w2 ⟨rfl,hb2⟩;obtain⟨c0,c1,c2,c3,f0,f1,f2,f3⟩:=blk4 (blk_new hb2);have hlt:w1.heap.size<w2.heap.size:=(by have:=hb2.size;simp at this;omega)))
    go_ret2
    exact⟨rfl,andThen hb1 (below_past hb2)⟩
   ·rw[if_neg h2]
    obtain⟨hi0,hi1⟩:=Pg.slotAt_lt h2
    rw[decide_eq_false h2]at HA
    clear h2
    generalize Pg.slotAt (leafP p).recs i=q at HA
    obtain⟨k,rfl⟩:=Int.eq_ofNat_of_zero_le hi0
    rw[show((k:Int)).toNat=k from rfl]
    have hln:=hgood.fine.len
    have hsm:=hgood.fine.sum
    have hps:=Pg.putAt_size (leafP p).recs k r
    have HW:=Hq (fun A c W hW=>prwith_any (leafP p).recs A c k r (by omega) (by omega) W hW)
    have HU:=Hq (fun A c W hW=>laid_any (withRecs p (Pg.putAt (leafP p).recs k r)) A c (withRecs_small p _) (by show Pg.sizeN (Pg.putAt _ _ _)≤_;omega) (.inr ((Pg.trim_tight _).2 (Pg.putAt_tight hgood.tight k (by omega)))) W hW)
    generalize Pg.fullO (withRecs p (Pg.putAt (leafP p).recs k r))=o at HU ⊢
    change Hid (∀ A c W,Cells W A c (Pg.putAt (leafP p).recs k r)→Calls _ _ #[.agg #[.int .i64 (leafP p).lsn,.int .i64 (leafP p).kind,.int .i64 (leafP p).link,.slice A (Pg.putAt (leafP p).recs k r).length c]] _ _)at HU
    clear hps hln hsm hgood
    generalize Pg.putAt (leafP p).recs k r=rs at HW HU
    generalize leafP p=x at HT HW HU
    go_enter Tryz.func92,Tryz.ntmps92
    go_wp2_with (first|(go_at_call 43;refine(HT.out _).mono ?_;rintro e w1 ⟨y0,A,c,rfl,hcl,hb1⟩;obtain⟨hy,hco⟩:=hcl rfl;clear hcl;subst hy)|(go_at_call 139;refine(HY.out _).mono ?_;rintro e w3 ⟨rfl,rfl⟩)|(go_at_call 89;refine(HA.out _).mono ?_;rintro e w2 ⟨rfl,hb2⟩;obtain⟨c0,c1,c2,c3,f0,f1,f2,f3⟩:=blk4 (blk_new hb2);have hlt:w1.heap.size<w2.heap.size:=(by have:=hb2.size;simp at this;omega))|(go_at_call 140;refine(HW.out _ _ _ (hco.cells.below (below_past hb2))).mono ?_;rintro e w4 ⟨A',c',rfl,ho4,hb4⟩;obtain⟨d0,d1,d2,d3,g0,g1,g2,g3⟩:=blk4 (blk_old (blk_new hb2) hb4))|(go_at_call 141;refine(HU.out _ _ _ (OwnCells.set ho4 _ hlt _).cells).mono ?_;rintro e w5 ⟨rfl,hb5⟩))
    go_ret2
    exact⟨rfl,andThen ((andThen (andThen hb1 (below_past hb2)) hb4).setCell hb1.size _) hb5⟩
theorem Cells.keepB {w w':World}{B b off c:Nat}{rs:List ByteArray}(h:Cells w (some ⟨b,off,none⟩) c rs)(hlt:b<B)(hb:Below B w w'):Cells w' (some ⟨b,off,none⟩) c rs:=fun h0=>by
 obtain⟨b',off',hA,hc,hl,hcell⟩:=h h0
 injection hA with hA
 injection hA with hA1 hA2
 subst hA1
 subst hA2
 refine⟨b,off,rfl,hc,Nat.lt_of_lt_of_le hl hb.size,fun j hj=>?_⟩
 rw[hb.cell (p:=⟨b,off+j,none⟩) hlt];exact hcell j hj
theorem padd_in (p:ByteArray)(k:Nat)(r:ByteArray)(hm:p.size≤140737488355328)(hb:isPg p=true)(hk:k<(leafP p).recs.length)(hr:mayB r=true)(w:World):
 Calls Tryz.prog 170 #[p,.int .i64 (k:Int),r] w fun e w'=>e= .returned (outV (Pg.fullO (withRecs p ((leafP p).recs.take k++[r]++(leafP p).recs.drop k))))∧Below w.heap.size w w':=by
 have HT:=Hq (fun W=>take_leaf p hm W)
 rw[hb]at HT
 have hgood:=leafP_good p
 have hln:=hgood.fine.len
 have hsm:=hgood.fine.sum
 have HY:=Hq (fun W=>may_any r W)
 change Hid (∀ W,Calls _ _ _ _ fun e w'=>e= .returned (.bool (mayB r))∧_)at HY
 rw[hr]at HY
 obtain⟨hr1,hr2⟩:=mayB_yes hr
 have hsz:Pg.sizeN ((leafP p).recs.take k++[r]++(leafP p).recs.drop k)≤1099511627776:=by
  have h1:=Pg.insAt_sum (leafP p).recs k r
  have h2:=Pg.insAt_length (leafP p).recs k r
  unfold Pg.insAt at h1 h2
  rw[if_neg (by omega)]at h1 h2
  unfold Pg.sizeN;omega
 have HU:=Hq (fun A c W hW=>full_any (withRecs p ((leafP p).recs.take k++[r]++(leafP p).recs.drop k)) A c (withRecs_small p _) hsz W hW)
 generalize Pg.fullO (withRecs p ((leafP p).recs.take k++[r]++(leafP p).recs.drop k))=o at HU ⊢
 change Hid (∀ A c W,Cells W A c ((leafP p).recs.take k++[r]++(leafP p).recs.drop k)→Calls _ _ #[.agg #[.int .i64 (leafP p).lsn,.int .i64 (leafP p).kind,.int .i64 (leafP p).link,.slice A ((leafP p).recs.take k++[r]++(leafP p).recs.drop k).length c]] _ _)at HU
 clear hsz hsm hgood hb hr hr1 hr2
 generalize leafP p=x at HT HU hln hk
 obtain⟨L,hL⟩:=ex (x.recs.take k++[r]++x.recs.drop k)
 rw[← hL]at HU
 have HL:=Hq hL
 clear hL
 have hk5:(k:Int)≤512:=by omega
 have hk0:(0:Int)≤(k:Int):=by omega
 have hkl:(k:Int)<(x.recs.length:Int):=by omega
 have hkl2:decide (x.recs.length≤k)=false:=decide_eq_false (by omega)
 go_enter Tryz.func170,Tryz.ntmps170
 go_upto_region 8 with(first|(go_at_call 109;refine(HT.out _).mono ?_;rintro e w1 ⟨A,c,rfl,hcl,hb1⟩)|(go_at_call 116;refine(HY.out _).mono ?_;rintro e w3 ⟨rfl,rfl⟩))
 obtain⟨b,off,rfl,hc,hbl,hcell⟩:=hcl.cells.at_ hk
 clear hcell
 have hkc:k<c:=by omega
 have hkc2:(k:Int)≤(c:Int):=by omega
 obtain⟨W,hW⟩:=ex (w1.alloc (.cells #[x.lsn,x.kind,x.link,.slice (some ⟨b,off,none⟩) x.recs.length c] 151 (0,0)))
 have hbW:Below w1.heap.size w1 W:=by rw[hW];exact(Below.refl _ _).alloc (Nat.le_refl _) _
 have hxW:W.heap[w1.heap.size]? =some (.cells #[x.lsn,x.kind,x.link,.slice (some ⟨b,off,none⟩) x.recs.length c] 151 (0,0)):=by rw[hW];exact heap_alloc_new w1 _
 have hszW:w1.heap.size<W.heap.size:=by rw[hW];simp
 rw[← hW]
 clear hW
 obtain⟨c0,c1,c2,c3,f0,f1,f2,f3⟩:=blk4 hxW
 have HX:=Hq hxW
 have HCC:=Hq (hcl.cells.below hbW)
 clear hcl hxW
 have hblW:b<W.heap.size:=by omega
 have HT1:=Hq (show(x.recs.take k).length=k by rw[List.length_take];omega)
 have HT2:=Hq (show(x.recs.drop k).length=x.recs.length-k by rw[List.length_drop])
 go_wp2_with (first|(at_builtin;refine wpList_appN _ rfl (.const (.slice none 0 0)) _ rfl W.heap.size (.slice none 0 0) [] rfl (OwnT.nil _ _) _ k _ (x.recs.take k) HT1.out rfl (HCC.out.take_ k) (by simp;omega) (Nat.le_refl _) ?_;intro v2 w2 hown2 hg2 hb2;rw[List.nil_append]at hown2;clear hg2;obtain⟨d0,d1,d2,d3,g0,g1,g2,g3⟩:=blk4 ((hb2.block _ hszW).trans HX.out))|(at_builtin;refine wpList_appN _ rfl (.tmp 46) _ rfl W.heap.size v2 (x.recs.take k) rfl (hown2.below ((Below.refl _ _).alloc (Nat.le_refl _) _)) _ 1 _ [r] rfl rfl (cells_one w2 _) (by rw[HT1.out];omega) (by have h1:=hb2.size;simp;omega) ?_;intro v4 w4 hown4 hg4 hb4;clear hg4;have hb4':=(hb2.trans (((Below.refl _ _).alloc hb2.size (.cells #[r] 9)).trans hb4));obtain⟨x0,x1,x2,x3,m0,m1,m2,m3⟩:=blk4 ((hb4'.block _ hszW).trans HX.out))|(at_builtin;refine wpList_appN _ rfl (.tmp 50) _ rfl W.heap.size v4 (x.recs.take k++[r]) rfl hown4 _ (x.recs.length-k) _ (x.recs.drop k) HT2.out rfl ((HCC.out.keepB hblW hb4').drop_ k) (by rw[List.length_append,HT1.out,List.length_singleton];omega) hb4'.size ?_;intro v6 w6 hown6 hg6 hb6;clear hg6;have hb6':=hb4'.trans hb6;rw[← HL.out]at hown6;obtain⟨A6,c6,rfl,hoc6,-⟩:=hown6.form;obtain⟨z0,z1,z2,z3,k0,k1,k2,k3⟩:=blk4 ((hb6'.block _ hszW).trans HX.out))|(go_at_call 118;refine(HU.out _ _ _ (OwnCells.set hoc6 ⟨w1.heap.size,3,none⟩ hszW _).cells).mono ?_;rintro e w7 ⟨rfl,hb7⟩))
 go_ret2
 exact⟨rfl,andThen (Below.setCell (hb1.trans ((hbW.trans (hb6'.mono hbW.size)).mono hb1.size)) hb1.size _) hb7⟩
theorem pdel_in (p:ByteArray)(k:Nat)(hm:p.size≤140737488355328)(hb:isPg p=true)(hk:k<(leafP p).recs.length)(hs:¬ (Pg.slotAt (leafP p).recs (k:Int)).size=0)(w:World):
 Calls Tryz.prog 171 #[p,.int .i64 (k:Int)] w fun e w'=>e= .returned (outV (Pg.fullO (withRecs p (Pg.delAt (leafP p).recs k))))∧Below w.heap.size w w':=by
 have HT:=Hq (fun W=>take_leaf p hm W)
 rw[hb]at HT
 have hgood:=leafP_good p
 have hln:=hgood.fine.len
 have hsm:=hgood.fine.sum
 have hsz:Pg.sizeN (Pg.delAt (leafP p).recs k)≤1099511627776:=Nat.le_trans (Pg.delAt_size hk) (Nat.le_trans hgood.fits (by omega))
 have HU:=Hq (fun A c W hW=>full_any (withRecs p (Pg.delAt (leafP p).recs k)) A c (withRecs_small p _) hsz W hW)
 generalize Pg.fullO (withRecs p (Pg.delAt (leafP p).recs k))=o at HU ⊢
 change Hid (∀ A c W,Cells W A c (Pg.delAt (leafP p).recs k)→Calls _ _ #[.agg #[.int .i64 (leafP p).lsn,.int .i64 (leafP p).kind,.int .i64 (leafP p).link,.slice A (Pg.delAt (leafP p).recs k).length c]] _ _)at HU
 have HA:=Hq (fun A c W hW=>at_any (leafP p) A c (k:Int) W hW)
 obtain⟨hie,hne⟩:=empty_no hs
 generalize Pg.slotAt (leafP p).recs (k:Int)=q at HA hie hne
 clear hsz hsm hgood hb hs
 generalize leafP p=x at HT HU hln hk HA
 obtain⟨L,hL⟩:=ex (Pg.delAt x.recs k)
 rw[← hL]at HU
 have HL:=Hq hL
 clear hL
 have hk5:(k:Int)≤512:=by omega
 have hk0:(0:Int)≤(k:Int):=by omega
 have hkl:(k:Int)<(x.recs.length:Int):=by omega
 have hkl2:decide (x.recs.length≤k)=false:=decide_eq_false (by omega)
 go_enter Tryz.func171,Tryz.ntmps171
 go_upto_region 6 with(first|(go_at_call 109;refine(HT.out _).mono ?_;rintro e w1 ⟨A,c,rfl,hcl,hb1⟩)|(go_at_call 117;refine(HA.out _ _ _ (hcl.cells.below ((Below.refl _ _).alloc (Nat.le_refl _) _))).mono ?_;rintro e w2 ⟨rfl,hb2⟩))
 obtain⟨b,off,rfl,hc,hbl,hcell⟩:=hcl.cells.at_ hk
 clear hcell
 have hkc:k<c:=by omega
 have hkc2:(k:Int)≤(c:Int):=by omega
 obtain⟨W,hW⟩:=ex w2
 have hbW:Below w1.heap.size w1 W:=by rw[hW];exact below_past hb2
 have hxW:W.heap[w1.heap.size]? =some (.cells #[x.lsn,x.kind,x.link,.slice (some ⟨b,off,none⟩) x.recs.length c] 151 (0,0)):=by rw[hW];exact blk_new hb2
 have hszW:w1.heap.size<W.heap.size:=by rw[hW];have:=hb2.size;simp at this;omega
 rw[← hW]
 clear hW hb2
 obtain⟨c0,c1,c2,c3,f0,f1,f2,f3⟩:=blk4 hxW
 have HX:=Hq hxW
 have HCC:=Hq (hcl.cells.below hbW)
 clear hcl hxW
 have hblW:b<W.heap.size:=by omega
 have HT1:=Hq (show(x.recs.take k).length=k by rw[List.length_take];omega)
 have HT2:=Hq (show(x.recs.drop (k+1)).length=x.recs.length-(k+1) by rw[List.length_drop])
 have hk1:((k:Int)+1).toNat=k+1:=by omega
 have hk2:(k:Int)+1≤(c:Int):=by omega
 have hk3:(k:Int)+1≤(x.recs.length:Int):=by omega
 by_cases hce:c=k+1
 ·subst hce
  go_wp2_with (first|(at_builtin;refine wpList_appN _ rfl (.const (.slice none 0 0)) _ rfl W.heap.size (.slice none 0 0) [] rfl (OwnT.nil _ _) _ k _ (x.recs.take k) HT1.out rfl (HCC.out.take_ k) (by simp;omega) (Nat.le_refl _) ?_;intro v2 w2 hown2 hg2 hb2;rw[List.nil_append]at hown2;clear hg2;obtain⟨d0,d1,d2,d3,g0,g1,g2,g3⟩:=blk4 ((hb2.block _ hszW).trans HX.out))|(at_builtin;refine wpList_appN _ rfl (.tmp 25) _ rfl W.heap.size v2 (x.recs.take k) rfl hown2 _ 0 _ (x.recs.drop (k+1)) (by rw[HT2.out];omega) rfl (Cells.nil_ _ _ _ (by rw[HT2.out];omega)) (by rw[HT1.out];omega) hb2.size ?_;intro v6 w6 hown6 hg6 hb6;clear hg6;have hb6':=hb2.trans hb6;have hown7:OwnT W.heap.size w6 v6 L:=(by rw[HL.out];exact hown6);clear hown6;obtain⟨A6,c6,rfl,hoc6,-⟩:=hown7.form;obtain⟨z0,z1,z2,z3,k0,k1,k2,k3⟩:=blk4 ((hb6'.block _ hszW).trans HX.out))|(go_at_call 118;refine(HU.out _ _ _ (OwnCells.set hoc6 ⟨w1.heap.size,3,none⟩ hszW _).cells).mono ?_;rintro e w7 ⟨rfl,hb7⟩))
  go_ret2
  exact⟨rfl,andThen (Below.setCell (hb1.trans ((hbW.trans (hb6'.mono hbW.size)).mono hb1.size)) hb1.size _) hb7⟩
 ·go_wp2_with (first|(at_builtin;refine wpList_appN _ rfl (.const (.slice none 0 0)) _ rfl W.heap.size (.slice none 0 0) [] rfl (OwnT.nil _ _) _ k _ (x.recs.take k) HT1.out rfl (HCC.out.take_ k) (by simp;omega) (Nat.le_refl _) ?_;intro v2 w2 hown2 hg2 hb2;rw[List.nil_append]at hown2;clear hg2;obtain⟨d0,d1,d2,d3,g0,g1,g2,g3⟩:=blk4 ((hb2.block _ hszW).trans HX.out))|(at_builtin;refine wpList_appN _ rfl (.tmp 25) _ rfl W.heap.size v2 (x.recs.take k) rfl hown2 _ (x.recs.length-(k+1)) _ (x.recs.drop (k+1)) HT2.out rfl ((HCC.out.keepB hblW hb2).drop_ (k+1)) (by rw[HT1.out];omega) hb2.size ?_;intro v6 w6 hown6 hg6 hb6;clear hg6;have hb6':=hb2.trans hb6;have hown7:OwnT W.heap.size w6 v6 L:=(by rw[HL.out];exact hown6);clear hown6;obtain⟨A6,c6,rfl,hoc6,-⟩:=hown7.form;obtain⟨z0,z1,z2,z3,k0,k1,k2,k3⟩:=blk4 ((hb6'.block _ hszW).trans HX.out))|(go_at_call 118;refine(HU.out _ _ _ (OwnCells.set hoc6 ⟨w1.heap.size,3,none⟩ hszW _).cells).mono ?_;rintro e w7 ⟨rfl,hb7⟩))
  go_ret2
  exact⟨rfl,andThen (Below.setCell (hb1.trans ((hbW.trans (hb6'.mono hbW.size)).mono hb1.size)) hb1.size _) hb7⟩
def addO (p:ByteArray)(i:Int)(r:ByteArray):ByteArray×Int:=
 if isPg p=false then(⟨#[]⟩,1)else if i<0 then(⟨#[]⟩,1)else if mayB r=false then(⟨#[]⟩,1)else if 512<i then(⟨#[]⟩,18)else Pg.fullO (withRecs p (Pg.insAt (leafP p).recs i.toNat r))
def delO (p:ByteArray)(i:Int):ByteArray×Int:=
 if isPg p=false then(⟨#[]⟩,1)else if(Pg.slotAt (leafP p).recs i).size=0 then(⟨#[]⟩,21)else Pg.fullO (withRecs p (Pg.delAt (leafP p).recs i.toNat))
theorem padd_any (p:ByteArray)(i:Int)(r:ByteArray)(hm:p.size≤140737488355328)(w:World):
 Calls Tryz.prog 170 #[p,i,r] w fun e w'=>e= .returned (outV (addO p i r))∧Below w.heap.size w w':=by
 have HT:=Hq (fun W=>take_leaf p hm W)
 have HY:=Hq (fun W=>may_any r W)
 change Hid (∀ W,Calls _ _ _ _ fun e w'=>e= .returned (.bool (mayB r))∧_)at HY
 have hgood:=leafP_good p
 unfold addO
 cases hb:isPg p with
 |false=>
  rw[if_pos rfl]
  rw[hb]at HT
  generalize leafP p=x at HT
  clear hgood hb HY
  go_enter Tryz.func170,Tryz.ntmps170
  go_wp2_with (first|(go_at_call 109;refine(HT.out _).mono ?_;rintro e w1 ⟨A,c,rfl,hcl,hb1⟩))
  go_ret2
  exact⟨rfl,below_past_alloc hb1⟩
 |true=>
  rw[if_neg (by simp)]
  by_cases h1:i<0
  ·rw[if_pos h1]
   rw[hb]at HT
   generalize leafP p=x at HT
   clear hgood hb HY
   go_enter Tryz.func170,Tryz.ntmps170
   go_wp2_with (first|(go_at_call 109;refine(HT.out _).mono ?_;rintro e w1 ⟨A,c,rfl,hcl,hb1⟩))
   go_ret2
   exact⟨rfl,below_past_alloc hb1⟩
  ·rw[if_neg h1]
   obtain⟨k,rfl⟩:=Int.eq_ofNat_of_zero_le (show 0≤i by omega)
   have hk0:(0:Int)≤(k:Int):=by omega
   clear h1
   rw[show((k:Int)).toNat=k from rfl]
   cases hy:mayB r with
   |false=>
    rw[if_pos rfl]
    rw[hy]at HY
    rw[hb]at HT
    generalize leafP p=x at HT
    clear hgood hb hy
    go_enter Tryz.func170,Tryz.ntmps170
    go_wp2_with (first|(go_at_call 109;refine(HT.out _).mono ?_;rintro e w1 ⟨A,c,rfl,hcl,hb1⟩)|(go_at_call 116;refine(HY.out _).mono ?_;rintro e w3 ⟨rfl,rfl⟩))
    go_ret2
    exact⟨rfl,below_past_alloc hb1⟩
   |true=>
    rw[if_neg (by simp)]
    by_cases hk:k<(leafP p).recs.length
    ·have hln:=hgood.fine.len
     rw[if_neg (by omega)]
     unfold Pg.insAt
     rw[if_neg (by omega)]
     exact padd_in p k r hm hb hk hy w
    ·by_cases h5:(512:Int)<(k:Int)
     ·rw[if_pos h5]
      rw[hb]at HT
      rw[hy]at HY
      generalize leafP p=x at HT
      clear hgood hb hy hk
      go_enter Tryz.func170,Tryz.ntmps170
      go_wp2_with (first|(go_at_call 109;refine(HT.out _).mono ?_;rintro e w1 ⟨A,c,rfl,hcl,hb1⟩)|(go_at_call 116;refine(HY.out _).mono ?_;rintro e w3 ⟨rfl,rfl⟩))
      go_ret2
      exact⟨rfl,below_past_alloc hb1⟩
     ·rw[if_neg h5]
      rw[show Pg.insAt (leafP p).recs k r=Pg.putAt (leafP p).recs k r from if_pos (by omega)]
      obtain⟨hr1,hr2⟩:=mayB_yes hy
      have hln:=hgood.fine.len
      have hsm:=hgood.fine.sum
      have hps:=Pg.putAt_size (leafP p).recs k r
      have HW:=Hq (fun A c W hW=>with_any (leafP p) A c k r (by omega) (by omega) W hW)
      have HU:=Hq (fun A c W hW=>full_any (withRecs p (Pg.putAt (leafP p).recs k r)) A c (withRecs_small p _) (by show Pg.sizeN (Pg.putAt _ _ _)≤_;omega) W hW)
      change Hid (∀ A c W,Cells W A c (leafP p).recs→Calls _ _ _ _ fun e w'=>∃ A' c',e= .returned (leafV (withRecs p (Pg.putAt (leafP p).recs k r)) A' c')∧OwnCells _ w' A' c' (withRecs p (Pg.putAt (leafP p).recs k r)).recs∧_)at HW
      rw[hb]at HT
      rw[hy]at HY
      clear hps hln hsm hr1 hr2 hgood hb hy
      generalize withRecs p (Pg.putAt (leafP p).recs k r)=y at HW HU ⊢
      generalize Pg.fullO y=o at HU ⊢
      generalize leafP p=x at HT HW hk
      have hkl:(x.recs.length:Int)≤(k:Int):=by omega
      go_enter Tryz.func170,Tryz.ntmps170
      go_wp2_with (first|(go_at_call 109;refine(HT.out _).mono ?_;rintro e w1 ⟨A,c,rfl,hcl,hb1⟩)|(go_at_call 116;refine(HY.out _).mono ?_;rintro e w3 ⟨rfl,rfl⟩)|(go_at_call 119;refine(HW.out _ _ _ (hcl.cells.below ((Below.refl _ _).alloc (Nat.le_refl _) _))).mono ?_;rintro e w4 ⟨A',c',rfl,ho4,hb4⟩)|(go_at_call 118;refine(HU.out _ _ _ ho4.cells).mono ?_;rintro e w5 ⟨rfl,hb5⟩))
      go_ret2
      exact⟨rfl,andThen (andThen (below_past_alloc hb1) hb4) hb5⟩
theorem pdel_any (p:ByteArray)(i:Int)(hm:p.size≤140737488355328)(w:World):
 Calls Tryz.prog 171 #[p,i] w fun e w'=>e= .returned (outV (delO p i))∧Below w.heap.size w w':=by
 have HT:=Hq (fun W=>take_leaf p hm W)
 have HA:=Hq (fun A c W hW=>at_any (leafP p) A c i W hW)
 unfold delO
 cases hb:isPg p with
 |false=>
  rw[if_pos rfl]
  rw[hb]at HT
  generalize leafP p=x at HT
  clear hb HA
  go_enter Tryz.func171,Tryz.ntmps171
  go_wp2_with (first|(go_at_call 109;refine(HT.out _).mono ?_;rintro e w1 ⟨A,c,rfl,hcl,hb1⟩))
  go_ret2
  exact⟨rfl,below_past_alloc hb1⟩
 |true=>
  rw[if_neg (by simp)]
  by_cases h2:(Pg.slotAt (leafP p).recs i).size=0
  ·rw[if_pos h2]
   rw[hb]at HT
   clear hb
   rw[empty_yes h2]at HA
   generalize leafP p=x at HT HA
   clear h2
   go_enter Tryz.func171,Tryz.ntmps171
   go_wp2_with (first|(go_at_call 109;refine(HT.out _).mono ?_;rintro e w1 ⟨A,c,rfl,hcl,hb1⟩)|(go_at_call 117;refine(HA.out _ _ _ (hcl.cells.below ((Below.refl _ _).alloc (Nat.le_refl _) _))).mono ?_;rintro e w2 ⟨rfl,hb2⟩;obtain⟨c0,c1,c2,c3,f0,f1,f2,f3⟩:=blk4 (blk_new hb2)))
   go_ret2
   exact⟨rfl,andThen hb1 (below_past hb2)⟩
  ·rw[if_neg h2]
   obtain⟨hi0,hi1⟩:=Pg.slotAt_lt h2
   obtain⟨k,rfl⟩:=Int.eq_ofNat_of_zero_le hi0
   rw[show((k:Int)).toNat=k from rfl]
   exact pdel_in p k hm hb (by omega) h2 w
theorem rpadd_in (p:ByteArray)(k:Nat)(r:ByteArray)(hm:p.size≤140737488355328)(hb:isPg p=true)(hk:k<(leafP p).recs.length)(hr:mayB r=true)(w:World):
 Calls Tryz.prog 93 #[p,.int .i64 (k:Int),r] w fun e w'=>e= .returned (outV (Pg.fullO (withRecs p ((leafP p).recs.take k++[r]++(leafP p).recs.drop k))))∧Below w.heap.size w w':=by
 have HT:=Hq (fun W=>rparts_leaf p hm W)
 rw[hb]at HT
 have hgood:=leafP_good p
 have hln:=hgood.fine.len
 have hsm:=hgood.fine.sum
 have HY:=Hq (fun W=>rmay_any r W)
 change Hid (∀ W,Calls _ _ _ _ fun e w'=>e= .returned (.bool (mayB r))∧_)at HY
 rw[hr]at HY
 obtain⟨hr1,hr2⟩:=mayB_yes hr
 have hsz:Pg.sizeN ((leafP p).recs.take k++[r]++(leafP p).recs.drop k)≤1099511627776:=by
  have h1:=Pg.insAt_sum (leafP p).recs k r
  have h2:=Pg.insAt_length (leafP p).recs k r
  unfold Pg.insAt at h1 h2
  rw[if_neg (by omega)]at h1 h2
  unfold Pg.sizeN;omega
 have HU:=Hq (fun A c W hW=>laid_any (withRecs p ((leafP p).recs.take k++[r]++(leafP p).recs.drop k)) A c (withRecs_small p _) hsz (.inr ((Pg.trim_tight _).2 (by have h3:=Pg.insAt_tight hgood.tight k (r:=r) (by omega);unfold Pg.insAt at h3;rw[if_neg (by omega)]at h3;exact h3))) W hW)
 generalize Pg.fullO (withRecs p ((leafP p).recs.take k++[r]++(leafP p).recs.drop k))=o at HU ⊢
 change Hid (∀ A c W,Cells W A c ((leafP p).recs.take k++[r]++(leafP p).recs.drop k)→Calls _ _ #[.agg #[.int .i64 (leafP p).lsn,.int .i64 (leafP p).kind,.int .i64 (leafP p).link,.slice A ((leafP p).recs.take k++[r]++(leafP p).recs.drop k).length c]] _ _)at HU
 clear hsz hsm hgood hb hr hr1 hr2
 generalize leafP p=x at HT HU hln hk
 obtain⟨L,hL⟩:=ex (x.recs.take k++[r]++x.recs.drop k)
 rw[← hL]at HU
 have HL:=Hq hL
 clear hL
 have hk5:(k:Int)≤512:=by omega
 have hk0:(0:Int)≤(k:Int):=by omega
 have hkl:(k:Int)<(x.recs.length:Int):=by omega
 have hkl2:decide (x.recs.length≤k)=false:=decide_eq_false (by omega)
 go_enter Tryz.func93,Tryz.ntmps93
 go_upto_region 7 with(first|(go_at_call 43;refine(HT.out _).mono ?_;rintro e w1 ⟨y0,A,c,rfl,hcl0,hb1⟩;obtain⟨hy,hcl⟩:=hcl0 rfl;clear hcl0;subst hy)|(go_at_call 139;refine(HY.out _).mono ?_;rintro e w3 ⟨rfl,rfl⟩))
 obtain⟨b,off,rfl,hc,hbl,hcell⟩:=hcl.cells.at_ hk
 clear hcell
 have hkc:k<c:=by omega
 have hkc2:(k:Int)≤(c:Int):=by omega
 obtain⟨W,hW⟩:=ex (w1.alloc (.cells #[y0.lsn,y0.kind,y0.link,.slice (some ⟨b,off,none⟩) y0.recs.length c] 95 (0,0)))
 have hbW:Below w1.heap.size w1 W:=by rw[hW];exact(Below.refl _ _).alloc (Nat.le_refl _) _
 have hxW:W.heap[w1.heap.size]? =some (.cells #[y0.lsn,y0.kind,y0.link,.slice (some ⟨b,off,none⟩) y0.recs.length c] 95 (0,0)):=by rw[hW];exact heap_alloc_new w1 _
 have hszW:w1.heap.size<W.heap.size:=by rw[hW];simp
 rw[← hW]
 clear hW
 obtain⟨c0,c1,c2,c3,f0,f1,f2,f3⟩:=blk4 hxW
 have HX:=Hq hxW
 have HCC:=Hq (hcl.cells.below hbW)
 clear hcl hxW
 have hblW:b<W.heap.size:=by omega
 have HT1:=Hq (show(y0.recs.take k).length=k by rw[List.length_take];omega)
 have HT2:=Hq (show(y0.recs.drop k).length=y0.recs.length-k by rw[List.length_drop])
 go_wp2_with (first|(at_builtin;refine wpList_appN _ rfl (.tmp 38) _ rfl W.heap.size (.slice none 0 0) [] rfl (OwnT.nil _ _) _ k _ (y0.recs.take k) HT1.out rfl (HCC.out.take_ k) (by simp;omega) (Nat.le_refl _) ?_;intro v2 w2 hown2 hg2 hb2;rw[List.nil_append]at hown2;clear hg2;obtain⟨d0,d1,d2,d3,g0,g1,g2,g3⟩:=blk4 ((hb2.block _ hszW).trans HX.out))|(at_builtin;refine wpList_appN _ rfl (.tmp 44) _ rfl W.heap.size v2 (y0.recs.take k) rfl (hown2.below ((Below.refl _ _).alloc (Nat.le_refl _) _)) _ 1 _ [r] rfl rfl (cells_one w2 _) (by rw[HT1.out];omega) (by have h1:=hb2.size;simp;omega) ?_;intro v4 w4 hown4 hg4 hb4;clear hg4;have hb4':=(hb2.trans (((Below.refl _ _).alloc hb2.size (.cells #[r] 9)).trans hb4));obtain⟨x0,x1,x2,x3,m0,m1,m2,m3⟩:=blk4 ((hb4'.block _ hszW).trans HX.out))|(at_builtin;refine wpList_appN _ rfl (.tmp 48) _ rfl W.heap.size v4 (y0.recs.take k++[r]) rfl hown4 _ (y0.recs.length-k) _ (y0.recs.drop k) HT2.out rfl ((HCC.out.keepB hblW hb4').drop_ k) (by rw[List.length_append,HT1.out,List.length_singleton];omega) hb4'.size ?_;intro v6 w6 hown6 hg6 hb6;clear hg6;have hb6':=hb4'.trans hb6;rw[← HL.out]at hown6;obtain⟨A6,c6,rfl,hoc6,-⟩:=hown6.form;obtain⟨z0,z1,z2,z3,k0,k1,k2,k3⟩:=blk4 ((hb6'.block _ hszW).trans HX.out))|(go_at_call 141;refine(HU.out _ _ _ (OwnCells.set hoc6 ⟨w1.heap.size,3,none⟩ hszW _).cells).mono ?_;rintro e w7 ⟨rfl,hb7⟩))
 go_ret2
 exact⟨rfl,andThen (Below.setCell (hb1.trans ((hbW.trans (hb6'.mono hbW.size)).mono hb1.size)) hb1.size _) hb7⟩
theorem rpdel_in (p:ByteArray)(k:Nat)(hm:p.size≤140737488355328)(hb:isPg p=true)(hk:k<(leafP p).recs.length)(hs:¬ (Pg.slotAt (leafP p).recs (k:Int)).size=0)(w:World):
 Calls Tryz.prog 94 #[p,.int .i64 (k:Int)] w fun e w'=>e= .returned (outV (Pg.fullO (withRecs p (Pg.delAt (leafP p).recs k))))∧Below w.heap.size w w':=by
 have HT:=Hq (fun W=>rparts_leaf p hm W)
 rw[hb]at HT
 have hgood:=leafP_good p
 have hln:=hgood.fine.len
 have hsm:=hgood.fine.sum
 have hsz:Pg.sizeN (Pg.delAt (leafP p).recs k)≤1099511627776:=Nat.le_trans (Pg.delAt_size hk) (Nat.le_trans hgood.fits (by omega))
 have HU:=Hq (fun A c W hW=>laid_any (withRecs p (Pg.delAt (leafP p).recs k)) A c (withRecs_small p _) hsz (.inl (Nat.le_trans (Pg.delAt_size hk) hgood.fits)) W hW)
 generalize Pg.fullO (withRecs p (Pg.delAt (leafP p).recs k))=o at HU ⊢
 change Hid (∀ A c W,Cells W A c (Pg.delAt (leafP p).recs k)→Calls _ _ #[.agg #[.int .i64 (leafP p).lsn,.int .i64 (leafP p).kind,.int .i64 (leafP p).link,.slice A (Pg.delAt (leafP p).recs k).length c]] _ _)at HU
 have HA:=Hq (fun W=>rget_any_rec p (k:Int) hm W)
 rw[decide_eq_false hs]at HA
 generalize Pg.slotAt (leafP p).recs (k:Int)=q at HA
 clear hsz hsm hgood hb hs
 generalize leafP p=x at HT HU hln hk
 obtain⟨L,hL⟩:=ex (Pg.delAt x.recs k)
 rw[← hL]at HU
 have HL:=Hq hL
 clear hL
 have hk5:(k:Int)≤512:=by omega
 have hk0:(0:Int)≤(k:Int):=by omega
 have hkl:(k:Int)<(x.recs.length:Int):=by omega
 have hkl2:decide (x.recs.length≤k)=false:=decide_eq_false (by omega)
 go_enter Tryz.func94,Tryz.ntmps94
 go_upto_region 8 with(first|(go_at_call 43;refine(HT.out _).mono ?_;rintro e w1 ⟨y0,A,c,rfl,hcl0,hb1⟩;obtain⟨hy,hcl⟩:=hcl0 rfl;clear hcl0;subst hy)|(go_at_call 89;refine(HA.out _).mono ?_;rintro e w2 ⟨rfl,hb2⟩))
 obtain⟨b,off,rfl,hc,hbl,hcell⟩:=hcl.cells.at_ hk
 clear hcell
 have hkc:k<c:=by omega
 have hkc2:(k:Int)≤(c:Int):=by omega
 obtain⟨W,hW⟩:=ex w2
 have hbW:Below w1.heap.size w1 W:=by rw[hW];exact below_past hb2
 have hxW:W.heap[w1.heap.size]? =some (.cells #[y0.lsn,y0.kind,y0.link,.slice (some ⟨b,off,none⟩) y0.recs.length c] 95 (0,0)):=by rw[hW];exact blk_new hb2
 have hszW:w1.heap.size<W.heap.size:=by rw[hW];have:=hb2.size;simp at this;omega
 rw[← hW]
 clear hW hb2
 obtain⟨c0,c1,c2,c3,f0,f1,f2,f3⟩:=blk4 hxW
 have HX:=Hq hxW
 have HCC:=Hq (hcl.cells.below hbW)
 clear hcl hxW
 have hblW:b<W.heap.size:=by omega
 have HT1:=Hq (show(y0.recs.take k).length=k by rw[List.length_take];omega)
 have HT2:=Hq (show(y0.recs.drop (k+1)).length=y0.recs.length-(k+1) by rw[List.length_drop])
 have hk1:((k:Int)+1).toNat=k+1:=by omega
 have hk2:(k:Int)+1≤(c:Int):=by omega
 have hk3:(k:Int)+1≤(y0.recs.length:Int):=by omega
 by_cases hce:c=k+1
 ·subst hce
  go_wp2_with (first|(at_builtin;refine wpList_appN _ rfl (.tmp 26) _ rfl W.heap.size (.slice none 0 0) [] rfl (OwnT.nil _ _) _ k _ (y0.recs.take k) HT1.out rfl (HCC.out.take_ k) (by simp;omega) (Nat.le_refl _) ?_;intro v2 w2 hown2 hg2 hb2;rw[List.nil_append]at hown2;clear hg2;obtain⟨d0,d1,d2,d3,g0,g1,g2,g3⟩:=blk4 ((hb2.block _ hszW).trans HX.out))|(at_builtin;refine wpList_appN _ rfl (.tmp 32) _ rfl W.heap.size v2 (y0.recs.take k) rfl hown2 _ 0 _ (y0.recs.drop (k+1)) (by rw[HT2.out];omega) rfl (Cells.nil_ _ _ _ (by rw[HT2.out];omega)) (by rw[HT1.out];omega) hb2.size ?_;intro v6 w6 hown6 hg6 hb6;clear hg6;have hb6':=hb2.trans hb6;have hown7:OwnT W.heap.size w6 v6 L:=(by rw[HL.out];exact hown6);clear hown6;obtain⟨A6,c6,rfl,hoc6,-⟩:=hown7.form;obtain⟨z0,z1,z2,z3,k0,k1,k2,k3⟩:=blk4 ((hb6'.block _ hszW).trans HX.out))|(go_at_call 141;refine(HU.out _ _ _ (OwnCells.set hoc6 ⟨w1.heap.size,3,none⟩ hszW _).cells).mono ?_;rintro e w7 ⟨rfl,hb7⟩))
  go_ret2
  exact⟨rfl,andThen (Below.setCell (hb1.trans ((hbW.trans (hb6'.mono hbW.size)).mono hb1.size)) hb1.size _) hb7⟩
 ·go_wp2_with (first|(at_builtin;refine wpList_appN _ rfl (.tmp 26) _ rfl W.heap.size (.slice none 0 0) [] rfl (OwnT.nil _ _) _ k _ (y0.recs.take k) HT1.out rfl (HCC.out.take_ k) (by simp;omega) (Nat.le_refl _) ?_;intro v2 w2 hown2 hg2 hb2;rw[List.nil_append]at hown2;clear hg2;obtain⟨d0,d1,d2,d3,g0,g1,g2,g3⟩:=blk4 ((hb2.block _ hszW).trans HX.out))|(at_builtin;refine wpList_appN _ rfl (.tmp 32) _ rfl W.heap.size v2 (y0.recs.take k) rfl hown2 _ (y0.recs.length-(k+1)) _ (y0.recs.drop (k+1)) HT2.out rfl ((HCC.out.keepB hblW hb2).drop_ (k+1)) (by rw[HT1.out];omega) hb2.size ?_;intro v6 w6 hown6 hg6 hb6;clear hg6;have hb6':=hb2.trans hb6;have hown7:OwnT W.heap.size w6 v6 L:=(by rw[HL.out];exact hown6);clear hown6;obtain⟨A6,c6,rfl,hoc6,-⟩:=hown7.form;obtain⟨z0,z1,z2,z3,k0,k1,k2,k3⟩:=blk4 ((hb6'.block _ hszW).trans HX.out))|(go_at_call 141;refine(HU.out _ _ _ (OwnCells.set hoc6 ⟨w1.heap.size,3,none⟩ hszW _).cells).mono ?_;rintro e w7 ⟨rfl,hb7⟩))
  go_ret2
  exact⟨rfl,andThen (Below.setCell (hb1.trans ((hbW.trans (hb6'.mono hbW.size)).mono hb1.size)) hb1.size _) hb7⟩
theorem rpadd_any (p:ByteArray)(i:Int)(r:ByteArray)(hm:p.size≤140737488355328)(w:World):
 Calls Tryz.prog 93 #[p,i,r] w fun e w'=>e= .returned (outV (addO p i r))∧Below w.heap.size w w':=by
 have HT:=Hq (fun W=>rparts_leaf p hm W)
 have HY:=Hq (fun W=>rmay_any r W)
 change Hid (∀ W,Calls _ _ _ _ fun e w'=>e= .returned (.bool (mayB r))∧_)at HY
 have hgood:=leafP_good p
 unfold addO
 cases hb:isPg p with
 |false=>
  rw[if_pos rfl]
  rw[hb]at HT
  generalize leafP p=x at HT
  clear hgood hb HY
  go_enter Tryz.func93,Tryz.ntmps93
  go_wp2_with (first|(go_at_call 43;refine(HT.out _).mono ?_;rintro e w1 ⟨y0,A,c,rfl,hcl,hb1⟩))
  go_ret2
  exact⟨rfl,below_past_alloc hb1⟩
 |true=>
  rw[if_neg (by simp)]
  by_cases h1:i<0
  ·rw[if_pos h1]
   rw[hb]at HT
   generalize leafP p=x at HT
   clear hgood hb HY
   go_enter Tryz.func93,Tryz.ntmps93
   go_wp2_with (first|(go_at_call 43;refine(HT.out _).mono ?_;rintro e w1 ⟨y0,A,c,rfl,hcl,hb1⟩;obtain⟨hy,hco⟩:=hcl rfl;clear hcl;subst hy))
   go_ret2
   exact⟨rfl,below_past_alloc hb1⟩
  ·rw[if_neg h1]
   obtain⟨k,rfl⟩:=Int.eq_ofNat_of_zero_le (show 0≤i by omega)
   have hk0:(0:Int)≤(k:Int):=by omega
   clear h1
   rw[show((k:Int)).toNat=k from rfl]
   cases hy:mayB r with
   |false=>
    rw[if_pos rfl]
    rw[hy]at HY
    rw[hb]at HT
    generalize leafP p=x at HT
    clear hgood hb hy
    go_enter Tryz.func93,Tryz.ntmps93
    go_wp2_with (first|(go_at_call 43;refine(HT.out _).mono ?_;rintro e w1 ⟨y0,A,c,rfl,hcl,hb1⟩;obtain⟨hy,hco⟩:=hcl rfl;clear hcl;subst hy)|(go_at_call 139;refine(HY.out _).mono ?_;rintro e w3 ⟨rfl,rfl⟩))
    go_ret2
    exact⟨rfl,below_past_alloc hb1⟩
   |true=>
    rw[if_neg (by simp)]
    by_cases hk:k<(leafP p).recs.length
    ·have hln:=hgood.fine.len
     rw[if_neg (by omega)]
     unfold Pg.insAt
     rw[if_neg (by omega)]
     exact rpadd_in p k r hm hb hk hy w
    ·have hpast:Pg.slotAt (leafP p).recs (k:Int)=⟨#[]⟩:=Pg.slotAt_past (by omega)
     have hins:Pg.insAt (leafP p).recs k r=Pg.putAt (leafP p).recs k r:=if_pos (by omega)
     have HQ:=Hq (fun W=>rpput_any p (k:Int) r hm W)
     have hO:putO p (k:Int) r=(if(512:Int)<(k:Int)then(⟨#[]⟩,18)else Pg.fullO (withRecs p (Pg.insAt (leafP p).recs k r))):=by
      unfold putO
      rw[if_neg (by rw[hb];simp),if_neg (by omega),if_neg (by rw[hpast];exact fun h=>h rfl),if_neg (by rw[hy];simp),hins];rfl
     rw[← hO]
     generalize putO p (k:Int) r=o at HQ ⊢
     rw[hb]at HT
     rw[hy]at HY
     generalize leafP p=x at HT hk
     have hkl:(x.recs.length:Int)≤(k:Int):=by omega
     clear hgood hb hy hpast hins hO
     go_enter Tryz.func93,Tryz.ntmps93
     go_wp2_with (first|(go_at_call 43;refine(HT.out _).mono ?_;rintro e w1 ⟨y0,A,c,rfl,hcl,hb1⟩;obtain⟨hy,hco⟩:=hcl rfl;clear hcl;subst hy)|(go_at_call 139;refine(HY.out _).mono ?_;rintro e w3 ⟨rfl,rfl⟩)|(go_at_call 90;refine(HQ.out _).mono ?_;rintro e w4 ⟨rfl,hb4⟩))
     go_ret2
     exact⟨rfl,andThen (below_past_alloc hb1) hb4⟩
theorem rpdel_any (p:ByteArray)(i:Int)(hm:p.size≤140737488355328)(w:World):
 Calls Tryz.prog 94 #[p,i] w fun e w'=>e= .returned (outV (delO p i))∧Below w.heap.size w w':=by
 have HT:=Hq (fun W=>rparts_leaf p hm W)
 have HA:=Hq (fun W=>rget_any_rec p i hm W)
 unfold delO
 cases hb:isPg p with
 |false=>
  rw[if_pos rfl]
  rw[hb]at HT
  generalize leafP p=x at HT
  clear hb HA
  go_enter Tryz.func94,Tryz.ntmps94
  go_wp2_with (first|(go_at_call 43;refine(HT.out _).mono ?_;rintro e w1 ⟨y0,A,c,rfl,hcl,hb1⟩))
  go_ret2
  exact⟨rfl,below_past_alloc hb1⟩
 |true=>
  rw[if_neg (by simp)]
  by_cases h2:(Pg.slotAt (leafP p).recs i).size=0
  ·rw[if_pos h2]
   rw[hb]at HT
   clear hb
   rw[decide_eq_true h2]at HA
   generalize Pg.slotAt (leafP p).recs i=q at HA
   generalize leafP p=x at HT
   clear h2
   go_enter Tryz.func94,Tryz.ntmps94
   go_wp2_with (first|(go_at_call 43;refine(HT.out _).mono ?_;rintro e w1 ⟨y0,A,c,rfl,hcl,hb1⟩;obtain⟨hy,hco⟩:=hcl rfl;clear hcl;subst hy)|(go_at_call 89;refine(HA.out _).mono ?_;rintro e w2 ⟨rfl,hb2⟩;obtain⟨c0,c1,c2,c3,f0,f1,f2,f3⟩:=blk4 (blk_new hb2)))
   go_ret2
   exact⟨rfl,andThen hb1 (below_past hb2)⟩
  ·rw[if_neg h2]
   obtain⟨hi0,hi1⟩:=Pg.slotAt_lt h2
   obtain⟨k,rfl⟩:=Int.eq_ofNat_of_zero_le hi0
   rw[show((k:Int)).toNat=k from rfl]
   exact rpdel_in p k hm hb (by omega) h2 w
theorem bytes_eq {p q:ByteArray}(h:p.data.toList=q.data.toList):p=q:=ByteArray.ext (Array.toList_inj.1 h)
theorem isPg_of {p:ByteArray}{x:Pg.Leaf}(h:Pg.right p.data.toList=some x):isPg p=true∧leafP p=x:=by
 unfold isPg leafP Pg.leafOf
 rw[h]
 exact⟨rfl,rfl⟩
theorem right_of_isPg {p:ByteArray}(h:isPg p=true):Pg.right p.data.toList=some (leafP p):=by
 unfold isPg at h
 unfold leafP Pg.leafOf
 cases hr:Pg.right p.data.toList with
 |none=>rw[hr]at h;cases h
 |some x=>rfl
theorem size_list (p:ByteArray):p.data.toList.length=p.size:=by simp
def pageB (x:Pg.Leaf):ByteArray:=⟨(Pg.layL x).toArray⟩
theorem pageB_list (x:Pg.Leaf):(pageB x).data.toList=Pg.layL x:=rfl
theorem pageB_size {x:Pg.Leaf}(hs:Pg.sizeN (Pg.trim x.recs)≤512):(pageB x).size=512:=by
 rw[← size_list,pageB_list];exact Pg.layL_length hs
theorem pageB_is {x:Pg.Leaf}(hx:Pg.Small x)(hs:Pg.sizeN (Pg.trim x.recs)≤512)(he:∀ r∈x.recs,r.size≤400):isPg (pageB x)=true∧leafP (pageB x)={x with recs:=Pg.trim x.recs}:=
 isPg_of (by rw[pageB_list];exact Pg.right_layL hx hs he)
theorem fullO_pageB {x:Pg.Leaf}(hs:Pg.sizeN (Pg.trim x.recs)≤512):Pg.fullO x=(pageB x,0):=Pg.fullO_yes hs
theorem fullO_cases (x:Pg.Leaf):(Pg.sizeN (Pg.trim x.recs)≤512∧Pg.fullO x=(pageB x,0))∨(512<Pg.sizeN (Pg.trim x.recs)∧Pg.fullO x=(⟨#[]⟩,18)):=by
 rcases Nat.lt_or_ge 512 (Pg.sizeN (Pg.trim x.recs))with h|h
 ·exact .inr ⟨h,Pg.fullO_no h⟩
 ·exact .inl ⟨h,Pg.fullO_yes h⟩
theorem putB4 (n:Nat):(Oct.putB (n:Int) 4).data.toList=Oct.putL (Oct.word n) 4:=Oct.putB_list _ 4 (by omega)
theorem sealT_list (t:ByteArray):(sealT t).data.toList=Oct.putL (Oct.word (Oct.sumN t.data.toList)) 4++t.data.toList:=by
 unfold sealT
 rw[ByteArray.data_append,Array.toList_append,putB4]
theorem pgextract_list (p:ByteArray)(h:p.size=512):(p.extract 4 512).data.toList=p.data.toList.drop 4:=by
 rw[show 512=4+508 from rfl,extract_eq]
 show(p.data.toList.drop 4).take 508=_
 exact List.take_of_length_le (by rw[List.length_drop,size_list];omega)
theorem sealB_is {p:ByteArray}(h:isPg p=true):isPg (sealB p)=true∧leafP (sealB p)=leafP p∧sealedP (sealB p)=true∧(sealB p).size=512:=by
 have h5:=isPg_size h
 have hl:(sealB p).data.toList=Oct.putL (Oct.word (Oct.sumN (p.data.toList.drop 4))) 4++p.data.toList.drop 4:=by
  unfold sealB
  rw[if_pos h,sealT_list,pgextract_list p h5]
 have hz:(sealB p).size=512:=by
  rw[← size_list,hl,List.length_append,Oct.putL_length,List.length_drop,size_list];omega
 have hd:(sealB p).data.toList.drop 4=p.data.toList.drop 4:=by rw[hl];exact List.drop_left' (Oct.putL_length _ 4)
 have hr:=Pg.right_sum (q:=(sealB p).data.toList) (right_of_isPg h) (by rw[size_list];exact hz) hd
 obtain⟨h1,h2⟩:=isPg_of hr
 refine⟨h1,h2,?_,hz⟩
 unfold sealedP
 rw[h1,Bool.true_and]
 apply decide_eq_true
 apply bytes_eq
 rw[sealT_list,pgextract_list _ hz,hd]
 exact hl.symm
end Go.Proofs.YtmfkhdhnbkambaaGreatDoor
namespace Pg
def rec_ (rs:List ByteArray)(j:Nat):ByteArray:=(rs[j]?).getD ⟨#[]⟩
theorem rec_past {rs:List ByteArray}{j:Nat}(h:rs.length≤j):rec_ rs j=⟨#[]⟩:=by
 unfold rec_;rw[List.getElem?_eq_none h];rfl
theorem rec_in {rs:List ByteArray}{j:Nat}(h:j<rs.length):rec_ rs j=rs[j]:=by
 unfold rec_;rw[List.getElem?_eq_getElem h];rfl
theorem slotAt_rec (rs:List ByteArray)(k:Nat):slotAt rs (k:Int)=rec_ rs k:=by
 unfold slotAt rec_
 rw[if_neg (by omega)];rfl
theorem nil_of_size {r:ByteArray}(h:r.size=0):r=⟨#[]⟩:=by
 apply ByteArray.ext
 exact Array.eq_empty_of_size_eq_zero h
theorem trimN_rest (rs:List ByteArray):∀ m j,trimN rs m≤j→j<m→(rec_ rs j).size=0:=by
 intro m
 induction m with
 |zero=>intro j _ h;omega
 |succ m ih=>
  intro j h1 h2
  unfold trimN at h1
  split at h1
  ·rename_i h0
   by_cases hj:j=m
   ·rw[hj];exact h0
   ·exact ih j h1 (by omega)
  ·omega
theorem trim_rec (rs:List ByteArray)(j:Nat):rec_ (trim rs) j=rec_ rs j:=by
 have hle:=trimN_le rs rs.length
 by_cases h:j<trimN rs rs.length
 ·unfold rec_ trim
  rw[List.getElem?_take_of_lt h]
 ·have h1:rec_ (trim rs) j=⟨#[]⟩:=rec_past (by unfold trim;rw[List.length_take];omega)
  rw[h1]
  by_cases hj:j<rs.length
  ·exact(nil_of_size (trimN_rest rs rs.length j (by omega) hj)).symm
  ·exact(rec_past (by omega)).symm
theorem tight_ext {rs ss:List ByteArray}(h1:Tight rs)(h2:Tight ss)(h:∀ j,rec_ rs j=rec_ ss j):rs=ss:=by
 have key:∀ {a b:List ByteArray},Tight a→(∀ j,rec_ a j=rec_ b j)→a.length≤b.length:=by
  intro a b ha hab
  rcases tight_last ha with h0|h0
  ·omega
  ·rcases Nat.lt_or_ge b.length a.length with hlt|hge
   ·exfalso
    apply h0
    have h3:=hab (a.length-1)
    have h4:rec_ b (a.length-1)=⟨#[]⟩:=rec_past (by omega)
    rw[h4]at h3
    unfold rec_ at h3
    rw[h3];rfl
   ·exact hge
 have hl:rs.length=ss.length:=Nat.le_antisymm (key h1 h) (key h2 fun j=>(h j).symm)
 apply List.ext_getElem hl
 intro j hj1 hj2
 have:=h j
 rwa[rec_in hj1,rec_in hj2]at this
theorem trim_ext {rs ss:List ByteArray}(h:∀ j,rec_ rs j=rec_ ss j):trim rs=trim ss:=
 tight_ext (trim_trim rs) (trim_trim ss) fun j=>by rw[trim_rec,trim_rec,h]
theorem putAt_rec (rs:List ByteArray)(k:Nat)(r:ByteArray)(j:Nat):rec_ (putAt rs k r) j=if j=k then r else rec_ rs j:=putAt_get rs k r j
theorem insAt_rec (rs:List ByteArray)(k:Nat)(r:ByteArray)(j:Nat):rec_ (insAt rs k r) j=if j<k then rec_ rs j else if j=k then r else rec_ rs (j-1):=by
 unfold insAt
 split
 ·rename_i h
  rw[putAt_rec]
  by_cases h1:j=k
  ·rw[if_pos h1,if_neg (by omega),if_pos h1]
  ·rw[if_neg h1]
   by_cases h2:j<k
   ·rw[if_pos h2]
   ·rw[if_neg h2,if_neg h1,rec_past (by omega),rec_past (by omega)]
 ·rename_i h
  unfold rec_
  rw[List.append_assoc,List.getElem?_append]
  have hl:(rs.take k).length=k:=by rw[List.length_take];omega
  rw[hl]
  by_cases h2:j<k
  ·rw[if_pos h2,if_pos h2,List.getElem?_take_of_lt h2]
  ·rw[if_neg h2,if_neg h2,List.singleton_append]
   by_cases h1:j=k
   ·rw[if_pos h1,h1,Nat.sub_self];rfl
   ·rw[if_neg h1]
    obtain⟨m,rfl⟩:∃ m,j=k+1+m:=⟨j-(k+1),by omega⟩
    rw[show k+1+m-k=m+1 by omega,List.getElem?_cons_succ,List.getElem?_drop,show k+1+m-1=k+m by omega]
theorem delAt_rec (rs:List ByteArray)(k:Nat)(h:k<rs.length)(j:Nat):rec_ (delAt rs k) j=if j<k then rec_ rs j else rec_ rs (j+1):=by
 unfold delAt rec_
 rw[List.getElem?_append]
 have hl:(rs.take k).length=k:=by rw[List.length_take];omega
 rw[hl]
 by_cases h2:j<k
 ·rw[if_pos h2,if_pos h2,List.getElem?_take_of_lt h2]
 ·rw[if_neg h2,if_neg h2,List.getElem?_drop,show k+1+(j-k)=j+1 by omega]
end Pg
namespace Go.Proofs.YtmfkhdhnbkambaaGreatDoor
open Go.RowKit
structure Made (p q:ByteArray) (rs:List ByteArray):Prop where
 isPg:isPg q=true
 size:q.size=512
 lsn:(leafP q).lsn=(leafP p).lsn
 kind:(leafP q).kind=(leafP p).kind
 link:(leafP q).link=(leafP p).link
 rec_:∀ j,Pg.rec_ (leafP q).recs j=Pg.rec_ rs j
theorem full_made {p q:ByteArray}{rs:List ByteArray}{e:Int}(he:∀ r∈rs,r.size≤400)(h:Pg.fullO (withRecs p rs)=(q,e))(h0:e=0):Made p q rs∧q=pageB (withRecs p rs):=by
 rcases fullO_cases (withRecs p rs)with⟨hs,h1⟩|⟨hs,h1⟩
 ·rw[h1]at h
  injection h with hq _
  obtain⟨h2,h3⟩:=pageB_is (withRecs_small p rs) hs he
  rw[hq]at h2 h3
  refine⟨⟨h2,by rw[← hq];exact pageB_size hs,by rw[h3];rfl,by rw[h3];rfl,by rw[h3];rfl,fun j=>?_⟩,hq.symm⟩
  rw[h3]
  exact Pg.trim_rec rs j
 ·rw[h1]at h
  injection h with _ h4
  omega
theorem plain_page {p:ByteArray}(h:isPg p=true):lsnB p ((leafP p).lsn:Nat)=pageB (leafP p):=by
 have h1:=(leafP_good p).fine.small.1
 unfold lsnB
 rw[if_neg (by rw[h];simp;omega)]
 rfl
theorem back_page {p q:ByteArray}{rs:List ByteArray}(hp:isPg p=true)(h1:(leafP q).lsn=(leafP p).lsn)(h2:(leafP q).kind=(leafP p).kind)(h3:(leafP q).link=(leafP p).link)(h:∀ j,Pg.rec_ rs j=Pg.rec_ (leafP p).recs j):
 Pg.fullO (withRecs q rs)=(lsnB p ((leafP p).lsn:Nat),0):=by
 have hg:=leafP_good p
 have ht:Pg.trim rs=(leafP p).recs:=by rw[Pg.trim_ext h];exact Pg.trim_of_tight hg.tight
 have hs:Pg.sizeN (Pg.trim (withRecs q rs).recs)≤512:=by show Pg.sizeN (Pg.trim rs)≤512;rw[ht];exact hg.fits
 rw[plain_page hp,fullO_pageB hs]
 have e:Pg.layL (withRecs q rs)=Pg.layL (leafP p):=by
  unfold Pg.layL
  have e1:(withRecs q rs).recs=rs:=rfl
  rw[e1,ht,Pg.trim_of_tight hg.tight]
  unfold Pg.layR Pg.headL
  rw[show(withRecs q rs).lsn=(leafP p).lsn from h1,show(withRecs q rs).kind=(leafP p).kind from h2,show(withRecs q rs).link=(leafP p).link from h3]
 unfold pageB
 rw[e]
theorem out_eq {a b:ByteArray}{x y:Int}(h:(a,x)=(b,y)):a=b∧x=y:=by injection h with h1 h2;exact⟨h1,h2⟩
theorem not_false_true {b:Bool}(h:¬ b=false):b=true:=by cases b;exact absurd rfl h;rfl
theorem leaf_each (p:ByteArray):∀ r∈(leafP p).recs,r.size≤400:=(leafP_good p).fine.each
theorem putO_ok {p q r:ByteArray}{i:Int}(h:putO p i r=(q,0)):∃ k:Nat,i=k∧isPg p=true∧(Pg.rec_ (leafP p).recs k).size=0∧mayB r=true∧k≤512∧Made p q (Pg.putAt (leafP p).recs k r):=by
 unfold putO at h
 split at h
 ·have:=(out_eq h).2;omega
 ·rename_i h1
  split at h
  ·have:=(out_eq h).2;omega
  ·rename_i h2
   obtain⟨k,rfl⟩:=Int.eq_ofNat_of_zero_le (show 0≤i by omega)
   rw[Pg.slotAt_rec]at h
   split at h
   ·have:=(out_eq h).2;omega
   ·rename_i h3
    split at h
    ·have:=(out_eq h).2;omega
    ·rename_i h4
     split at h
     ·have:=(out_eq h).2;omega
     ·rename_i h5
      have hm:mayB r=true:=by simpa using h4
      refine⟨k,rfl,not_false_true h1,by simpa using h3,hm,by omega,(full_made (Pg.putAt_mem (leaf_each p) (mayB_yes hm).2) h rfl).1⟩
theorem cutO_ok {p q:ByteArray}{i:Int}(h:cutO p i=(q,0)):∃ k:Nat,i=k∧isPg p=true∧(Pg.rec_ (leafP p).recs k).size≠0∧k<(leafP p).recs.length∧Made p q (Pg.putAt (leafP p).recs k ⟨#[]⟩):=by
 unfold cutO at h
 split at h
 ·have:=(out_eq h).2;omega
 ·rename_i h1
  split at h
  ·have:=(out_eq h).2;omega
  ·rename_i h2
   obtain⟨h3,h4⟩:=Pg.slotAt_lt h2
   obtain⟨k,rfl⟩:=Int.eq_ofNat_of_zero_le h3
   rw[Pg.slotAt_rec]at h2
   exact⟨k,rfl,not_false_true h1,h2,by omega,(full_made (Pg.putAt_mem (leaf_each p) (by show(0:Nat)≤400;omega)) h rfl).1⟩
theorem setO_ok {p q r:ByteArray}{i:Int}(h:setO p i r=(q,0)):∃ k:Nat,i=k∧isPg p=true∧mayB r=true∧(Pg.rec_ (leafP p).recs k).size≠0∧k<(leafP p).recs.length∧Made p q (Pg.putAt (leafP p).recs k r):=by
 unfold setO at h
 split at h
 ·have:=(out_eq h).2;omega
 ·rename_i h1
  split at h
  ·have:=(out_eq h).2;omega
  ·rename_i h5
   split at h
   ·have:=(out_eq h).2;omega
   ·rename_i h2
    have hm:mayB r=true:=by simpa using h5
    obtain⟨h3,h4⟩:=Pg.slotAt_lt h2
    obtain⟨k,rfl⟩:=Int.eq_ofNat_of_zero_le h3
    rw[Pg.slotAt_rec]at h2
    exact⟨k,rfl,not_false_true h1,hm,h2,by omega,(full_made (Pg.putAt_mem (leaf_each p) (mayB_yes hm).2) h rfl).1⟩
theorem addO_ok {p q r:ByteArray}{i:Int}(h:addO p i r=(q,0)):∃ k:Nat,i=k∧isPg p=true∧mayB r=true∧k≤512∧Made p q (Pg.insAt (leafP p).recs k r):=by
 unfold addO at h
 split at h
 ·have:=(out_eq h).2;omega
 ·rename_i h1
  split at h
  ·have:=(out_eq h).2;omega
  ·rename_i h2
   obtain⟨k,rfl⟩:=Int.eq_ofNat_of_zero_le (show 0≤i by omega)
   split at h
   ·have:=(out_eq h).2;omega
   ·rename_i h5
    split at h
    ·have:=(out_eq h).2;omega
    ·have hm:mayB r=true:=by simpa using h5
     exact⟨k,rfl,not_false_true h1,hm,by omega,(full_made (Pg.insAt_mem (leaf_each p) (mayB_yes hm).2) h rfl).1⟩
theorem delO_ok {p q:ByteArray}{i:Int}(h:delO p i=(q,0)):∃ k:Nat,i=k∧isPg p=true∧(Pg.rec_ (leafP p).recs k).size≠0∧k<(leafP p).recs.length∧Made p q (Pg.delAt (leafP p).recs k):=by
 unfold delO at h
 split at h
 ·have:=(out_eq h).2;omega
 ·rename_i h1
  split at h
  ·have:=(out_eq h).2;omega
  ·rename_i h2
   obtain⟨h3,h4⟩:=Pg.slotAt_lt h2
   obtain⟨k,rfl⟩:=Int.eq_ofNat_of_zero_le h3
   rw[Pg.slotAt_rec]at h2
   exact⟨k,rfl,not_false_true h1,h2,by omega,(full_made (Pg.delAt_mem (leaf_each p)) h rfl).1⟩
theorem rec_lt {rs:List ByteArray}{k:Nat}(h:(Pg.rec_ rs k).size≠0):k<rs.length:=by
 rcases Nat.lt_or_ge k rs.length with h1|h1
 ·exact h1
 ·rw[Pg.rec_past h1]at h;exact absurd rfl h
theorem rec_may {p:ByteArray}{k:Nat}(h:(Pg.rec_ (leafP p).recs k).size≠0):mayB (Pg.rec_ (leafP p).recs k)=true:=by
 unfold mayB
 apply decide_eq_true
 have hl:=rec_lt h
 refine⟨by omega,?_⟩
 rw[Pg.rec_in hl]
 exact leaf_each p _ (List.getElem_mem hl)
theorem putO_do {p r:ByteArray}{k:Nat}(h1:isPg p=true)(h2:(Pg.rec_ (leafP p).recs k).size=0)(h3:mayB r=true)(h4:k≤512):putO p k r=Pg.fullO (withRecs p (Pg.putAt (leafP p).recs k r)):=by
 unfold putO
 rw[if_neg (by rw[h1];simp),if_neg (by omega),if_neg (by rw[Pg.slotAt_rec];omega),if_neg (by rw[h3];simp),if_neg (by omega)];rfl
theorem cutO_do {p:ByteArray}{k:Nat}(h1:isPg p=true)(h2:(Pg.rec_ (leafP p).recs k).size≠0):cutO p k=Pg.fullO (withRecs p (Pg.putAt (leafP p).recs k ⟨#[]⟩)):=by
 unfold cutO
 rw[if_neg (by rw[h1];simp),if_neg (by rw[Pg.slotAt_rec];exact h2)];rfl
theorem setO_do {p r:ByteArray}{k:Nat}(h1:isPg p=true)(h3:mayB r=true)(h2:(Pg.rec_ (leafP p).recs k).size≠0):setO p k r=Pg.fullO (withRecs p (Pg.putAt (leafP p).recs k r)):=by
 unfold setO
 rw[if_neg (by rw[h1];simp),if_neg (by rw[h3];simp),if_neg (by rw[Pg.slotAt_rec];exact h2)];rfl
theorem addO_do {p r:ByteArray}{k:Nat}(h1:isPg p=true)(h3:mayB r=true)(h4:k≤512):addO p k r=Pg.fullO (withRecs p (Pg.insAt (leafP p).recs k r)):=by
 unfold addO
 rw[if_neg (by rw[h1];simp),if_neg (by omega),if_neg (by rw[h3];simp),if_neg (by omega)];rfl
theorem delO_do {p:ByteArray}{k:Nat}(h1:isPg p=true)(h2:(Pg.rec_ (leafP p).recs k).size≠0):delO p k=Pg.fullO (withRecs p (Pg.delAt (leafP p).recs k)):=by
 unfold delO
 rw[if_neg (by rw[h1];simp),if_neg (by rw[Pg.slotAt_rec];exact h2)];rfl
def plB (p:ByteArray):ByteArray:=lsnB p ((leafP p).lsn:Nat)
theorem back1 {p q r:ByteArray}{i:Int}(h:putO p i r=(q,0)):(Pg.slotAt (leafP p).recs i).size=0∧q.size=512∧cutO q i=(plB p,0):=by
 obtain⟨k,rfl,hp,h0,hm,hk,M⟩:=putO_ok h
 have hr:=mayB_yes hm
 refine⟨by rw[Pg.slotAt_rec];exact h0,M.size,?_⟩
 rw[cutO_do M.isPg (by rw[M.rec_,Pg.putAt_rec,if_pos rfl];omega)]
 refine back_page hp M.lsn M.kind M.link fun j=>?_
 rw[Pg.putAt_rec,M.rec_,Pg.putAt_rec]
 by_cases hj:j=k
 ·rw[if_pos hj,hj,Pg.nil_of_size h0]
 ·rw[if_neg hj,if_neg hj]
theorem back2 {p q:ByteArray}{i:Int}(h:cutO p i=(q,0)):(Pg.slotAt (leafP p).recs i).size≠0∧q.size=512∧putO q i (Pg.slotAt (leafP p).recs i)=(plB p,0):=by
 obtain⟨k,rfl,hp,h0,hk,M⟩:=cutO_ok h
 have hl:=(leafP_good p).fine.len
 rw[Pg.slotAt_rec]
 refine⟨h0,M.size,?_⟩
 rw[putO_do M.isPg (by rw[M.rec_,Pg.putAt_rec,if_pos rfl];rfl) (rec_may h0) (by omega)]
 refine back_page hp M.lsn M.kind M.link fun j=>?_
 rw[Pg.putAt_rec,M.rec_,Pg.putAt_rec]
 by_cases hj:j=k
 ·rw[if_pos hj,hj]
 ·rw[if_neg hj,if_neg hj]
theorem back3 {p q r:ByteArray}{i:Int}(h:setO p i r=(q,0)):(Pg.slotAt (leafP p).recs i).size≠0∧q.size=512∧setO q i (Pg.slotAt (leafP p).recs i)=(plB p,0)∧(leafP q).lsn=(leafP p).lsn∧(leafP q).kind=(leafP p).kind∧(leafP q).link=(leafP p).link:=by
 obtain⟨k,rfl,hp,hm,h0,hk,M⟩:=setO_ok h
 have hr:=mayB_yes hm
 rw[Pg.slotAt_rec]
 refine⟨h0,M.size,?_,M.lsn,M.kind,M.link⟩
 rw[setO_do M.isPg (rec_may h0) (by rw[M.rec_,Pg.putAt_rec,if_pos rfl];omega)]
 refine back_page hp M.lsn M.kind M.link fun j=>?_
 rw[Pg.putAt_rec,M.rec_,Pg.putAt_rec]
 by_cases hj:j=k
 ·rw[if_pos hj,hj]
 ·rw[if_neg hj,if_neg hj]
theorem back4 {p q r:ByteArray}{i:Int}(h:addO p i r=(q,0)):q.size=512∧delO q i=(plB p,0):=by
 obtain⟨k,rfl,hp,hm,hk,M⟩:=addO_ok h
 have hr:=mayB_yes hm
 refine⟨M.size,?_⟩
 have h1:(Pg.rec_ (leafP q).recs k).size≠0:=by rw[M.rec_,Pg.insAt_rec,if_neg (by omega),if_pos rfl];omega
 rw[delO_do M.isPg h1]
 refine back_page hp M.lsn M.kind M.link fun j=>?_
 rw[Pg.delAt_rec _ _ (rec_lt h1)]
 by_cases hj:j<k
 ·rw[if_pos hj,M.rec_,Pg.insAt_rec,if_pos hj]
 ·rw[if_neg hj,M.rec_,Pg.insAt_rec,if_neg (by omega),if_neg (by omega),Nat.add_sub_cancel]
theorem back5 {p q:ByteArray}{i:Int}(h:delO p i=(q,0)):q.size=512∧addO q i (Pg.slotAt (leafP p).recs i)=(plB p,0):=by
 obtain⟨k,rfl,hp,h0,hk,M⟩:=delO_ok h
 have hl:=(leafP_good p).fine.len
 rw[Pg.slotAt_rec]
 refine⟨M.size,?_⟩
 rw[addO_do M.isPg (rec_may h0) (by omega)]
 refine back_page hp M.lsn M.kind M.link fun j=>?_
 rw[Pg.insAt_rec,M.rec_,M.rec_,Pg.delAt_rec _ _ hk,Pg.delAt_rec _ _ hk]
 by_cases hj:j<k
 ·rw[if_pos hj,if_pos hj]
 ·rw[if_neg hj]
  by_cases hj2:j=k
  ·rw[if_pos hj2,hj2]
  ·rw[if_neg hj2,if_neg (by omega),show j-1+1=j by omega]
end Go.Proofs.YtmfkhdhnbkambaaGreatDoor
namespace NumPlain
def inN (n:Int):Bool:=decide (-1000000000000000≤n)&&decide (n≤1000000000000000)
theorem inN_true {n:Int}(h:inN n=true): -1000000000000000≤n∧n≤1000000000000000:=by
 simpa[inN]using h
theorem inN_of {n:Int}(h1: -1000000000000000≤n)(h2:n≤1000000000000000):inN n=true:=by
 simp[inN,h1,h2]
def sizeN (a:Int):Int:=if a<0 then -a else a
open Go.Lib
theorem digit_toNat {d:Nat}(h:d<10):(UInt8.ofNat (48+d)).toNat=48+d:=by
 rw[UInt8.toNat_ofNat'];omega
theorem parse_digits:∀ (u:Nat),u≤1000000000000000→parseUint10 0 (decDigits u)= .ok u:=by
 have key:∀ (u:Nat),u≤1000000000000000→∀ r,parseUint10 0 (decDigits u++r)=parseUint10 u r:=by
  intro u
  induction u using Nat.strongRecOn with
  |_ u ih=>
   intro hu r
   rw[decDigits]
   by_cases h:u<10
   ·rw[dif_pos h]
    simp only[List.cons_append,List.nil_append,parseUint10,digit_toNat h]
    rw[if_pos (by omega),if_neg (by omega),if_neg (by omega)]
    congr 1;omega
   ·rw[dif_neg h,List.append_assoc,ih (u/10) (by omega) (by omega)]
    simp only[List.cons_append,List.nil_append,parseUint10,digit_toNat (show u%10<10 by omega)]
    rw[if_pos (by omega),if_neg (by omega),if_neg (by omega)]
    congr 1;omega
 intro u hu
 have:=key u hu []
 simpa[parseUint10]using this
theorem decDigits_ne (u:Nat):decDigits u≠[]:=by
 rw[decDigits];split<;>simp
theorem decDigits_head (u:Nat):∃ c r,decDigits u=c::r∧48≤c.toNat∧c.toNat≤57:=by
 induction u using Nat.strongRecOn with
 |_ u ih=>
  rw[decDigits]
  by_cases h:u<10
  ·rw[dif_pos h]
   exact⟨_,_,rfl,by rw[digit_toNat h];omega,by rw[digit_toNat h];omega⟩
  ·rw[dif_neg h]
   obtain⟨c,r,e,h1,h2⟩:=ih (u/10) (by omega)
   exact⟨c,r++[UInt8.ofNat (48+u%10)],by rw[e];rfl,h1,h2⟩
theorem atoiAll_itoa {v:Int}(hv:inN v=true):atoiAll (itoa v)= .ok v:=by
 obtain⟨h1,h2⟩:=inN_true hv
 by_cases hn:v<0
 ·obtain⟨u,rfl⟩:∃ u:Nat,v= -(u:Int):=⟨v.natAbs,by omega⟩
  rw[itoa_neg u (by omega)]
  have hp:parseMag (decDigits u)= .ok u:=by rw[parseMag,if_neg (decDigits_ne u),parse_digits u (by omega)]
  simp only[atoiAll]
  rw[if_pos (by decide),hp]
  simp only[]
  rw[if_neg (by simp),if_neg (by omega),if_pos (by decide)]
 ·obtain⟨u,rfl⟩:∃ u:Nat,v=(u:Int):=⟨v.natAbs,by omega⟩
  rw[itoa_nonneg u]
  obtain⟨c,r,e,hc1,hc2⟩:=decDigits_head u
  have hp:=parse_digits u (by omega)
  rw[e]at hp
  simp only[e,atoiAll]
  rw[if_neg (by omega)]
  simp only[parseMag,if_neg (List.cons_ne_nil c r),hp]
  rw[if_neg (by omega),if_neg (by omega),if_neg (by omega)]
def parseN (l:List UInt8):Int×Bool:=
 match atoiAll l with
 | .ok v=>if inN v&&decide (itoa v=l)then(v,true)else(0,false)
 |_=>(0,false)
theorem parseN_itoa {v:Int}(hv:inN v=true):parseN (itoa v)=(v,true):=by
 simp[parseN,atoiAll_itoa hv,hv]
theorem parseN_none {l:List UInt8}(h:∀ v,inN v=true→itoa v≠l):parseN l=(0,false):=by
 unfold parseN
 split
 ·rename_i v hv
  rw[if_neg]
  intro hc
  simp only[Bool.and_eq_true,decide_eq_true_eq]at hc
  exact h v hc.1 hc.2
 ·rfl
def gather (n:Int):List UInt8→Int
 |[]=>n
 |c::r=>gather (if 48≤c.toNat∧c.toNat≤57 then 10*n+c.toNat-48 else n) r
theorem gather_append (n:Int):∀ (l r:List UInt8),gather n (l++r)=gather (gather n l) r:=by
 intro l
 induction l generalizing n with
 |nil=>intro r;rfl
 |cons c l ih=>intro r;simp only[List.cons_append,gather];exact ih _ r
theorem gather_bound:∀ (l:List UInt8) (n:Int),0≤n→0≤gather n l∧gather n l<(n+1)*10^l.length:=by
 intro l
 induction l with
 |nil=>intro n h;simp[gather];omega
 |cons c l ih=>
  intro n h
  simp only[gather]
  have hp:(0:Int)<10^l.length:=Int.pow_pos (by omega)
  split
  ·rename_i hc
   obtain⟨h1,h2⟩:=ih (10*n+c.toNat-48) (by omega)
   refine⟨h1,Int.lt_of_lt_of_le h2 ?_⟩
   rw[List.length_cons,Int.pow_succ,Int.mul_comm (10^l.length) 10,← Int.mul_assoc]
   exact Int.mul_le_mul_of_nonneg_right (by omega) (Int.le_of_lt hp)
  ·obtain⟨h1,h2⟩:=ih n h
   refine⟨h1,Int.lt_of_lt_of_le h2 ?_⟩
   rw[List.length_cons,Int.pow_succ,Int.mul_comm (10^l.length) 10,← Int.mul_assoc]
   exact Int.mul_le_mul_of_nonneg_right (by omega) (Int.le_of_lt hp)
theorem gather_digits (u:Nat):gather 0 (decDigits u)=u:=by
 induction u using Nat.strongRecOn with
 |_ u ih=>
  rw[decDigits]
  by_cases h:u<10
  ·rw[dif_pos h]
   simp only[gather,digit_toNat h]
   rw[if_pos (by omega)];omega
  ·rw[dif_neg h,gather_append,ih (u/10) (by omega)]
   simp only[gather,digit_toNat (show u%10<10 by omega)]
   rw[if_pos (by omega)];omega
def signed (l:List UInt8):Int:=if l.head? =some 45 then - gather 0 l else gather 0 l
def parseR (l:List UInt8):Int×Bool:=
 if 17<l.length then(0,false)else if inN (signed l)&&decide (itoa (signed l)=l)then(signed l,true)else(0,false)
theorem signed_itoa (v:Int):signed (itoa v)=v:=by
 by_cases hn:v<0
 ·obtain⟨u,rfl⟩:∃ u:Nat,v= -(u:Int):=⟨v.natAbs,by omega⟩
  rw[itoa_neg u (by omega)]
  simp only[signed,List.head?_cons,if_true]
  rw[show gather 0 (45::decDigits u)=gather 0 (decDigits u)from rfl,gather_digits]
 ·obtain⟨u,rfl⟩:∃ u:Nat,v=(u:Int):=⟨v.natAbs,by omega⟩
  rw[itoa_nonneg u]
  obtain⟨c,r,e,hc1,hc2⟩:=decDigits_head u
  rw[signed,if_neg,gather_digits]
  rw[e]
  simp only[List.head?_cons,Option.some.injEq]
  rintro rfl
  simp at hc1
theorem nDigits_le (u:Nat)(h:u≤1000000000000000):nDigits u≤16:=by
 have key:∀ (k u:Nat),u<10^(k+1)→nDigits u≤k+1:=by
  intro k
  induction k with
  |zero=>intro u hu;rw[nDigits_small (by simpa using hu)];exact Nat.le_refl _
  |succ k ih=>
   intro u hu
   by_cases h:u<10
   ·rw[nDigits_small h];omega
   ·rw[nDigits_big h]
    have:=ih (u/10) (by rw[Nat.div_lt_iff_lt_mul (by omega)];rw[Nat.pow_succ]at hu;exact hu)
    omega
 exact key 15 u (by omega)
theorem itoa_short {v:Int}(hv:inN v=true):(itoa v).length≤17:=by
 obtain⟨h1,h2⟩:=inN_true hv
 by_cases hn:v<0
 ·obtain⟨u,rfl⟩:∃ u:Nat,v= -(u:Int):=⟨v.natAbs,by omega⟩
  rw[itoa_neg u (by omega),List.length_cons,decDigits_length]
  have:=nDigits_le u (by omega);omega
 ·obtain⟨u,rfl⟩:∃ u:Nat,v=(u:Int):=⟨v.natAbs,by omega⟩
  rw[itoa_nonneg u,decDigits_length]
  have:=nDigits_le u (by omega);omega
theorem parseR_eq (l:List UInt8):parseR l=parseN l:=by
 by_cases h:∃ v,inN v=true∧itoa v=l
 ·obtain⟨v,hv,rfl⟩:=h
  rw[parseN_itoa hv,parseR,if_neg (by have:=itoa_short hv;omega)]
  simp only[signed_itoa,hv]
  simp
 ·have h':∀ v,inN v=true→itoa v≠l:=fun v hv e=>h ⟨v,hv,e⟩
  rw[parseN_none h',parseR]
  split
  ·rfl
  ·rw[if_neg]
   intro hc
   simp only[Bool.and_eq_true,decide_eq_true_eq]at hc
   exact h' _ hc.1 hc.2
theorem parseN_ok {l:List UInt8}{v:Int}(h:parseN l=(v,true)):inN v=true∧itoa v=l:=by
 unfold parseN at h
 split at h
 ·split at h
  ·rename_i hc
   simp only[Bool.and_eq_true,decide_eq_true_eq]at hc
   simp only[Prod.mk.injEq,and_true]at h
   subst h;exact hc
  ·simp at h
 ·simp at h
theorem parseN_snd {l:List UInt8}(h:(parseN l).2=true):inN (parseN l).1=true∧itoa (parseN l).1=l:=
 parseN_ok (v:=(parseN l).1) (by rw[← h])
theorem itoa_step {n:Int}(h:10≤n.natAbs):itoa n=itoa (n.tdiv 10)++[UInt8.ofNat (48+n.natAbs%10)]:=by
 by_cases hn:n<0
 ·obtain⟨u,rfl⟩:∃ u:Nat,n= -(u:Int):=⟨n.natAbs,by omega⟩
  have e:(-(u:Int)).tdiv 10= -((u/10:Nat):Int):=by
   rw[Int.neg_tdiv];congr 1
  rw[e,itoa_neg u (by omega),itoa_neg (u/10) (by omega),decDigits,dif_neg (by omega)]
  simp
 ·obtain⟨u,rfl⟩:∃ u:Nat,n=(u:Int):=⟨n.natAbs,by omega⟩
  have e:(u:Int).tdiv 10=((u/10:Nat):Int):=by
   rw[Int.tdiv_eq_ediv_of_nonneg (by omega)];rfl
  rw[e,itoa_nonneg,itoa_nonneg,decDigits,dif_neg (by omega)]
  simp
theorem itoa_one {d:Nat}(h:d<10):itoa (d:Int)=[UInt8.ofNat (48+d)]:=by
 rw[itoa_nonneg,decDigits,dif_pos h]
theorem itoa_minus {d:Nat}(h1:1≤d)(h:d<10):itoa (-(d:Int))=[45,UInt8.ofNat (48+d)]:=by
 rw[itoa_neg d h1,decDigits,dif_pos h]
def digits:ByteArray:=⟨#[48,49,50,51,52,53,54,55,56,57]⟩
theorem digits_piece (d:Nat)(h:d<10):digits.extract d (d+1)=⟨#[UInt8.ofNat (48+d)]⟩:=by
 have:∀ d:Fin 10,(digits.extract d.val (d.val+1)).data=#[UInt8.ofNat (48+d.val)]:=by decide+kernel
 exact congrArg ByteArray.mk (this ⟨d,h⟩)
theorem tdiv10_neg {n:Int}(h:n<0):n.tdiv 10= -((n.natAbs/10:Nat):Int)∧n.tmod 10= -((n.natAbs%10:Nat):Int):=by
 obtain⟨u,rfl⟩:∃ u:Nat,n= -(u:Int):=⟨n.natAbs,by omega⟩
 rw[Int.neg_tdiv,Int.neg_tmod]
 constructor
 ·rw[Int.tdiv_eq_ediv_of_nonneg (by omega)];omega
 ·rw[Int.tmod_eq_emod_of_nonneg (by omega)];omega
end NumPlain
namespace Go.Proofs.YtmfkhdhnbkambaaGreatDoor
open Go.RowKit
structure Cop where
 kind:Int
 slot:Int
 old:ByteArray
 new:ByteArray
def itoaB (n:Int):ByteArray:=⟨(Lib.itoa n).toArray⟩
def noPage:ByteArray×Bool:=(⟨#[]⟩,false)
def okB (x:ByteArray×Int):ByteArray×Bool:=(x.1,decide (x.2=0))
def oldIs (p:ByteArray)(o:Cop):Bool:= !decide ((Pg.slotAt (leafP p).recs o.slot).size=0)&&decide (o.old=Pg.slotAt (leafP p).recs o.slot)
def linkedO (p:ByteArray)(o:Cop):ByteArray×Bool:=
 match Lib.atoiAll o.new.data.toList with
 | .ok n=>if itoaB n=o.new∧o.old=itoaB ((leafP p).link:Nat)∧o.slot=0 then(linkB p n,!decide ((linkB p n).size=0))else noPage
 |_=>noPage
def wholeO (p:ByteArray)(o:Cop):ByteArray×Bool:=
 if o.slot=0∧o.old=lsnB p 0∧¬ o.new.size=0∧lsnB o.new 0=o.new then(lsnB o.new ((leafP p).lsn:Nat),!decide ((lsnB o.new ((leafP p).lsn:Nat)).size=0))else noPage
def madeO (p:ByteArray)(o:Cop):ByteArray×Bool:=
 if o.kind=1 then(if o.old.size=0 then okB (putO p o.slot o.new)else noPage)
 else if o.kind=2 then(if oldIs p o&&decide (o.new.size=0)then okB (cutO p o.slot)else noPage)
 else if o.kind=3 then(if oldIs p o then okB (setO p o.slot o.new)else noPage)
 else if o.kind=4 then(if o.old.size=0 then okB (addO p o.slot o.new)else noPage)
 else if o.kind=5 then(if oldIs p o&&decide (o.new.size=0)then okB (delO p o.slot)else noPage)
 else if o.kind=6 then linkedO p o
 else if o.kind=7 then wholeO p o
 else noPage
def rightO (p:ByteArray)(o:Cop):Bool:=isPg p&&(madeO p o).2
def doO (p:ByteArray)(o:Cop):ByteArray×Int:=if rightO p o then((madeO p o).1,0)else(⟨#[]⟩,1)
def backK (k:Int):Int:=if k=1 then 2 else if k=2 then 1 else if k=4 then 5 else if k=5 then 4 else k
def backO (o:Cop):Cop:=⟨backK o.kind,o.slot,o.new,o.old⟩
theorem okB_yes {x:ByteArray×Int}(h:(okB x).2=true):x=(x.1,0):=by
 obtain⟨a,e⟩:=x
 have:e=0:=of_decide_eq_true h
 rw[this]
theorem size_ne {p:ByteArray}{n:Int}(h:¬ (lsnB p n).size=0):isPg p=true∧0≤n∧n<281474976710656:=by
 unfold lsnB at h
 split at h
 ·exact absurd rfl h
 ·rename_i h1
  cases hp:isPg p with
  |false=>exact absurd (.inl hp) h1
  |true=>exact⟨rfl,by omega,by omega⟩
theorem size_ne_link {p:ByteArray}{n:Int}(h:¬ (linkB p n).size=0):isPg p=true∧0≤n∧n<16777216:=by
 unfold linkB at h
 split at h
 ·exact absurd rfl h
 ·rename_i h1
  cases hp:isPg p with
  |false=>exact absurd (.inl hp) h1
  |true=>exact⟨rfl,by omega,by omega⟩
theorem head_is (p:ByteArray){l k:Nat}(hl:l<281474976710656)(hk:k<16777216):isPg (pageB ⟨l,(leafP p).kind,k,(leafP p).recs⟩)=true∧leafP (pageB ⟨l,(leafP p).kind,k,(leafP p).recs⟩)=⟨l,(leafP p).kind,k,(leafP p).recs⟩∧(pageB ⟨l,(leafP p).kind,k,(leafP p).recs⟩).size=512:=by
 have hg:=leafP_good p
 have ht:=Pg.trim_of_tight hg.tight
 have hs:Pg.sizeN (Pg.trim (leafP p).recs)≤512:=by rw[ht];exact hg.fits
 obtain⟨h1,h2⟩:=pageB_is (x:=⟨l,(leafP p).kind,k,(leafP p).recs⟩) ⟨hl,hg.fine.small.2.1,hk⟩ hs hg.fine.each
 refine⟨h1,?_,pageB_size hs⟩
 rw[h2]
 simp only[ht]
theorem lsn_head {p:ByteArray}(h:isPg p=true){l:Nat}(hl:l<281474976710656):lsnB p (l:Int)=pageB ⟨l,(leafP p).kind,(leafP p).link,(leafP p).recs⟩:=by
 unfold lsnB
 rw[if_neg (by rw[h];simp;omega)]
 rfl
theorem link_head {p:ByteArray}(h:isPg p=true){k:Nat}(hk:k<16777216):linkB p (k:Int)=pageB ⟨(leafP p).lsn,(leafP p).kind,k,(leafP p).recs⟩:=by
 unfold linkB
 rw[if_neg (by rw[h];simp;omega)]
 rfl
theorem lsn_small (p:ByteArray):(leafP p).lsn<281474976710656:=(leafP_good p).fine.small.1
theorem link_small (p:ByteArray):(leafP p).link<16777216:=(leafP_good p).fine.small.2.2
theorem lsn_page {p:ByteArray}(h:isPg p=true){l:Nat}(hl:l<281474976710656):isPg (lsnB p (l:Int))=true∧leafP (lsnB p (l:Int))=⟨l,(leafP p).kind,(leafP p).link,(leafP p).recs⟩∧(lsnB p (l:Int)).size=512:=by
 rw[lsn_head h hl];exact head_is p hl (link_small p)
theorem link_page {p:ByteArray}(h:isPg p=true){k:Nat}(hk:k<16777216):isPg (linkB p (k:Int))=true∧leafP (linkB p (k:Int))=⟨(leafP p).lsn,(leafP p).kind,k,(leafP p).recs⟩∧(linkB p (k:Int)).size=512:=by
 rw[link_head h hk];exact head_is p (lsn_small p) hk
theorem lsn_lsn {p:ByteArray}(h:isPg p=true){l m:Nat}(hl:l<281474976710656)(hm:m<281474976710656):lsnB (lsnB p (l:Int)) (m:Int)=lsnB p (m:Int):=by
 obtain⟨h1,h2,_⟩:=lsn_page h hl
 rw[lsn_head h1 hm,lsn_head h hm,h2]
theorem plB_eq {p:ByteArray}(h:isPg p=true):plB p=pageB (leafP p):=plain_page h
theorem plB_page {p:ByteArray}(h:isPg p=true):isPg (plB p)=true∧leafP (plB p)=leafP p∧(plB p).size=512:=lsn_page h (lsn_small p)
theorem itoa_read (n:Nat)(h:n<16777216):Lib.atoiAll (itoaB (n:Int)).data.toList= .ok (n:Int):=by
 show Lib.atoiAll (Lib.itoa (n:Int))=_
 exact NumPlain.atoiAll_itoa (NumPlain.inN_of (by omega) (by omega))
structure Undone (p q:ByteArray) (o:Cop):Prop where
 page:isPg q=true
 size:q.size=512
 lsn:(leafP q).lsn=(leafP p).lsn
 norm:plB q=q
 back:madeO q (backO o)=(plB p,true)
theorem made_norm {p q:ByteArray}{rs:List ByteArray}(he:∀ r∈rs,r.size≤400)(h:Pg.fullO (withRecs p rs)=(q,0)):plB q=q:=by
 obtain⟨M,hq⟩:=full_made he h rfl
 rw[plB_eq M.isPg]
 have hs:Pg.sizeN (Pg.trim rs)≤512:=by
  rcases fullO_cases (withRecs p rs)with⟨hs,_⟩|⟨_,h2⟩
  ·exact hs
  ·rw[h2]at h;injection h with _ h;omega
 obtain⟨_,h3⟩:=pageB_is (withRecs_small p rs) hs he
 rw[← hq]at h3
 rw[h3]
 have ht:Pg.trim (Pg.trim rs)=Pg.trim rs:=Pg.trim_ext fun j=>Pg.trim_rec rs j
 have e:Pg.layL {withRecs p rs with recs:=Pg.trim (withRecs p rs).recs}=Pg.layL (withRecs p rs):=by
  unfold Pg.layL
  show Pg.layR _ (Pg.trim (Pg.trim rs))=Pg.layR _ (Pg.trim rs)
  rw[ht]
  rfl
 rw[hq]
 unfold pageB
 rw[e]
theorem putO_norm {p q r:ByteArray}{i:Int}(h:putO p i r=(q,0)):plB q=q:=by
 obtain⟨k,rfl,hp,h0,hm,hk,_⟩:=putO_ok h
 rw[putO_do hp h0 hm hk]at h
 exact made_norm (Pg.putAt_mem (leaf_each p) (mayB_yes hm).2) h
theorem cutO_norm {p q:ByteArray}{i:Int}(h:cutO p i=(q,0)):plB q=q:=by
 obtain⟨k,rfl,hp,h0,hk,_⟩:=cutO_ok h
 rw[cutO_do hp h0]at h
 exact made_norm (Pg.putAt_mem (leaf_each p) (by show 0≤400;omega)) h
theorem setO_norm {p q r:ByteArray}{i:Int}(h:setO p i r=(q,0)):plB q=q:=by
 obtain⟨k,rfl,hp,hm,h0,hk,_⟩:=setO_ok h
 rw[setO_do hp hm h0]at h
 exact made_norm (Pg.putAt_mem (leaf_each p) (mayB_yes hm).2) h
theorem addO_norm {p q r:ByteArray}{i:Int}(h:addO p i r=(q,0)):plB q=q:=by
 obtain⟨k,rfl,hp,hm,hk,_⟩:=addO_ok h
 rw[addO_do hp hm hk]at h
 exact made_norm (Pg.insAt_mem (leaf_each p) (mayB_yes hm).2) h
theorem delO_norm {p q:ByteArray}{i:Int}(h:delO p i=(q,0)):plB q=q:=by
 obtain⟨k,rfl,hp,h0,hk,_⟩:=delO_ok h
 rw[delO_do hp h0]at h
 exact made_norm (Pg.delAt_mem (leaf_each p)) h
theorem oldIs_yes {p:ByteArray}{o:Cop}(h:oldIs p o=true):(Pg.slotAt (leafP p).recs o.slot).size≠0∧o.old=Pg.slotAt (leafP p).recs o.slot:=by
 unfold oldIs at h
 rw[Bool.and_eq_true]at h
 exact⟨by simpa using h.1,of_decide_eq_true h.2⟩
theorem oldIs_of {p:ByteArray}{o:Cop}(h:o.old.size≠0)(h2:Pg.slotAt (leafP p).recs o.slot=o.old):oldIs p o=true:=by
 unfold oldIs
 rw[h2]
 simp[h]
theorem undone {p:ByteArray}{o:Cop}(h:rightO p o=true):Undone p (madeO p o).1 o:=by
 unfold rightO at h
 rw[Bool.and_eq_true]at h
 obtain⟨hp,hm⟩:=h
 obtain⟨kind,slot,old,new⟩:=o
 by_cases h1:kind=1
 ·subst h1
  have e:madeO p ⟨1,slot,old,new⟩=if old.size=0 then okB (putO p slot new)else noPage:=if_pos rfl
  rw[e]at hm ⊢
  split at hm
  ·rename_i h0
   rw[if_pos h0]
   have hq:=okB_yes hm
   obtain⟨k,hk,_,hz,hmay,_,M⟩:=putO_ok hq
   obtain⟨_,hsz,hc⟩:=back1 hq
   have hr:=mayB_yes hmay
   have hold:Pg.slotAt (leafP (putO p slot new).1).recs slot=new:=by subst hk;rw[Pg.slotAt_rec,M.rec_,Pg.putAt_rec,if_pos rfl]
   refine⟨M.isPg,hsz,M.lsn,putO_norm hq,?_⟩
   show(if oldIs (putO p slot new).1 ⟨2,slot,new,old⟩&&decide (old.size=0)then okB (cutO (putO p slot new).1 slot)else noPage)=_
   rw[oldIs_of (by show new.size≠0;omega) hold,decide_eq_true h0,hc]
   rfl
  ·cases hm
 by_cases h2:kind=2
 ·subst h2
  have e:madeO p ⟨2,slot,old,new⟩=if oldIs p ⟨2,slot,old,new⟩&&decide (new.size=0)then okB (cutO p slot)else noPage:=rfl
  rw[e]at hm ⊢
  split at hm
  ·rename_i h0
   rw[if_pos h0]
   rw[Bool.and_eq_true]at h0
   obtain⟨ho1,ho2⟩:=oldIs_yes h0.1
   have hn:=of_decide_eq_true h0.2
   have hq:=okB_yes hm
   obtain⟨k,hk,_,hz,_,M⟩:=cutO_ok hq
   obtain⟨_,hsz,hc⟩:=back2 hq
   refine⟨M.isPg,hsz,M.lsn,cutO_norm hq,?_⟩
   show(if new.size=0 then okB (putO (cutO p slot).1 slot old)else noPage)=_
   rw[if_pos hn,show old=Pg.slotAt (leafP p).recs slot from ho2,hc]
   rfl
  ·cases hm
 by_cases h3:kind=3
 ·subst h3
  have e:madeO p ⟨3,slot,old,new⟩=if oldIs p ⟨3,slot,old,new⟩then okB (setO p slot new)else noPage:=rfl
  rw[e]at hm ⊢
  split at hm
  ·rename_i h0
   rw[if_pos h0]
   obtain⟨ho1,ho2⟩:=oldIs_yes h0
   have hq:=okB_yes hm
   obtain⟨k,hk,_,hmay,hz,_,M⟩:=setO_ok hq
   obtain⟨_,hsz,hc,hl,_⟩:=back3 hq
   have hr:=mayB_yes hmay
   have hold:Pg.slotAt (leafP (setO p slot new).1).recs slot=new:=by subst hk;rw[Pg.slotAt_rec,M.rec_,Pg.putAt_rec,if_pos rfl]
   refine⟨M.isPg,hsz,M.lsn,setO_norm hq,?_⟩
   show(if oldIs (setO p slot new).1 ⟨3,slot,new,old⟩then okB (setO (setO p slot new).1 slot old)else noPage)=_
   rw[if_pos (oldIs_of (by show new.size≠0;omega) hold),show old=Pg.slotAt (leafP p).recs slot from ho2,hc]
   rfl
  ·cases hm
 by_cases h4:kind=4
 ·subst h4
  have e:madeO p ⟨4,slot,old,new⟩=if old.size=0 then okB (addO p slot new)else noPage:=rfl
  rw[e]at hm ⊢
  split at hm
  ·rename_i h0
   rw[if_pos h0]
   have hq:=okB_yes hm
   obtain⟨k,hk,_,hmay,_,M⟩:=addO_ok hq
   obtain⟨hsz,hc⟩:=back4 hq
   have hr:=mayB_yes hmay
   have hold:Pg.slotAt (leafP (addO p slot new).1).recs slot=new:=by subst hk;rw[Pg.slotAt_rec,M.rec_,Pg.insAt_rec,if_neg (by omega),if_pos rfl]
   refine⟨M.isPg,hsz,M.lsn,addO_norm hq,?_⟩
   show(if oldIs (addO p slot new).1 ⟨5,slot,new,old⟩&&decide (old.size=0)then okB (delO (addO p slot new).1 slot)else noPage)=_
   rw[oldIs_of (by show new.size≠0;omega) hold,decide_eq_true h0,hc]
   rfl
  ·cases hm
 by_cases h5:kind=5
 ·subst h5
  have e:madeO p ⟨5,slot,old,new⟩=if oldIs p ⟨5,slot,old,new⟩&&decide (new.size=0)then okB (delO p slot)else noPage:=rfl
  rw[e]at hm ⊢
  split at hm
  ·rename_i h0
   rw[if_pos h0]
   rw[Bool.and_eq_true]at h0
   obtain⟨ho1,ho2⟩:=oldIs_yes h0.1
   have hn:=of_decide_eq_true h0.2
   have hq:=okB_yes hm
   obtain⟨k,hk,_,hz,_,M⟩:=delO_ok hq
   obtain⟨hsz,hc⟩:=back5 hq
   refine⟨M.isPg,hsz,M.lsn,delO_norm hq,?_⟩
   show(if new.size=0 then okB (addO (delO p slot).1 slot old)else noPage)=_
   rw[if_pos hn,show old=Pg.slotAt (leafP p).recs slot from ho2,hc]
   rfl
  ·cases hm
 by_cases h6:kind=6
 ·subst h6
  have e:madeO p ⟨6,slot,old,new⟩=linkedO p ⟨6,slot,old,new⟩:=rfl
  rw[e]at hm ⊢
  unfold linkedO at hm ⊢
  simp only at hm ⊢
  obtain⟨n,hn⟩:∃ n,Lib.atoiAll new.data.toList= .ok n:=by
   cases hn:Lib.atoiAll new.data.toList with
   |ok n=>exact⟨n,rfl⟩
   |_=>rw[hn]at hm;cases hm
  rw[hn]at hm ⊢
  simp only at hm ⊢
  ·split at hm
   ·rename_i hc
    rw[if_pos hc]
    obtain⟨c1,c2,c3⟩:=hc
    have hz:¬ (linkB p n).size=0:=by simpa using hm
    obtain⟨_,n0,n1⟩:=size_ne_link hz
    obtain⟨m,rfl⟩:=Int.eq_ofNat_of_zero_le n0
    have hm1:m<16777216:=by omega
    obtain⟨g1,g2,g3⟩:=link_page hp hm1
    have hb:linkB (linkB p (m:Int)) ((leafP p).link:Nat)=plB p:=by
     rw[link_head g1 (link_small p),g2,plB_eq hp]
    refine⟨g1,g3,by rw[g2],?_,?_⟩
    ·rw[plB_eq g1,g2,link_head hp hm1]
    ·show linkedO (linkB p (m:Int)) ⟨6,slot,new,old⟩=_
     unfold linkedO
     simp only
     rw[c2,itoa_read _ (link_small p)]
     simp only
     rw[g2]
     simp only
     simp only[true_and]at*
     rw[if_pos (by first|exact⟨rfl,c1.symm,c3⟩|exact⟨trivial,c1.symm,c3⟩|exact⟨c1.symm,c3⟩),hb]
     have:=(plB_page hp).2.2
     rw[this]
     rfl
   ·cases hm
 by_cases h7:kind=7
 ·subst h7
  have e:madeO p ⟨7,slot,old,new⟩=wholeO p ⟨7,slot,old,new⟩:=rfl
  rw[e]at hm ⊢
  unfold wholeO at hm ⊢
  simp only at hm ⊢
  split at hm
  ·rename_i hc
   rw[if_pos hc]
   obtain⟨c1,c2,c3,c4⟩:=hc
   have hz:¬ (lsnB new ((leafP p).lsn:Nat)).size=0:=by simpa using hm
   obtain⟨hn,_,_⟩:=size_ne hz
   obtain⟨g1,g2,g3⟩:=lsn_page hn (lsn_small p)
   obtain⟨i1,i2,i3⟩:=lsn_page hp (l:=0) (by omega)
   refine⟨g1,g3,by rw[g2],?_,?_⟩
   ·rw[plB_eq g1,g2,lsn_head hn (lsn_small p)]
   ·show wholeO (lsnB new ((leafP p).lsn:Nat)) ⟨7,slot,new,old⟩=_
    unfold wholeO
    simp only
    have j1:lsnB (lsnB new ((leafP p).lsn:Nat)) 0=new:=by
     have:=lsn_lsn hn (lsn_small p) (m:=0) (by omega)
     exact this.trans c4
    have j2:lsnB (lsnB p 0) 0=lsnB p 0:=lsn_lsn hp (l:=0) (m:=0) (by omega) (by omega)
    have j3:lsnB (lsnB p 0) ((leafP p).lsn:Nat)=plB p:=lsn_lsn hp (l:=0) (by omega) (lsn_small p)
    have i3':(lsnB p 0).size=512:=i3
    rw[c2,g2]
    simp only
    rw[if_pos ⟨c1,j1.symm,by rw[i3'];omega,j2⟩,j3]
    have:=(plB_page hp).2.2
    rw[this]
    rfl
  ·cases hm
 ·have e:madeO p ⟨kind,slot,old,new⟩=noPage:=by
   unfold madeO
   simp only
   rw[if_neg h1,if_neg h2,if_neg h3,if_neg h4,if_neg h5,if_neg h6,if_neg h7]
  rw[e]at hm
  cases hm
theorem do_back {p:ByteArray}{o:Cop}(h:rightO p o=true):doO p o=((madeO p o).1,0)∧rightO (madeO p o).1 (backO o)=true∧doO (madeO p o).1 (backO o)=(plB p,0):=by
 have U:=undone h
 have hr:rightO (madeO p o).1 (backO o)=true:=by unfold rightO;rw[U.page,U.back];rfl
 refine⟨by unfold doO;rw[if_pos h],hr,?_⟩
 unfold doO
 rw[if_pos hr,U.back]
end Go.Proofs.YtmfkhdhnbkambaaGreatDoor
namespace Lg
open Rc
def logS (F N:Nat)(d:Dk):List UInt8:=flat ((d.sectors.drop F).take N)
theorem logS_len {F N:Nat}{d:Dk}(hw:Whole d.sectors)(hr:F+N≤d.sectors.length):(logS F N d).length=N*128:=by
 unfold logS
 rw[flat_len ((hw.drop F).take N),List.length_take,List.length_drop]
 congr 1;omega
theorem set_part {L:List ByteArray}{F N j:Nat}{b:ByteArray}(hj:j<N):((L.set (F+j) b).drop F).take N=((L.drop F).take N).set j b:=by
 refine List.ext_getElem? fun i=>?_
 simp only[List.getElem?_take,List.getElem?_drop,List.getElem?_set,List.length_take,List.length_drop]
 by_cases h1:i<N
 ·by_cases h2:i=j
  ·subst h2
   simp only[if_pos h1,if_pos]
   by_cases h3:F+i<L.length
   ·rw[if_pos h3,if_pos (by omega)]
   ·rw[if_neg h3,if_neg (by omega)]
  ·simp only[if_pos h1]
   rw[if_neg (by omega),if_neg (by omega)]
 ·rw[if_neg h1]
  rw[if_neg (by omega),if_neg h1]
theorem flat_cutW (n:Nat):∀ l:List UInt8,l.length≤n→flat (cutW l)=l++List.replicate ((cutW l).length*128-l.length) 0:=by
 induction n with
 |zero=>
  intro l hl
  rw[List.eq_nil_of_length_eq_zero (l:=l) (by omega),cutW_nil];rfl
 |succ n ih=>
  intro l hl
  by_cases h:l=[]
  ·rw[h,cutW_nil];rfl
  ·have h0:0<l.length:=by cases l with
    |nil=>contradiction
    |cons a l=>simp
   have hd:(pad128 (l.take 128)).data.toList=l.take 128++List.replicate (128-(l.take 128).length) 0:=by unfold pad128;rfl
   rw[cutW_cons h,flat_cons,hd,ih _ (by rw[List.length_drop];omega),List.length_cons]
   have hcl:=cutW_length _ (l.drop 128) (Nat.le_refl _)
   by_cases hs:l.length≤128
   ·have e1:l.drop 128=[]:=List.drop_eq_nil_of_le hs
    rw[e1,cutW_nil,List.take_of_length_le hs]
    simp
   ·have e1:(l.take 128).length=128:=by rw[List.length_take];omega
    rw[e1,Nat.sub_self,List.replicate_zero,List.append_nil,← List.append_assoc,List.take_append_drop,List.length_drop]
    rw[List.length_drop]at hcl
    have e2:(cutW (l.drop 128)).length*128-(l.length-128)=((cutW (l.drop 128)).length+1)*128-l.length:=by omega
    rw[e2]
theorem flat_one:flat [zero128]=List.replicate 128 0:=by
 have h:∀ l:List UInt8,flat [⟨l.toArray⟩]=l:=fun l=>by unfold flat;simp
 exact h _
theorem piece_of {L:List ByteArray}(h:Whole L)(i:Nat)(hi:i<L.length):(L[i]?.getD ⟨#[]⟩).data.toList=((flat L).drop (i*128)).take 128∧(L[i]?.getD ⟨#[]⟩).size=128:=by
 rw[List.getElem?_eq_getElem hi,Option.getD_some]
 refine⟨?_,h _ (List.getElem_mem hi)⟩
 rw[← flat_drop h,List.drop_eq_getElem_cons hi,flat_cons,List.take_left' (by have:=h _ (List.getElem_mem hi);simpa using this)]
structure LInv (F N:Nat) (d:Dk) (g:Lo) (r1 r2:List Rec):Prop where
 whole:Whole d.sectors
 room:F+N≤d.sectors.length
 hf:g.from_=(F:Int)
 hn:g.n=(N:Int)
 row:Row 0 (r1++r2)
 pre:(logS F N d).take (bytes r1).length=bytes r1
 safe:g.safe=((bytes r1).length:Int)
 end_:g.end_=((bytes (r1++r2)).length:Int)
 tail:g.tail=⟨((bytes (r1++r2)).drop ((bytes r1).length-(bytes r1).length%128)).toArray⟩
 fit:(bytes (r1++r2)).length≤N*128
theorem bytes_le (r1 r2:List Rec):(bytes (r1++r2)).length=(bytes r1).length+(bytes r2).length:=by rw[bytes_append,List.length_append]
theorem bytes_one (r:Rec):bytes [r]=putR r:=by unfold bytes;simp
theorem bytes_nil {l:List Rec}(h:(bytes l).length=0):l=[]:=by
 cases l with
 |nil=>rfl
 |cons r l=>rw[bytes_cons,List.length_append,putR_len]at h;omega
theorem LInv.tail_size {F N:Nat}{d:Dk}{g:Lo}{r1 r2:List Rec}(h:LInv F N d g r1 r2):(g.tail.size:Int)=g.end_-(((bytes r1).length/128*128:Nat):Int):=by
 have h1:=bytes_le r1 r2
 rw[h.tail,h.end_]
 show((((bytes (r1++r2)).drop ((bytes r1).length-(bytes r1).length%128)).toArray.size:Nat):Int)=_
 rw[List.size_toArray,List.length_drop]
 omega
theorem LInv.new {F N:Nat}{d:Dk}(hw:Whole d.sectors)(hr:F+N≤d.sectors.length):LInv F N d ⟨F,N,0,0,⟨#[]⟩⟩ [] []:=
 ⟨hw,hr,rfl,rfl,trivial,rfl,rfl,rfl,rfl,Nat.zero_le _⟩
theorem LInv.append {F N:Nat}{d:Dk}{g:Lo}{r1 r2:List Rec}(h:LInv F N d g r1 r2)(r:Rec):
 (appendD g r=(g,0,1))∨(appendD g r=(g,0,18))∨
 ((appendD g r).2=(g.end_+1,0)∧LInv F N d (appendD g r).1 r1 (r2++[{r with lsn:=g.end_+1}])):=by
 by_cases h1:Right {r with lsn:=g.end_+1}
 ·by_cases h2:g.n*128-((putR {r with lsn:=g.end_+1}).length:Int)<g.end_
  ·refine .inr (.inl ?_)
   unfold appendD;simp only;rw[if_neg (fun hn=>hn h1),if_pos h2]
  ·refine .inr (.inr ?_)
   have e:appendD g r=({g with end_:=g.end_+((putR {r with lsn:=g.end_+1}).length:Int),tail:=g.tail++⟨(putR {r with lsn:=g.end_+1}).toArray⟩},g.end_+1,0):=by
    unfold appendD;simp only;rw[if_neg (fun hn=>hn h1),if_neg h2]
   rw[e]
   refine⟨rfl,?_⟩
   have hb:bytes (r1++(r2++[{r with lsn:=g.end_+1}]))=bytes (r1++r2)++putR {r with lsn:=g.end_+1}:=by
    rw[← List.append_assoc,bytes_append (r1++r2),bytes_one]
   refine⟨h.whole,h.room,h.hf,h.hn,?_,h.pre,h.safe,?_,?_,?_⟩
   ·rw[← List.append_assoc,row_append]
    refine⟨h.row,h1,?_,trivial⟩
    show g.end_+1=_
    rw[h.end_];simp
   ·show g.end_+_=_
    rw[hb,List.length_append,h.end_];omega
   ·show g.tail++_=_
    have h3:=bytes_le r1 r2
    rw[hb,h.tail,List.drop_append_of_le_length (by omega)]
    apply ByteArray.ext
    rw[ByteArray.data_append]
    simp
   ·rw[hb,List.length_append]
    have h4:=h.hn
    have h5:=h.end_
    omega
 ·refine .inl ?_
  unfold appendD;simp only;rw[if_pos h1]
structure Sects (F N f:Nat) (s n t:List UInt8) (all:List ByteArray):Prop where
 whole:Whole all
 fits:f+all.length≤N
 some_:0<all.length
 flat_:n=s.take (f*128)++(flat all++s.drop ((f+all.length)*128))
 len:s.length=N*128
theorem Sects.nlen {F N f:Nat}{s n t:List UInt8}{all:List ByteArray}(h:Sects F N f s n t all):n.length=N*128:=by
 have h1:=h.fits
 have h2:=h.len
 rw[h.flat_,List.length_append,List.length_append,flat_len h.whole,List.length_take,List.length_drop]
 omega
theorem Sects.piece {F N f:Nat}{s n t:List UInt8}{all:List ByteArray}(h:Sects F N f s n t all)(i:Nat)(hi:i<all.length):(all[i]?.getD ⟨#[]⟩).data.toList=(n.drop ((f+i)*128)).take 128∧(all[i]?.getD ⟨#[]⟩).size=128:=by
 obtain⟨h1,h2⟩:=piece_of h.whole i hi
 refine⟨?_,h2⟩
 have h3:=h.fits
 have h4:=h.len
 have h5:=flat_len h.whole
 rw[h1,h.flat_,show(f+i)*128=f*128+i*128 by omega,← List.drop_drop,List.drop_left' (by rw[List.length_take];omega),List.drop_append_of_le_length (by omega),List.take_append_of_le_length (by rw[List.length_drop];omega)]
theorem Sects.start {F N f:Nat}{s n t:List UInt8}{all:List ByteArray}(h:Sects F N f s n t all):mix s n ((f+all.length)*128)=s:=by
 have h3:=h.fits
 have h4:=h.len
 have h5:=flat_len h.whole
 unfold mix
 rw[h.flat_,← List.append_assoc,List.drop_left' (by rw[List.length_append,List.length_take];omega),List.take_append_drop]
theorem Sects.all_ {F N f:Nat}{s n t:List UInt8}{all:List ByteArray}(h:Sects F N f s n t all):mix s n (f*128)=n:=by
 refine mix_eq (by rw[h.len,h.nlen]) fun i hi=>?_
 have h3:=h.fits
 have h4:=h.len
 rw[h.flat_,List.getElem?_append_left (by rw[List.length_take];omega),List.getElem?_take,if_pos hi]
theorem putAll_mix {F N f:Nat}{s n t:List UInt8}{all:List ByteArray}(hS:Sects F N f s n t all):∀ (i:Nat),i≤all.length→∀ d:Dk,Whole d.sectors→F+N≤d.sectors.length→d.down=false→-1≤d.left→logS F N d=mix s n ((f+i)*128)→
 ((putAll ((F:Int)+f) all i d).2=0∧(putAll ((F:Int)+f) all i d).1.down=false∧-1≤(putAll ((F:Int)+f) all i d).1.left∧(d.left= -1→(putAll ((F:Int)+f) all i d).1.left= -1)∧logS F N (putAll ((F:Int)+f) all i d).1=mix s n (f*128)∧Whole (putAll ((F:Int)+f) all i d).1.sectors∧(putAll ((F:Int)+f) all i d).1.sectors.length=d.sectors.length)∨
 ((putAll ((F:Int)+f) all i d).2=20∧d.left≠-1∧(∃ q,logS F N (putAll ((F:Int)+f) all i d).1=mix s n q)∧Whole (putAll ((F:Int)+f) all i d).1.sectors∧(putAll ((F:Int)+f) all i d).1.sectors.length=d.sectors.length):=by
 intro i
 induction i with
 |zero=>
  intro _ d hw hr hd hl hs
  exact .inl ⟨rfl,hd,hl,fun h=>h,by unfold putAll;exact hs,hw,rfl⟩
 |succ i ih=>
  intro hi d hw hr hd hl hs
  obtain⟨hp1,hp2⟩:=hS.piece i (by omega)
  have hfit:=hS.fits
  have hhas:hasD d ((F:Int)+f+(i:Int)):=⟨by omega,by omega⟩
  by_cases h0:d.left=0
  ·have e:writeD d ((F:Int)+f+(i:Int)) (all[i]?.getD ⟨#[]⟩)=({d with down:=true},20):=by
    unfold writeD
    rw[hd,if_neg (by simp),if_neg (fun hn=>hn ⟨hhas,hp2⟩),if_pos h0]
   have e2:putAll ((F:Int)+f) all (i+1) d=({d with down:=true},20):=by
    unfold putAll
    rw[e,if_neg (show ¬ (20:Int)=0 by decide)]
   rw[e2]
   exact .inr ⟨rfl,by omega,⟨_,hs⟩,hw,rfl⟩
  ·obtain⟨d2,hd2⟩:=ex ({d with sectors:=d.sectors.set ((F:Int)+f+(i:Int)).toNat (all[i]?.getD ⟨#[]⟩),left:=if 0<d.left then d.left-1 else d.left}:Dk)
   have e:writeD d ((F:Int)+f+(i:Int)) (all[i]?.getD ⟨#[]⟩)=(d2,0):=by
    unfold writeD
    rw[hd,if_neg (by simp),if_neg (fun hn=>hn ⟨hhas,hp2⟩),if_neg h0,hd2,← hd]
   have e2:putAll ((F:Int)+f) all (i+1) d=putAll ((F:Int)+f) all i d2:=by
    conv=>lhs;unfold putAll
    rw[e,if_pos rfl]
   rw[e2]
   have hidx:((F:Int)+f+(i:Int)).toNat=F+(f+i):=by omega
   have hsec:d2.sectors=d.sectors.set (F+(f+i)) (all[i]?.getD ⟨#[]⟩):=by rw[hd2,← hidx]
   have hleft:d2.left=if 0<d.left then d.left-1 else d.left:=by rw[hd2]
   have hlen:d2.sectors.length=d.sectors.length:=by rw[hsec,List.length_set]
   have hlog:logS F N d2=mix s n ((f+i)*128):=by
    unfold logS
    rw[hsec,set_part (by omega)]
    refine mix_step ((hw.drop F).take N) hp2 (by rw[List.length_take,List.length_drop];omega) (by rw[hS.len,hS.nlen]) ?_ hp1
    have:(f+i+1)*128=(f+(i+1))*128:=by omega
    rw[this];exact hs
   have hw2:Whole d2.sectors:=by rw[hsec];exact hw.set _ hp2
   have h6:=ih (by omega) d2 hw2 (by omega) (by rw[hd2];exact hd) (by rw[hleft];split<;>omega) hlog
   have hm1:d.left= -1→d2.left= -1:=fun hx=>by rw[hleft,if_neg (by omega)];exact hx
   rcases h6 with⟨a1,a2,a3,a4,a5,a6,a7⟩|⟨a1,a2,a3,a4,a5⟩
   ·exact .inl ⟨a1,a2,a3,fun hx=>a4 (hm1 hx),a5,a6,by omega⟩
   ·exact .inr ⟨a1,fun hx=>a2 (hm1 hx),a3,a4,by omega⟩
theorem LInv.firstS {F N:Nat}{d:Dk}{g:Lo}{r1 r2:List Rec}(h:LInv F N d g r1 r2):firstS g=(((bytes r1).length/128:Nat):Int):=by
 unfold Lg.firstS
 have:=h.tail_size
 rw[this]
 omega
theorem LInv.sects {F N:Nat}{d:Dk}{g:Lo}{r1 r2:List Rec}(h:LInv F N d g r1 r2)(h2:r2≠[]):
 ∃ n,Sects F N ((bytes r1).length/128) (logS F N d) n [] (allS g)∧Lies n (r1++r2):=by
 obtain⟨X,hX⟩:=ex ((bytes r1).length)
 obtain⟨Y,hY⟩:=ex ((bytes (r1++r2)).length)
 have hXY:=bytes_le r1 r2
 have hpos:0<(bytes r2).length:=Nat.pos_of_ne_zero fun hz=>h2 (bytes_nil hz)
 have hfit:=h.fit
 have hsl:=logS_len (N:=N) h.whole h.room
 have htl:g.tail.data.toList=(bytes (r1++r2)).drop (X-X%128):=by rw[h.tail,hX]
 have hts:g.tail.size=Y-(X-X%128):=by
  have:g.tail.data.toList.length=g.tail.size:=by simp
  rw[← this,htl,List.length_drop,hY]
 have hcl:=cutB_length g.tail
 have hcf:flat (cutB g.tail)=(bytes (r1++r2)).drop (X-X%128)++List.replicate ((cutB g.tail).length*128-g.tail.size) 0:=by
  unfold cutB
  rw[flat_cutW _ _ (Nat.le_refl _),htl,List.length_drop,← htl,hts,← hY]
 obtain⟨z,hz,hzl,hzb⟩:∃ z,flat (allS g)=(bytes (r1++r2)).drop (X-X%128)++List.replicate z 0∧(X/128+(allS g).length≤N)∧(128≤z∨Y+z=N*128):=by
  unfold allS
  rw[h.firstS,h.hn,← hX]
  by_cases hc:(((X/128:Nat):Int)+((cutB g.tail).length:Int))<(N:Int)
  ·rw[if_pos hc]
   refine⟨(cutB g.tail).length*128-g.tail.size+128,?_,?_,.inl (by omega)⟩
   ·rw[flat_append,hcf,flat_one,List.append_assoc,List.replicate_append_replicate]
   ·rw[List.length_append];simp;omega
  ·rw[if_neg hc]
   refine⟨(cutB g.tail).length*128-g.tail.size,hcf,?_,.inr ?_⟩
   ·omega
   ·omega
 have hwa:Whole (allS g):=by
  unfold allS
  split
  ·intro b hb
   rcases List.mem_append.1 hb with h3|h3
   ·exact cutB_size _ b h3
   ·rw[List.mem_singleton.1 h3];exact zero128_size
  ·exact cutB_size _
 have hal:0<(allS g).length:=by
  have:(cutB g.tail).length≤(allS g).length:=by unfold allS;split<;>simp
  omega
 have hfl:=flat_len hwa
 rw[hz,List.length_append,List.length_drop,List.length_replicate,← hY]at hfl
 obtain⟨n,hn⟩:=ex ((logS F N d).take (X/128*128)++(flat (allS g)++(logS F N d).drop ((X/128+(allS g).length)*128)))
 have hS:Sects F N (X/128) (logS F N d) n [] (allS g):=⟨hwa,hzl,hal,hn,hsl⟩
 have hall:n=bytes (r1++r2)++(List.replicate z 0++(logS F N d).drop ((X/128+(allS g).length)*128)):=by
  have e1:(logS F N d).take (X/128*128)=(bytes (r1++r2)).take (X/128*128):=by
   have h3:=congrArg (List.take (X/128*128)) h.pre
   rw[List.take_take,Nat.min_eq_left (by omega)]at h3
   rw[h3,bytes_append,List.take_append_of_le_length (by omega)]
  rw[hn,hz,e1,show X-X%128=X/128*128 by omega,List.append_assoc,← List.append_assoc,List.take_append_drop]
 refine⟨n,by rw[← hX];exact hS,h.row,?_,?_,?_⟩
 ·rw[hall,List.take_left' rfl]
 ·rw[hS.nlen];exact hfit
 ·intro i h3 h4 h5
  rw[hS.nlen]at h5
  rw[hall,List.getElem?_append_right h3,List.getElem?_append_left (by rw[List.length_replicate];omega),List.getElem?_replicate,if_pos (by omega)]
theorem LInv.force {F N:Nat}{d:Dk}{g:Lo}{r1 r2:List Rec}(h:LInv F N d g r1 r2)(hd:d.down=false)(hl: -1≤d.left):
 ((forceD d g).2.2=0∧LInv F N (forceD d g).1 (forceD d g).2.1 (r1++r2) []∧(forceD d g).1.down=false∧-1≤(forceD d g).1.left∧(d.left= -1→(forceD d g).1.left= -1)∧(forceD d g).1.sectors.length=d.sectors.length∧(forceD d g).2.1.safe=(forceD d g).2.1.end_∧(Lies (logS F N d) r1∨r2≠[]→Lies (logS F N (forceD d g).1) (r1++r2)))∨
 ((forceD d g).2.2=20∧r2≠[]∧(forceD d g).2.1=g∧d.left≠-1∧Whole (forceD d g).1.sectors∧(forceD d g).1.sectors.length=d.sectors.length∧∃ n q,Lies n (r1++r2)∧n.length=N*128∧logS F N (forceD d g).1=mix (logS F N d) n q):=by
 by_cases h2:r2=[]
 ·subst h2
  have hse:g.safe=g.end_:=by rw[h.safe,h.end_,List.append_nil]
  have e:forceD d g=(d,g,0):=by unfold forceD;rw[if_pos hse]
  rw[e]
  refine .inl ⟨rfl,?_,hd,hl,fun hx=>hx,rfl,hse,fun hx=>?_⟩
  ·have h3:=h
   rw[← List.append_nil r1]at h3
   simpa using h3
  ·rcases hx with hx|hx
   ·simpa using hx
   ·exact absurd rfl hx
 ·have hse:¬ g.safe=g.end_:=by
   have hpos:0<(bytes r2).length:=Nat.pos_of_ne_zero fun hz=>h2 (bytes_nil hz)
   have hXY:=bytes_le r1 r2
   rw[h.safe,h.end_];omega
  obtain⟨n,hS,hL⟩:=h.sects h2
  have hbase:g.from_+Lg.firstS g=(F:Int)+(((bytes r1).length/128:Nat):Int):=by rw[h.hf,h.firstS]
  have hp:=putAll_mix hS (allS g).length (Nat.le_refl _) d h.whole h.room hd hl hS.start.symm
  rw[← hbase]at hp
  rcases hp with⟨a1,a2,a3,a4,a5,a6,a7⟩|⟨a1,a2,a3,a4,a5⟩
  ·have e:forceD d g=((putAll (g.from_+Lg.firstS g) (allS g) (allS g).length d).1,forcedL g,0):=by
    unfold forceD
    rw[if_neg hse]
    simp only
    rw[if_pos a1]
   rw[e]
   refine .inl ⟨rfl,?_,a2,a3,a4,a7,rfl,fun _=>by show Lies (logS F N _) _;rw[a5,hS.all_];exact hL⟩
   have hlog:logS F N (putAll (g.from_+Lg.firstS g) (allS g) (allS g).length d).1=n:=by rw[a5,hS.all_]
   have hts:=h.tail_size
   have hend:=h.end_
   refine⟨a6,by rw[a7];exact h.room,h.hf,h.hn,by rw[List.append_nil];exact h.row,?_,?_,?_,?_,by rw[List.append_nil];exact h.fit⟩
   ·show(logS F N (putAll (g.from_+Lg.firstS g) (allS g) (allS g).length d).1).take _=_
    rw[hlog];exact hL.pre
   ·show g.end_=_
    exact hend
   ·show g.end_=_
    rw[List.append_nil];exact hend
   ·show g.tail.extract (g.tail.size-(g.end_%128).toNat) g.tail.size=_
    have hXY:=bytes_le r1 r2
    have hts2:g.tail.size=(bytes (r1++r2)).length-(bytes r1).length/128*128:=by omega
    rw[List.append_nil,hend]
    apply ByteArray.ext
    rw[ByteArray.data_extract,h.tail]
    apply Array.toList_inj.1
    rw[Array.toList_extract]
    simp only[List.extract_eq_drop_take']
    rw[← h.tail,hts2]
    have e1:(((((bytes (r1++r2)).length:Nat):Int)%128).toNat)=(bytes (r1++r2)).length%128:=by omega
    rw[e1]
    rw[List.drop_take,List.drop_drop,List.take_of_length_le (by rw[List.length_drop];omega)]
    congr 1;omega
  ·have e:forceD d g=((putAll (g.from_+Lg.firstS g) (allS g) (allS g).length d).1,g,20):=by
    unfold forceD
    rw[if_neg hse]
    simp only
    rw[if_neg (show ¬ _ by rw[a1];decide),a1]
   rw[e]
   obtain⟨q,hq⟩:=a3
   exact .inr ⟨rfl,h2,rfl,a2,a4,a5,n,q,hL,hS.nlen,hq⟩
end Lg
namespace Tx
open Rc Lg
def noted (r:Rec):Prop:=1≤r.txn∧1≤r.kind∧r.kind≤7
instance (r:Rec):Decidable (noted r):=by unfold noted;exact inferInstance
def tuneT (r:Rec)(t:TxnAt):TxnAt:=⟨t.txn,r.lsn,if r.kind=1∨r.kind=2 then r.lsn else if r.kind=3∨r.kind=4 then r.next else t.next,if r.kind=5 then true else t.done⟩
def placeT:List TxnAt→Int→Option Nat
 |[],_=>none
 |t::l,n=>if t.txn=n then some 0 else(placeT l n).map (·+1)
def noteT (l:List TxnAt)(r:Rec):List TxnAt:=
 if ¬ noted r then l else
 match placeT l r.txn with
 |none=>if r.kind=7 then l else l++[tuneT r ⟨r.txn,0,0,false⟩]
 |some i=>if r.kind=7 then l.take i++l.drop (i+1)else l.take i++tuneT r (l[i]?.getD ⟨0,0,0,false⟩)::l.drop (i+1)
structure St where
 zlog:Int
 zpages:Int
 zframes:Int
 disk:Dk
 log:Lo
 hand:Int
 txns:List TxnAt
 next:Int
def fresh (n:Nat):St:=⟨n,0,0,newD (n+1),⟨1,n,0,0,⟨#[]⟩⟩,0,[],1⟩
end Tx
namespace Lg
open Rc
theorem newD_wholeN (n:Nat):Whole (newD n).sectors:=fun b hb=>by
 have:b=zero128:=by
  have h:=List.mem_replicate.1 hb
  exact h.2
 rw[this];exact zero128_size
end Lg
namespace Tx
open Rc Lg
def Good (N:Nat)(s:St):Prop:=∃ r1 r2,LInv 1 N s.disk s.log r1 r2∧s.disk.down=false∧s.disk.left= -1∧s.disk.sectors.length=N+1∧Lies (logS 1 N s.disk) r1∧(r1++r2).foldl noteT []=s.txns
def Has (L:List Rec)(x:Int):Prop:=∃ r∈L,r.kind=5∧r.txn=x
end Tx
namespace Lg
open Rc
end Lg
namespace Tx
open Rc Lg
structure LogB (s:St):Prop where
 e0:0≤s.log.end_
 e1:s.log.end_≤512000
 t0:(s.log.tail.size:Int)≤s.log.end_
 t1:s.log.end_%128≤(s.log.tail.size:Int)
 f:s.log.from_=1
 n0:0≤s.log.n
 n1:s.log.n≤4000
 s0:0≤s.log.safe
 s1:s.log.safe≤s.log.end_
end Tx
namespace Go.Proofs.YtmfkhdhnbkambaaGreatDoor
open Go.RowKit
theorem info_tx:(Tryz.prog.info? 59).map (fun i=>(i.zero,i.size,i.bytes))=some (some (.agg #[(),(),(),false]),4,32):=by kernel_rfl
theorem txC_one (t:Rc.TxnAt):∀ u∈txC t,u.oneCell'=true:=by
 intro u hu
 simp only[txC,List.mem_cons,List.not_mem_nil,or_false]at hu
 rcases hu with rfl|rfl|rfl|rfl<;>rfl
theorem txC_all (l:List Rc.TxnAt):∀ u∈l.flatMap txC,u.oneCell'=true:=by
 intro u hu
 obtain⟨t,_,ht⟩:=List.mem_flatMap.1 hu
 exact txC_one t u ht
theorem ownSetAt {w:World}{B size n c g:Nat}{e:TypeId}{xs:List Value}(h:w.ownsRow B e size (.slice (some ⟨g,0,none⟩) n c) n xs)(j:Nat)(hj:j<n*size):
 w.cell? ⟨g,j,none⟩=xs[j]?∧w.frozen? ⟨g,j,none⟩=false∧∀ x,(w.setCell ⟨g,j,none⟩ x).ownsRow B e size (.slice (some ⟨g,0,none⟩) n c) n (xs.set j x):=by
 obtain⟨hl,h2⟩:=h
 rcases h2 with⟨h0,_⟩|⟨g',cap,cur,hv,hg,hh,hn,hcap,hsz,htake⟩
 ·cases h0
 ·injection hv with hv1 hv2 hv3
  injection hv1 with hv1
  injection hv1 with hv1 _ _
  subst hv1 hv3
  have hnc:n*size≤c*size:=Nat.mul_le_mul_right _ hn
  refine⟨?_,blkFrozen hh j,fun x=>⟨by rw[List.length_set];exact hl,.inr ⟨g,c,cur.setIfInBounds j x,rfl,hg,blkSet j hh x,hn,hcap,by rw[Array.size_setIfInBounds];exact hsz,?_⟩⟩⟩
  ·rw[blkCell hh j,← htake,List.getElem?_take,if_pos hj,Array.getElem?_toList]
  ·rw[← htake]
   refine List.ext_getElem? fun i=>?_
   rw[List.getElem?_set,List.getElem?_take,List.length_take,List.getElem?_take,Array.toList_setIfInBounds,List.getElem?_set]
   have hs:cur.toList.length=cur.size:=by simp
   by_cases h1:j=i
   ·subst h1
    rw[if_pos rfl,if_pos rfl,if_pos hj,if_pos (by omega),if_pos (by omega)]
   ·rw[if_neg h1,if_neg h1]
theorem flat_set {α:Type}{enc:α→List Value}{k:Nat}(hk:∀ x,(enc x).length=k):∀ (l:List α) (j f:Nat) (y:α) (x:Value) (hj:j<l.length),f<k→enc y=(enc l[j]).set f x→(l.flatMap enc).set (j*k+f) x=(l.set j y).flatMap enc:=by
 intro l
 induction l with
 |nil=>intro j f y x hj;simp at hj
 |cons a l ih=>
  intro j f y x hj hf he
  cases j with
  |zero=>
   simp only[List.getElem_cons_zero]at he
   rw[List.flatMap_cons,List.set_cons_zero,List.flatMap_cons,he,Nat.zero_mul,Nat.zero_add,List.set_append_left _ _ (by rw[hk];exact hf)]
  |succ j=>
   simp only[List.getElem_cons_succ]at he
   rw[List.flatMap_cons,List.set_cons_succ,List.flatMap_cons,List.set_append_right _ _ (by rw[hk,Nat.succ_mul];omega)]
   congr 1
   rw[show(j+1)*k+f-(enc a).length=j*k+f by rw[hk,Nat.succ_mul];omega]
   exact ih j f y x (by simpa using hj) hf he
theorem setCells_blk {g:Nat}{T:TypeId}{fr:Nat×Nat}:∀ (vs:List Value) (o:Nat) (cs:Array Value) (w:World),w.heap[g]? =some (.cells cs T fr)→∃ cs':Array Value,(w.setCells g o vs).heap[g]? =some (.cells cs' T fr)∧cs'.size=cs.size∧∀ j,cs'[j]? =if o≤j∧j<o+vs.length∧j<cs.size then vs[j-o]? else cs[j]? :=by
 intro vs
 induction vs with
 |nil=>intro o cs w h;exact⟨cs,h,rfl,fun j=>by rw[if_neg (by simp;omega)]⟩
 |cons v vs ih=>
  intro o cs w h
  obtain⟨cs',h1,h2,h3⟩:=ih (o+1) _ _ (blkSet o h v)
  refine⟨cs',h1,by rw[h2,Array.size_setIfInBounds],fun j=>?_⟩
  rw[h3,Array.size_setIfInBounds,Array.getElem?_setIfInBounds]
  by_cases hj:j=o
  ·subst hj
   rw[if_neg (by omega),if_pos rfl]
   by_cases hb:j<cs.size
   ·rw[if_pos hb,if_pos ⟨Nat.le_refl _,by simp,hb⟩,Nat.sub_self];rfl
   ·rw[if_neg hb,if_neg (by omega),Array.getElem?_eq_none (by omega)]
  ·by_cases hc:o+1≤j∧j<o+1+vs.length∧j<cs.size
   ·rw[if_pos hc,if_pos (by simp;omega)]
    obtain⟨m,rfl⟩:∃ m,j=o+1+m:=⟨j-(o+1),by omega⟩
    rw[show o+1+m-(o+1)=m by omega,show o+1+m-o=m+1 by omega,List.getElem?_cons_succ]
   ·rw[if_neg hc,if_neg (fun e=>hj e.symm),if_neg (by simp;omega)]
theorem setCells_below {B g:Nat}(hg:B≤g):∀ (vs:List Value) (o:Nat) (w:World),Below B w (w.setCells g o vs):=by
 intro vs
 induction vs with
 |nil=>intro o w;exact Below.refl _ _
 |cons v vs ih=>
  intro o w
  exact((Below.refl B w).setCell (p:=⟨g,o,none⟩) hg v).trans (ih (o+1) _)
theorem tclone_any (l:List Rc.TxnAt)(hl:l.length≤1000000)(A:Option Addr)(c:Nat)(w:World)(hr:TxR w A c l):
 Calls Tryz.prog 81 #[.slice A l.length c] w fun e w'=>∃ v,e= .returned v∧OwnL txC 4 59 w.heap.size w' v l∧Below w.heap.size w w':=by
 obtain⟨i0,hi,hz0,hz1,hz2⟩:=info_parts info_tx
 have HR:=Hq hr
 cases A with
 |none=>
  have hl0:l=[]:=by
   rcases Nat.eq_zero_or_pos l.length with h0|h0
   ·exact List.eq_nil_of_length_eq_zero h0
   ·obtain⟨b,off,e,_⟩:=hr h0
    cases e
  subst hl0
  clear hr HR
  have hq:∀ w,(binOp .eql 34 (.slice none 0 c) (.slice none 0 0)).run Tryz.prog w= .ok (.bool true) w:=fun w=>Lib.run_eql_slice_nil w 34 59 none 0 c 0 0 Tryz.underlying34
  simp only[List.length_nil]
  go_enter Tryz.func81,Tryz.ntmps81
  go_wp2_with fail
  go_ret
  exact⟨_,rfl,ownNil _ _ _ _,Below.refl _ _⟩
 |some ad=>
  have HRD:=Hq (hr.below (allocB w (.cells #[] 59)))
  have hq:∀ w,(binOp .eql 34 (.slice (some ad) l.length c) (.slice none 0 0)).run Tryz.prog w= .ok (.bool false) w:=fun w=>Lib.run_eql_slice_nil w 34 59 (some ad) l.length c 0 0 Tryz.underlying34
  clear hr
  go_enter Tryz.func81,Tryz.ntmps81
  go_wp2_with (at_builtin;refine listWants Kr fun K hK=>wp_appR (w.alloc (.cells #[] 59)) (.tmp 5) (.tmp 6) 34 59 i0 (.agg #[(),(),(),false]) 4 32 Tryz.underlying34 hi hz0 hz1 hz2 rfl (by omega) rfl w.heap.size _ 0 [] rfl (ownEmpty w 59 4) (some ad) l.length c (l.flatMap txC) rfl HRD.out (by rw[flat_len txC_len]) (txC_all l) (by omega) (by omega) (by simp) ?_;intro v2 w2 ho hg hb;refine hK _ _ ?_)
  go_ret
  rw[List.nil_append,Nat.zero_add]at ho
  exact⟨_,rfl,ho,(allocB w (.cells #[] 59)).trans hb⟩
end Go.Proofs.YtmfkhdhnbkambaaGreatDoor
namespace Tx
open Rc
end Tx
namespace Go.Proofs.YtmfkhdhnbkambaaGreatDoor
open Go.RowKit
theorem rowSet {w:World}{B g N c:Nat}{M:List Rc.TxnAt}(h:w.ownsRow B 59 4 (.slice (some ⟨g,0,none⟩) N c) N (M.flatMap txC))(hN:M.length=N)(k:Nat)(hk:k<M.length)(f:Nat)(hf:f<4)(x:Value)(y:Rc.TxnAt)(he:txC y=(txC M[k]).set f x):
 w.cell? ⟨g,k*4+f,none⟩=(txC M[k])[f]?∧w.frozen? ⟨g,k*4+f,none⟩=false∧(w.setCell ⟨g,k*4+f,none⟩ x).ownsRow B 59 4 (.slice (some ⟨g,0,none⟩) N c) N ((M.set k y).flatMap txC):=by
 obtain⟨h1,h2,h3⟩:=ownSetAt h (k*4+f) (by omega)
 refine⟨by rw[h1,flat_at txC_len M k f hk hf],h2,?_⟩
 rw[← flat_set txC_len M k f y x hk hf he]
 exact h3 x
theorem ownSome {w:World}{B size n:Nat}{e:TypeId}{v:Value}{xs:List Value}(h:w.ownsRow B e size v n xs)(hn:0<n):∃ g c,v= .slice (some ⟨g,0,none⟩) n c∧B≤g:=by
 rcases h.2 with⟨_,h0⟩|⟨g,cap,cur,hv,hg,_⟩
 ·omega
 ·exact⟨g,cap,hv,hg⟩
end Go.Proofs.YtmfkhdhnbkambaaGreatDoor
