import Derived.Test.YtmfkhdhnbkambaaGreatDoorHp00
import Derived.Test.YtmfkhdhnbkambaaGreatDoorHp03
import Derived.IntWalk
import Derived.Maps.AppendAt
import Derived.Deep.AppendLies
import Derived.OwnWalk
import Derived.Deep.MidRow
set_option maxRecDepth 100000
set_option maxHeartbeats 16000000
set_option linter.unusedSimpArgs false
namespace Go.Proofs.YtmfkhdhnbkambaaGreatDoor
open Go.RowKit
theorem rparts_leaf (p:ByteArray)(hm:p.size≤140737488355328)(w:World):
 Calls Tryz.prog 43 #[p] w fun e w'=>∃ x A c,e= .returned (.tuple #[leafV x A c,.bool (isPg p)])∧(isPg p=true→x=leafP p∧OwnCells w.heap.size w' A c (leafP p).recs)∧Below w.heap.size w w':=by
 refine(rparts_any p hm w).mono ?_
 rintro e w' ⟨h,hb⟩
 unfold leafP isPg Pg.leafOf
 revert h
 cases Pg.right p.data.toList with
 |none=>rintro⟨x,A,c,rfl⟩;exact⟨x,A,c,rfl,(fun h=>by cases h),hb⟩
 |some x=>rintro⟨A,c,rfl,h⟩;exact⟨x,A,c,rfl,fun _=>⟨rfl,h⟩,hb⟩
theorem leafP_of_not {p:ByteArray}(h:isPg p=false):leafP p=Pg.zero:=by
 unfold isPg at h;unfold leafP Pg.leafOf
 revert h
 cases Pg.right p.data.toList with
 |none=>intro _;rfl
 |some x=>intro h;cases h
theorem prright_any (p:ByteArray)(hm:p.size≤140737488355328)(w:World):
 Calls Tryz.prog 88 #[p] w fun e w'=>e= .returned (.bool (isPg p))∧Below w.heap.size w w':=by
 have HT:=Hq (fun W=>rparts_leaf p hm W)
 generalize isPg p=b at HT ⊢
 generalize leafP p=y at HT
 go_enter Tryz.func88,Tryz.ntmps88
 go_wp2_with (go_at_call 43;refine(HT.out _).mono ?_;rintro e w1 ⟨x,A,c,rfl,hcl,hb1⟩)
 go_ret
 exact⟨rfl,by repeat (first|exact hb1|refine Below.alloc ?_ (by first|exact hb1.size|simp) _|refine Below.setCell ?_ (by first|exact hb1.size|simp) _)⟩
theorem rpart_any (p:ByteArray)(hm:p.size≤140737488355328)(w:World):
 Calls Tryz.prog 138 #[p] w fun e w'=>∃ A c,e= .returned (leafV (leafP p) A c)∧OwnCells w.heap.size w' A c (leafP p).recs∧Below w.heap.size w w':=by
 have HT:=Hq (fun W=>rparts_leaf p hm W)
 cases hb:isPg p with
 |false=>
  rw[leafP_of_not hb]
  rw[hb]at HT
  generalize leafP p=y at HT
  go_enter Tryz.func138,Tryz.ntmps138
  go_wp2_with (go_at_call 43;refine(HT.out _).mono ?_;rintro e w1 ⟨x,A,c,rfl,-,hb1⟩;have hlt:w.heap.size<w1.heap.size:=(by have:=hb1.size;simp at this;omega);obtain⟨c0,c1,c2,c3,f0,f1,f2,f3⟩:=blk4 (blk_new hb1))
  have hbw:=below_past hb1
  refine bodyPost_ret (v:=zeroV) (by simp[results,Tryz.results138,go_sem,c0,c1,c2,c3,hlt]) rfl ?_
  refine⟨none,0,rfl,fun h0=>by simp[Pg.zero]at h0,?_⟩
  repeat (first|exact hbw|refine Below.alloc ?_ (by simp;exact Nat.le_of_lt hlt) _|refine Below.setCell ?_ (by simp) _)
 |true=>
  rw[hb]at HT
  generalize leafP p=y at HT ⊢
  go_enter Tryz.func138,Tryz.ntmps138
  go_wp2_with (go_at_call 43;refine(HT.out _).mono ?_;rintro e w1 ⟨x,A,c,rfl,hcl,hb1⟩;obtain⟨rfl,hcl⟩:=hcl rfl;have hne:w1.heap.size≠w.heap.size:=(by have:=hb1.size;simp at this;omega);have hlt:w.heap.size<w1.heap.size:=(by have:=hb1.size;simp at this;omega);obtain⟨c0,c1,c2,c3,f0,f1,f2,f3⟩:=blk4 (blk_new hb1))
  have hbw:=below_past hb1
  refine bodyPost_ret (v:=leafV x A c) (by simp[results,Tryz.results138,go_sem,c0,c1,c2,c3,hlt]) rfl ?_
  refine⟨A,c,rfl,?_,?_⟩
  ·refine OwnCells.mono (B:=w.heap.size+1) ?_ (by omega)
   refine OwnCells.below ?_ ((Below.refl _ _).alloc (Nat.le_refl _) _)
   repeat (first|exact(show OwnCells (w.heap.size+1) w1 A c x.recs by simpa using hcl)|refine OwnCells.set ?_ _ (by simp) _)
  ·repeat (first|exact hbw|refine Below.alloc ?_ (by simp;exact Nat.le_of_lt hlt) _|refine Below.setCell ?_ (by simp) _)
theorem ref_field0 (a b l v:Value)(W:World):(Instr.field 95 (.agg #[a,b,l,v]) 0).run Tryz.prog W= .ok a W:=by kernel_rfl
theorem ref_field2 (a b l v:Value)(W:World):(Instr.field 95 (.agg #[a,b,l,v]) 2).run Tryz.prog W= .ok l W:=by kernel_rfl
theorem rlsn_any (p:ByteArray)(hm:p.size≤140737488355328)(w:World):
 Calls Tryz.prog 99 #[p] w fun e w'=>e= .returned (.int .i64 ((leafP p).lsn:Nat))∧Below w.heap.size w w':=by
 have hfd:∀ (A:Option Addr) (c:Nat) (W:World),(Instr.field 95 (leafV (leafP p) A c) 0).run Tryz.prog W= .ok _ W:=fun _ _ W=>ref_field0 _ _ _ _ W
 have HT:=Hq (fun W=>rpart_any p hm W)
 generalize leafP p=x at HT hfd ⊢
 go_enter Tryz.func99,Tryz.ntmps99
 go_wp2_with (go_at_call 138;refine(HT.out _).mono ?_;rintro e w1 ⟨A,c,rfl,hcl,hb1⟩)
 go_ret
 exact⟨rfl,by repeat (first|exact hb1|refine Below.alloc ?_ (by first|exact hb1.size|simp) _|refine Below.setCell ?_ (by first|exact hb1.size|simp) _)⟩
theorem rlink_any (p:ByteArray)(hm:p.size≤140737488355328)(w:World):
 Calls Tryz.prog 98 #[p] w fun e w'=>e= .returned (.int .i64 ((leafP p).link:Nat))∧Below w.heap.size w w':=by
 have hfd:∀ (A:Option Addr) (c:Nat) (W:World),(Instr.field 95 (leafV (leafP p) A c) 2).run Tryz.prog W= .ok _ W:=fun _ _ W=>ref_field2 _ _ _ _ W
 have HT:=Hq (fun W=>rpart_any p hm W)
 generalize leafP p=x at HT hfd ⊢
 go_enter Tryz.func98,Tryz.ntmps98
 go_wp2_with (go_at_call 138;refine(HT.out _).mono ?_;rintro e w1 ⟨A,c,rfl,hcl,hb1⟩)
 go_ret
 exact⟨rfl,by repeat (first|exact hb1|refine Below.alloc ?_ (by first|exact hb1.size|simp) _|refine Below.setCell ?_ (by first|exact hb1.size|simp) _)⟩
theorem below_past_alloc {w w':World}{o:Obj}(hb:Below w.heap.size w w'):Below w.heap.size w (w'.alloc o):=hb.alloc hb.size o
theorem at_any (x:Pg.Leaf)(A:Option Addr)(c:Nat)(i:Int)(w:World)(h:Cells w A c x.recs):
 Calls Tryz.prog 117 #[leafV x A c,i] w fun e w'=>e= .returned (.string (Pg.slotAt x.recs i))∧Below w.heap.size w w':=by
 have HC:=Hq (h.below ((Below.refl w.heap.size w).alloc (Nat.le_refl _) (.cells #[x.lsn,x.kind,x.link,.slice A x.recs.length c] 151 (0,0))))
 clear h
 by_cases h1:i<0
 ·rw[Pg.slotAt_neg h1]
  go_enter Tryz.func117,Tryz.ntmps117
  go_wp2_with fail
  go_ret
  exact⟨rfl,(Below.refl _ _).alloc (Nat.le_refl _) _⟩
 ·by_cases h2:(x.recs.length:Int)≤i
  ·rw[Pg.slotAt_past h2]
   go_enter Tryz.func117,Tryz.ntmps117
   go_wp2_with fail
   go_ret
   exact⟨rfl,(Below.refl _ _).alloc (Nat.le_refl _) _⟩
  ·obtain⟨k,rfl⟩:=Int.eq_ofNat_of_zero_le (show 0≤i by omega)
   have hk:k<x.recs.length:=by omega
   rw[Pg.slotAt_in hk]
   obtain⟨b,off,rfl,hc,hbl,hcell⟩:=HC.out.at_ hk
   have h3:(k:Int)<(x.recs.length:Int):=by omega
   have h4:(0:Int)≤(k:Int):=by omega
   clear h1 h2
   generalize x.recs[k]=r at hcell ⊢
   go_enter Tryz.func117,Tryz.ntmps117
   go_wp2_with fail
   go_ret
   exact⟨rfl,(Below.refl _ _).alloc (Nat.le_refl _) _⟩
theorem get_any_rec (p:ByteArray)(i:Int)(hm:p.size≤140737488355328)(w:World):
 Calls Tryz.prog 62 #[p,i] w fun e w'=>e= .returned (.tuple #[.string (Pg.slotAt (leafP p).recs i),.bool (!decide ((Pg.slotAt (leafP p).recs i).size=0))])∧Below w.heap.size w w':=by
 have HT:=Hq (fun W=>take_leaf p hm W)
 generalize isPg p=b at HT
 generalize leafP p=x at HT ⊢
 have HA:=Hq (fun A c W hW=>at_any x A c i W hW)
 generalize Pg.slotAt x.recs i=r at HA ⊢
 rw[← empty_iff]
 go_enter Tryz.func62,Tryz.ntmps62
 go_wp2_with (first|(go_at_call 109;refine(HT.out _).mono ?_;rintro e w1 ⟨A,c,rfl,hcl,hb1⟩)|(go_at_call 117;refine(HA.out _ _ _ (hcl.cells.below ((Below.refl _ _).alloc (Nat.le_refl _) _))).mono ?_;rintro e w2 ⟨rfl,hb2⟩))
 refine bodyPost_ret (v:=.tuple #[r,.bool (!r.toList.isEmpty)]) (by simp[results,Tryz.results62,go_sem]) rfl ?_
 exact⟨rfl,andThen (below_past_alloc hb1) hb2⟩
theorem bytes_nil {r:ByteArray}(h:r.size=0):r=⟨#[]⟩:=by
 apply ByteArray.ext
 exact Array.eq_empty_of_size_eq_zero h
theorem rget_any_rec (p:ByteArray)(i:Int)(hm:p.size≤140737488355328)(w:World):
 Calls Tryz.prog 89 #[p,i] w fun e w'=>e= .returned (.tuple #[.string (Pg.slotAt (leafP p).recs i),.bool (!decide ((Pg.slotAt (leafP p).recs i).size=0))])∧Below w.heap.size w w':=by
 have HT:=Hq (fun W=>rpart_any p hm W)
 generalize leafP p=x at HT ⊢
 by_cases h1:i<0
 ·rw[Pg.slotAt_neg h1]
  go_enter Tryz.func89,Tryz.ntmps89
  go_wp2_with (go_at_call 138;refine(HT.out _).mono ?_;rintro e w1 ⟨A,c,rfl,hcl,hb1⟩)
  refine bodyPost_ret (v:=.tuple #["",false]) (by simp[results,Tryz.results89,go_sem]) rfl ?_
  exact⟨rfl,below_past_alloc hb1⟩
 ·by_cases h2:(x.recs.length:Int)≤i
  ·rw[Pg.slotAt_past h2]
   go_enter Tryz.func89,Tryz.ntmps89
   go_wp2_with (go_at_call 138;refine(HT.out _).mono ?_;rintro e w1 ⟨A,c,rfl,hcl,hb1⟩)
   refine bodyPost_ret (v:=.tuple #["",false]) (by simp[results,Tryz.results89,go_sem]) rfl ?_
   exact⟨rfl,below_past_alloc hb1⟩
  ·obtain⟨k,rfl⟩:=Int.eq_ofNat_of_zero_le (show 0≤i by omega)
   have hk:k<x.recs.length:=by omega
   rw[Pg.slotAt_in hk]
   have h3:(k:Int)<(x.recs.length:Int):=by omega
   have h4:(0:Int)≤(k:Int):=by omega
   clear h1 h2
   obtain⟨r,hr⟩:=ex (x.recs[k])
   rw[← hr]
   have HR:=Hq hr
   clear hr
   have hie:r.toList.isEmpty=decide (r.size=0):=empty_iff r
   by_cases he:r.size=0
   ·rw[decide_eq_true he]at hie ⊢
    rw[bytes_nil he]at hie HR ⊢
    clear he
    go_enter Tryz.func89,Tryz.ntmps89
    go_wp2_with (go_at_call 138;refine(HT.out _).mono ?_;rintro e w1 ⟨A,c,rfl,hcl,hb1⟩;obtain⟨b,off,rfl,hc,hbl,hcell⟩:=hcl.cells.at_ hk;rw[← HR.out]at hcell)
    refine bodyPost_ret (v:=.tuple #["",false]) (by simp[results,Tryz.results89,go_sem]) rfl ?_
    exact⟨rfl,below_past_alloc hb1⟩
   ·rw[decide_eq_false he]at hie ⊢
    clear he
    go_enter Tryz.func89,Tryz.ntmps89
    go_wp2_with (go_at_call 138;refine(HT.out _).mono ?_;rintro e w1 ⟨A,c,rfl,hcl,hb1⟩;obtain⟨b,off,rfl,hc,hbl,hcell⟩:=hcl.cells.at_ hk;rw[← HR.out]at hcell)
    refine bodyPost_ret (v:=.tuple #[r,true]) (by simp[results,Tryz.results89,go_sem]) rfl ?_
    exact⟨rfl,below_past_alloc hb1⟩
theorem may_any (r:ByteArray)(w:World):
 Calls Tryz.prog 116 #[r] w fun e w'=>e= .returned (.bool (decide (1≤r.size∧r.size≤400)))∧w=w':=by
 by_cases h1:1≤r.size
 ·by_cases h2:r.size≤400
  ·rw[decide_eq_true ⟨h1,h2⟩]
   have h3:(1:Int)≤(r.size:Int):=by omega
   have h4:(r.size:Int)≤400:=by omega
   go_enter Tryz.func116,Tryz.ntmps116
   go_wp2_with fail
   go_ret
   exact⟨by simp,rfl⟩
  ·rw[decide_eq_false (fun h=>h2 h.2)]
   have h3:(1:Int)≤(r.size:Int):=by omega
   have h4:(400:Int)<(r.size:Int):=by omega
   go_enter Tryz.func116,Tryz.ntmps116
   go_wp2_with fail
   go_ret
   exact⟨by simp[Int.not_le.2 h4],rfl⟩
 ·rw[decide_eq_false (fun h=>h1 h.1)]
  have h3:(r.size:Int)<1:=by omega
  go_enter Tryz.func116,Tryz.ntmps116
  go_wp2_with fail
  go_ret
  exact⟨by simp,rfl⟩
theorem rmay_any (r:ByteArray)(w:World):
 Calls Tryz.prog 139 #[r] w fun e w'=>e= .returned (.bool (decide (1≤r.size∧r.size≤400)))∧w=w':=by
 by_cases h1:1≤r.size
 ·by_cases h2:r.size≤400
  ·rw[decide_eq_true ⟨h1,h2⟩]
   have h3:(1:Int)≤(r.size:Int):=by omega
   have h4:(r.size:Int)≤400:=by omega
   go_enter Tryz.func139,Tryz.ntmps139
   go_wp2_with fail
   go_ret
   exact⟨by simp,rfl⟩
  ·rw[decide_eq_false (fun h=>h2 h.2)]
   have h3:(1:Int)≤(r.size:Int):=by omega
   have h4:(400:Int)<(r.size:Int):=by omega
   go_enter Tryz.func139,Tryz.ntmps139
   go_wp2_with fail
   go_ret
   exact⟨by simp[Int.not_le.2 h4],rfl⟩
 ·rw[decide_eq_false (fun h=>h1 h.1)]
  have h3:(r.size:Int)<1:=by omega
  go_enter Tryz.func139,Tryz.ntmps139
  go_wp2_with fail
  go_ret
  exact⟨by simp,rfl⟩
def newB (n:Int):ByteArray:=if n<0∨4<n then⟨#[]⟩else⟨(Pg.layL ⟨0,n.toNat,0,[]⟩).toArray⟩
theorem new_any (n:Int)(w:World):
 Calls Tryz.prog 145 #[n] w fun e w'=>e= .returned (.string (newB n))∧Below w.heap.size w w':=by
 by_cases h1:n<0
 ·rw[show newB n=⟨#[]⟩from if_pos (.inl h1)]
  go_enter Tryz.func145,Tryz.ntmps145
  go_wp2_with fail
  go_ret
  exact⟨rfl,Below.refl _ _⟩
 ·by_cases h2:4<n
  ·rw[show newB n=⟨#[]⟩from if_pos (.inr h2)]
   go_enter Tryz.func145,Tryz.ntmps145
   go_wp2_with fail
   go_ret
   exact⟨rfl,Below.refl _ _⟩
  ·obtain⟨k,rfl⟩:=Int.eq_ofNat_of_zero_le (show 0≤n by omega)
   have HM:=Hq (fun W=>made_any ⟨0,k,0,[]⟩ none 0 ⟨(by show 0<281474976710656;omega),(by show k≤4;omega),(by show 0<16777216;omega)⟩ (by show 19≤1099511627776;omega) W (fun h0=>by simp at h0))
   rw[show newB (k:Int)=⟨(Pg.layL ⟨0,k,0,[]⟩).toArray⟩ by unfold newB;rw[if_neg (by omega)];rfl]
   generalize (⟨(Pg.layL ⟨0,k,0,[]⟩).toArray⟩:ByteArray)=q at HM ⊢
   have h3:(0:Int)≤(k:Int):=by omega
   have h4:(k:Int)≤4:=by omega
   clear h1 h2
   go_enter Tryz.func145,Tryz.ntmps145
   go_wp2_with (go_at_call 128;refine(HM.out _).mono ?_;rintro e w1 ⟨rfl,hb1⟩)
   go_ret
   exact⟨rfl,hb1⟩
theorem rnew_any (n:Int)(w:World):
 Calls Tryz.prog 9 #[n] w fun e w'=>e= .returned (.string (newB n))∧Below w.heap.size w w':=by
 by_cases h1:n<0
 ·rw[show newB n=⟨#[]⟩from if_pos (.inl h1)]
  go_enter Tryz.func9,Tryz.ntmps9
  go_wp2_with fail
  go_ret
  exact⟨rfl,Below.refl _ _⟩
 ·by_cases h2:4<n
  ·rw[show newB n=⟨#[]⟩from if_pos (.inr h2)]
   go_enter Tryz.func9,Tryz.ntmps9
   go_wp2_with fail
   go_ret
   exact⟨rfl,Below.refl _ _⟩
  ·obtain⟨k,rfl⟩:=Int.eq_ofNat_of_zero_le (show 0≤n by omega)
   have HM:=Hq (fun W=>rlay_any ⟨0,k,0,[]⟩ none 0 ⟨(by show 0<281474976710656;omega),(by show k≤4;omega),(by show 0<16777216;omega)⟩ (by show 19≤1099511627776;omega) W (fun h0=>by simp at h0))
   rw[show newB (k:Int)=⟨(Pg.layL ⟨0,k,0,[]⟩).toArray⟩ by unfold newB;rw[if_neg (by omega)];rfl]
   generalize (⟨(Pg.layL ⟨0,k,0,[]⟩).toArray⟩:ByteArray)=q at HM ⊢
   have h3:(0:Int)≤(k:Int):=by omega
   have h4:(k:Int)≤4:=by omega
   clear h1 h2
   go_enter Tryz.func9,Tryz.ntmps9
   go_wp2_with (go_at_call 31;refine(HM.out _).mono ?_;rintro e w1 ⟨rfl,hb1⟩)
   go_ret
   exact⟨rfl,hb1⟩
def lsnB (p:ByteArray)(n:Int):ByteArray:=if isPg p=false∨n<0∨281474976710656≤n then⟨#[]⟩else⟨(Pg.layL ⟨n.toNat,(leafP p).kind,(leafP p).link,(leafP p).recs⟩).toArray⟩
def linkB (p:ByteArray)(n:Int):ByteArray:=if isPg p=false∨n<0∨16777216≤n then⟨#[]⟩else⟨(Pg.layL ⟨(leafP p).lsn,(leafP p).kind,n.toNat,(leafP p).recs⟩).toArray⟩
theorem setlsn_any (p:ByteArray)(n:Int)(hm:p.size≤140737488355328)(w:World):
 Calls Tryz.prog 80 #[p,n] w fun e w'=>e= .returned (.string (lsnB p n))∧Below w.heap.size w w':=by
 have HT:=Hq (fun W=>take_leaf p hm W)
 have hfine:=Pg.leafOf_fine p.data.toList
 cases hb:isPg p with
 |false=>
  rw[show lsnB p n=⟨#[]⟩from if_pos (.inl hb)]
  rw[hb]at HT
  generalize leafP p=x at HT
  clear hfine
  go_enter Tryz.func80,Tryz.ntmps80
  go_wp2_with (go_at_call 109;refine(HT.out _).mono ?_;rintro e w1 ⟨A,c,rfl,hcl,hb1⟩)
  go_ret
  exact⟨rfl,below_past_alloc hb1⟩
 |true=>
  rw[hb]at HT
  by_cases h1:n<0
  ·rw[show lsnB p n=⟨#[]⟩from if_pos (.inr (.inl h1))]
   generalize leafP p=x at HT
   clear hfine
   go_enter Tryz.func80,Tryz.ntmps80
   go_wp2_with (go_at_call 109;refine(HT.out _).mono ?_;rintro e w1 ⟨A,c,rfl,hcl,hb1⟩)
   go_ret
   exact⟨rfl,below_past_alloc hb1⟩
  ·by_cases h2:281474976710656≤n
   ·rw[show lsnB p n=⟨#[]⟩from if_pos (.inr (.inr h2))]
    generalize leafP p=x at HT
    clear hfine
    go_enter Tryz.func80,Tryz.ntmps80
    go_wp2_with (go_at_call 109;refine(HT.out _).mono ?_;rintro e w1 ⟨A,c,rfl,hcl,hb1⟩)
    go_ret
    exact⟨rfl,below_past_alloc hb1⟩
   ·have hnn:((n.toNat:Nat):Int)=n:=by omega
    have hk:n.toNat<281474976710656:=by omega
    rw[show lsnB p n=⟨(Pg.layL ⟨n.toNat,(leafP p).kind,(leafP p).link,(leafP p).recs⟩).toArray⟩ by unfold lsnB;rw[if_neg (by rw[hb];simp;omega)]]
    have h3:(0:Int)≤n:=by omega
    have h4:n<281474976710656:=by omega
    clear h1 h2
    change Pg.Fine (leafP p)at hfine
    generalize leafP p=x at HT hfine ⊢
    have HM:=Hq (fun A c W hW=>made_any ⟨n.toNat,x.kind,x.link,x.recs⟩ A c ⟨hk,hfine.small.2.1,hfine.small.2.2⟩ (by have:=hfine.sizeN;show Pg.sizeN x.recs≤_;omega) W hW)
    clear hfine hk hb
    generalize (⟨(Pg.layL ⟨n.toNat,x.kind,x.link,x.recs⟩).toArray⟩:ByteArray)=q at HM ⊢
    simp only[hnn]at HM
    clear hnn
    go_enter Tryz.func80,Tryz.ntmps80
    go_wp2_with (first|(go_at_call 109;refine(HT.out _).mono ?_;rintro e w1 ⟨A,c,rfl,hcl,hb1⟩)|(go_at_call 128;refine(HM.out A c _ (hcl.cells.below ((Below.refl _ _).alloc (Nat.le_refl _) _))).mono ?_;rintro e w2 ⟨rfl,hb2⟩))
    go_ret
    exact⟨rfl,andThen (below_past_alloc hb1) hb2⟩
theorem setlink_any (p:ByteArray)(n:Int)(hm:p.size≤140737488355328)(w:World):
 Calls Tryz.prog 204 #[p,n] w fun e w'=>e= .returned (.string (linkB p n))∧Below w.heap.size w w':=by
 have HT:=Hq (fun W=>take_leaf p hm W)
 have hfine:=Pg.leafOf_fine p.data.toList
 cases hb:isPg p with
 |false=>
  rw[show linkB p n=⟨#[]⟩from if_pos (.inl hb)]
  rw[hb]at HT
  generalize leafP p=x at HT
  clear hfine
  go_enter Tryz.func204,Tryz.ntmps204
  go_wp2_with (go_at_call 109;refine(HT.out _).mono ?_;rintro e w1 ⟨A,c,rfl,hcl,hb1⟩)
  go_ret
  exact⟨rfl,below_past_alloc hb1⟩
 |true=>
  rw[hb]at HT
  by_cases h1:n<0
  ·rw[show linkB p n=⟨#[]⟩from if_pos (.inr (.inl h1))]
   generalize leafP p=x at HT
   clear hfine
   go_enter Tryz.func204,Tryz.ntmps204
   go_wp2_with (go_at_call 109;refine(HT.out _).mono ?_;rintro e w1 ⟨A,c,rfl,hcl,hb1⟩)
   go_ret
   exact⟨rfl,below_past_alloc hb1⟩
  ·by_cases h2:16777216≤n
   ·rw[show linkB p n=⟨#[]⟩from if_pos (.inr (.inr h2))]
    generalize leafP p=x at HT
    clear hfine
    go_enter Tryz.func204,Tryz.ntmps204
    go_wp2_with (go_at_call 109;refine(HT.out _).mono ?_;rintro e w1 ⟨A,c,rfl,hcl,hb1⟩)
    go_ret
    exact⟨rfl,below_past_alloc hb1⟩
   ·have hnn:((n.toNat:Nat):Int)=n:=by omega
    have hk:n.toNat<16777216:=by omega
    rw[show linkB p n=⟨(Pg.layL ⟨(leafP p).lsn,(leafP p).kind,n.toNat,(leafP p).recs⟩).toArray⟩ by unfold linkB;rw[if_neg (by rw[hb];simp;omega)]]
    have h3:(0:Int)≤n:=by omega
    have h4:n<16777216:=by omega
    clear h1 h2
    change Pg.Fine (leafP p)at hfine
    generalize leafP p=x at HT hfine ⊢
    have HM:=Hq (fun A c W hW=>made_any ⟨x.lsn,x.kind,n.toNat,x.recs⟩ A c ⟨hfine.small.1,hfine.small.2.1,hk⟩ (by have:=hfine.sizeN;show Pg.sizeN x.recs≤_;omega) W hW)
    clear hfine hk hb
    generalize (⟨(Pg.layL ⟨x.lsn,x.kind,n.toNat,x.recs⟩).toArray⟩:ByteArray)=q at HM ⊢
    simp only[hnn]at HM
    clear hnn
    go_enter Tryz.func204,Tryz.ntmps204
    go_wp2_with (first|(go_at_call 109;refine(HT.out _).mono ?_;rintro e w1 ⟨A,c,rfl,hcl,hb1⟩)|(go_at_call 128;refine(HM.out A c _ (hcl.cells.below ((Below.refl _ _).alloc (Nat.le_refl _) _))).mono ?_;rintro e w2 ⟨rfl,hb2⟩))
    go_ret
    exact⟨rfl,andThen (below_past_alloc hb1) hb2⟩
theorem rsetlsn_any (p:ByteArray)(n:Int)(hm:p.size≤140737488355328)(w:World):
 Calls Tryz.prog 12 #[p,n] w fun e w'=>e= .returned (.string (lsnB p n))∧Below w.heap.size w w':=by
 have HT:=Hq (fun W=>rparts_leaf p hm W)
 have hfine:=Pg.leafOf_fine p.data.toList
 cases hb:isPg p with
 |false=>
  rw[show lsnB p n=⟨#[]⟩from if_pos (.inl hb)]
  rw[hb]at HT
  generalize leafP p=x at HT
  clear hfine
  go_enter Tryz.func12,Tryz.ntmps12
  go_wp2_with (go_at_call 43;refine(HT.out _).mono ?_;rintro e w1 ⟨y,A,c,rfl,hcl,hb1⟩)
  go_ret
  exact⟨rfl,below_past_alloc hb1⟩
 |true=>
  rw[hb]at HT
  by_cases h1:n<0
  ·rw[show lsnB p n=⟨#[]⟩from if_pos (.inr (.inl h1))]
   generalize leafP p=x at HT
   clear hfine
   go_enter Tryz.func12,Tryz.ntmps12
   go_wp2_with (go_at_call 43;refine(HT.out _).mono ?_;rintro e w1 ⟨y,A,c,rfl,hcl,hb1⟩)
   go_ret
   exact⟨rfl,below_past_alloc hb1⟩
  ·by_cases h2:281474976710656≤n
   ·rw[show lsnB p n=⟨#[]⟩from if_pos (.inr (.inr h2))]
    generalize leafP p=x at HT
    clear hfine
    go_enter Tryz.func12,Tryz.ntmps12
    go_wp2_with (go_at_call 43;refine(HT.out _).mono ?_;rintro e w1 ⟨y,A,c,rfl,hcl,hb1⟩)
    go_ret
    exact⟨rfl,below_past_alloc hb1⟩
   ·have hnn:((n.toNat:Nat):Int)=n:=by omega
    have hk:n.toNat<281474976710656:=by omega
    rw[show lsnB p n=⟨(Pg.layL ⟨n.toNat,(leafP p).kind,(leafP p).link,(leafP p).recs⟩).toArray⟩ by unfold lsnB;rw[if_neg (by rw[hb];simp;omega)]]
    have h3:(0:Int)≤n:=by omega
    have h4:n<281474976710656:=by omega
    clear h1 h2
    change Pg.Fine (leafP p)at hfine
    generalize leafP p=x at HT hfine ⊢
    have HM:=Hq (fun A c W hW=>rlay_any ⟨n.toNat,x.kind,x.link,x.recs⟩ A c ⟨hk,hfine.small.2.1,hfine.small.2.2⟩ (by have:=hfine.sizeN;show Pg.sizeN x.recs≤_;omega) W hW)
    clear hfine hk hb
    generalize (⟨(Pg.layL ⟨n.toNat,x.kind,x.link,x.recs⟩).toArray⟩:ByteArray)=q at HM ⊢
    simp only[hnn]at HM
    clear hnn
    go_enter Tryz.func12,Tryz.ntmps12
    go_wp2_with (first|(go_at_call 43;refine(HT.out _).mono ?_;rintro e w1 ⟨y,A,c,rfl,hcl,hb1⟩;obtain⟨hy,hco⟩:=hcl rfl;clear hcl;subst hy)|(go_at_call 31;refine(HM.out _ _ _ ((hco.cells).below ((Below.refl _ _).alloc (Nat.le_refl _) _))).mono ?_;rintro e w2 ⟨rfl,hb2⟩))
    go_ret
    exact⟨rfl,andThen (below_past_alloc hb1) hb2⟩
theorem rsetlink_any (p:ByteArray)(n:Int)(hm:p.size≤140737488355328)(w:World):
 Calls Tryz.prog 96 #[p,n] w fun e w'=>e= .returned (.string (linkB p n))∧Below w.heap.size w w':=by
 have HT:=Hq (fun W=>rparts_leaf p hm W)
 have hfine:=Pg.leafOf_fine p.data.toList
 cases hb:isPg p with
 |false=>
  rw[show linkB p n=⟨#[]⟩from if_pos (.inl hb)]
  rw[hb]at HT
  generalize leafP p=x at HT
  clear hfine
  go_enter Tryz.func96,Tryz.ntmps96
  go_wp2_with (go_at_call 43;refine(HT.out _).mono ?_;rintro e w1 ⟨y,A,c,rfl,hcl,hb1⟩)
  go_ret
  exact⟨rfl,below_past_alloc hb1⟩
 |true=>
  rw[hb]at HT
  by_cases h1:n<0
  ·rw[show linkB p n=⟨#[]⟩from if_pos (.inr (.inl h1))]
   generalize leafP p=x at HT
   clear hfine
   go_enter Tryz.func96,Tryz.ntmps96
   go_wp2_with (go_at_call 43;refine(HT.out _).mono ?_;rintro e w1 ⟨y,A,c,rfl,hcl,hb1⟩)
   go_ret
   exact⟨rfl,below_past_alloc hb1⟩
  ·by_cases h2:16777216≤n
   ·rw[show linkB p n=⟨#[]⟩from if_pos (.inr (.inr h2))]
    generalize leafP p=x at HT
    clear hfine
    go_enter Tryz.func96,Tryz.ntmps96
    go_wp2_with (go_at_call 43;refine(HT.out _).mono ?_;rintro e w1 ⟨y,A,c,rfl,hcl,hb1⟩)
    go_ret
    exact⟨rfl,below_past_alloc hb1⟩
   ·have hnn:((n.toNat:Nat):Int)=n:=by omega
    have hk:n.toNat<16777216:=by omega
    rw[show linkB p n=⟨(Pg.layL ⟨(leafP p).lsn,(leafP p).kind,n.toNat,(leafP p).recs⟩).toArray⟩ by unfold linkB;rw[if_neg (by rw[hb];simp;omega)]]
    have h3:(0:Int)≤n:=by omega
    have h4:n<16777216:=by omega
    clear h1 h2
    change Pg.Fine (leafP p)at hfine
    generalize leafP p=x at HT hfine ⊢
    have HM:=Hq (fun A c W hW=>rlay_any ⟨x.lsn,x.kind,n.toNat,x.recs⟩ A c ⟨hfine.small.1,hfine.small.2.1,hk⟩ (by have:=hfine.sizeN;show Pg.sizeN x.recs≤_;omega) W hW)
    clear hfine hk hb
    generalize (⟨(Pg.layL ⟨x.lsn,x.kind,n.toNat,x.recs⟩).toArray⟩:ByteArray)=q at HM ⊢
    simp only[hnn]at HM
    clear hnn
    go_enter Tryz.func96,Tryz.ntmps96
    go_wp2_with (first|(go_at_call 43;refine(HT.out _).mono ?_;rintro e w1 ⟨y,A,c,rfl,hcl,hb1⟩;obtain⟨hy,hco⟩:=hcl rfl;clear hcl;subst hy)|(go_at_call 31;refine(HM.out _ _ _ ((hco.cells).below ((Below.refl _ _).alloc (Nat.le_refl _) _))).mono ?_;rintro e w2 ⟨rfl,hb2⟩))
    go_ret
    exact⟨rfl,andThen (below_past_alloc hb1) hb2⟩
def sealT (t:ByteArray):ByteArray:=Oct.putB (Oct.sumN t.data.toList:Nat) 4++t
def sealB (p:ByteArray):ByteArray:=if isPg p then sealT (p.extract 4 512)else⟨#[]⟩
theorem isPg_size {p:ByteArray}(h:isPg p=true):p.size=512:=by
 unfold isPg at h
 cases hr:Pg.right p.data.toList with
 |none=>rw[hr]at h;cases h
 |some x=>
  have:=(Pg.right_fine hr).2
  have h9:p.data.toList.length=p.size:=(by simp)
  omega
theorem oseal_any (t:ByteArray)(hm:t.size≤1048576)(w:World):
 Calls Tryz.prog 181 #[t] w fun e w'=>e= .returned (.string (sealT t))∧Below w.heap.size w w':=by
 have HS:=Hq (fun W=>sum_any t (by omega) W)
 unfold sealT
 generalize Oct.sumN t.data.toList=n at HS ⊢
 have hz:(Oct.putB (n:Int) 4).size=4:=Oct.putB_size _ 4 (by omega)
 have HP:=Hq (fun W=>put_any (n:Int) 4 (by omega) (by omega) W)
 generalize Oct.putB (n:Int) 4=q at HP hz ⊢
 have hadd:∀ W:World,(Op.stringOp .add q t).run Tryz.prog W= .ok (.string (q++t)) W:=fun W=>run_string_add_sum W _ _ (by omega)
 go_enter Tryz.func181,Tryz.ntmps181
 go_wp2_with (first|(go_at_call 215;refine(HS.out _).mono ?_;rintro e w1 ⟨rfl,rfl⟩)|(go_at_call 153;refine(HP.out _).mono ?_;rintro e w2 ⟨rfl,hb⟩))
 go_ret
 exact⟨rfl,hb⟩
theorem pseal_any (p:ByteArray)(hm:p.size≤140737488355328)(w:World):
 Calls Tryz.prog 132 #[p] w fun e w'=>e= .returned (.string (sealB p))∧Below w.heap.size w w':=by
 have HT:=Hq (fun W=>right_any p hm W)
 unfold sealB
 cases hb:isPg p with
 |false=>
  rw[hb]at HT
  clear hb
  go_enter Tryz.func132,Tryz.ntmps132
  go_wp2_with (go_at_call 136;refine(HT.out _).mono ?_;rintro e w1 ⟨rfl,hb1⟩)
  go_ret
  exact⟨rfl,hb1⟩
 |true=>
  have h512:=isPg_size hb
  have HS:=Hq (fun W=>oseal_any (p.extract 4 512) (by simp;omega) W)
  rw[hb]at HT
  clear hb
  go_enter Tryz.func132,Tryz.ntmps132
  go_wp2_with (first|(go_at_call 136;refine(HT.out _).mono ?_;rintro e w1 ⟨rfl,hb1⟩)|(go_at_call 181;refine(HS.out _).mono ?_;rintro e w2 ⟨rfl,hb2⟩))
  go_ret
  exact⟨rfl,andThen hb1 hb2⟩
def sealedP (p:ByteArray):Bool:=isPg p&&decide (sealT (p.extract 4 512)=p)
theorem str_eq (a b:ByteArray):(a.toList==b.toList)=decide (a=b):=by
 rw[ByteArray.toList_eq,ByteArray.toList_eq,Bool.beq_eq_decide_eq]
 by_cases h:a=b
 ·simp[h]
 ·have h1:a.data.toList≠b.data.toList:=fun e=>h (ByteArray.ext (Array.toList_inj.1 e))
  simp[h,h1]
theorem sealed_any (p:ByteArray)(hm:p.size≤140737488355328)(w:World):
 Calls Tryz.prog 146 #[p] w fun e w'=>e= .returned (.bool (sealedP p))∧Below w.heap.size w w':=by
 have HT:=Hq (fun W=>right_any p hm W)
 unfold sealedP
 cases hb:isPg p with
 |false=>
  rw[hb]at HT
  clear hb
  go_enter Tryz.func146,Tryz.ntmps146
  go_wp2_with (go_at_call 136;refine(HT.out _).mono ?_;rintro e w1 ⟨rfl,hb1⟩)
  go_ret
  exact⟨rfl,hb1⟩
 |true=>
  have h512:=isPg_size hb
  have HS:=Hq (fun W=>oseal_any (p.extract 4 512) (by simp;omega) W)
  have hc:=str_eq (sealT (p.extract 4 512)) p
  generalize sealT (p.extract 4 512)=q at HS hc ⊢
  generalize decide (q=p)=b at hc ⊢
  rw[hb]at HT
  clear hb
  go_enter Tryz.func146,Tryz.ntmps146
  go_wp2_with (first|(go_at_call 136;refine(HT.out _).mono ?_;rintro e w1 ⟨rfl,hb1⟩)|(go_at_call 181;refine(HS.out _).mono ?_;rintro e w2 ⟨rfl,hb2⟩))
  go_ret
  exact⟨by simp,andThen hb1 hb2⟩
abbrev OwnT (B:Nat)(w:World)(v:Value)(rs:List ByteArray):Prop:=w.ownsRow B 9 1 v rs.length (rs.map Value.string)
theorem OwnT.nil (B:Nat)(w:World):OwnT B w (.slice none 0 0) []:=⟨rfl,.inl ⟨rfl,rfl⟩⟩
theorem OwnT.below {B:Nat}{w w':World}{v:Value}{rs:List ByteArray}(h:OwnT B w v rs)(hb:Below w.heap.size w w'):OwnT B w' v rs:=ownsRow_below h hb
theorem OwnT.form {B:Nat}{w:World}{v:Value}{rs:List ByteArray}(h:OwnT B w v rs):∃ A c,v= .slice A rs.length c∧OwnCells B w A c rs∧Cells w A c rs:=by
 obtain⟨A,c,rfl⟩:∃ A c,v= .slice A rs.length c:=by
  rcases h.2 with⟨hv,hz⟩|⟨g,cap,cur,hv,_⟩
  ·exact⟨none,0,by rw[hv,hz]⟩
  ·exact⟨_,_,hv⟩
 have h1:=own_cells h rfl
 exact⟨A,c,rfl,h1,h1.cells⟩
theorem OwnT.block {B:Nat}{w:World}{v:Value}{rs:List ByteArray}(h:OwnT B w v rs):∀ k,v.ownBlock=some k→B≤k:=fun k hk=>(h.lt k hk).1
theorem wpList_app {ops:Array Oper}{rest:List Oper}{o:Oper}{a:Act}{Q:Exit→Act→World→Prop}(w:World)(hgd:o.guard=none)(s x:Operand)
 (ho:o.op= .call {callee:=.builtin .append,args:=#[s,x],argTypes:=#[26,26]})
 (B:Nat) (v:Value) (xs:List ByteArray) (hs:a.eval s=v) (hown:OwnT B w v xs) (A:Option Addr) (c:Nat) (ys:List ByteArray) (hx:a.eval x= .slice A ys.length c) (hy:Cells w A c ys)
 (hlen:xs.length+ys.length≤1048576) (hbase:B≤w.heap.size)
 (h:∀ v' w',OwnT B w' v' (xs++ys)→w.grownBy w' v.ownBlock→Below B w w'→wpList Tryz.prog ops Q rest (a.put o.dst v') w'):wpList Tryz.prog ops Q (o::rest) a w:=by
 obtain⟨i0,hi,hz0,hz1,hz2⟩:=info_parts pinfo_string
 have hB:∀ w':World,w.grownBy w' v.ownBlock→Below B w w':=fun w' hg=>(Below.refl _ _).grown hg hbase hown.block
 rcases A with _|ad
 ·have hn:ys=[]:=by
   rcases Nat.eq_zero_or_pos ys.length with h0|h0
   ·exact List.eq_nil_of_length_eq_zero h0
   ·obtain⟨b,off,e,_⟩:=hy h0
    cases e
  subst hn
  refine wpList_plain hgd fun K hK=>?_
  have hrun:(Builtin.append_ #[26,26] o.type #[v,.slice none 0 c]).run Tryz.prog w= .ok v w:=by
   rcases hown.2 with⟨rfl,hz⟩|⟨g,cap,cur,rfl,_,_,hnc,_⟩
   ·simp[Builtin.append_,run_underlying Tryz.underlying26,sizeOf,typeInfo,hi,Builtin.lenOf,Builtin.firstCells]
   ·simp[Builtin.append_,run_underlying Tryz.underlying26,sizeOf,typeInfo,hi,Builtin.lenOf,Builtin.firstCells,hnc,storeCells]
  unfold Oper.wp execOp
  have hx':a.eval x= .slice none 0 c:=hx
  simp only[ho,resolve,invoke,builtin,Sem.run_bind,Sem.run_pure,Result.andThen_ok,List.map_toArray,List.map_cons,List.map_nil,hs,hx',hrun]
  exact hK _ _ (h v w (by simpa using hown) (World.grownBy.refl w _) (Below.refl _ _))
 ·refine wpList_append_own w hgd s x _ ho B 9 i0 (.string ⟨#[]⟩) 1 16 Tryz.underlying26 hi hz0 hz1 hz2 rfl (by omega) v xs.length (xs.map Value.string) hs hown ad ys.length c (ys.map Value.string) hx (by simp) ?_ ?_ (by simp only[maxLen];omega) (by omega) hbase ?_
  ·intro j u hu
   rw[List.getElem?_map]at hu
   obtain⟨r,hr,rfl⟩:=Option.map_eq_some_iff.1 hu
   obtain⟨hj,rfl⟩:=List.getElem?_eq_some_iff.1 hr
   obtain⟨b,off,e,_,_,hcell⟩:=hy (by omega)
   injection e with e
   subst e
   rw[show(⟨b,off,none⟩:Addr).add j=⟨b,off+j,none⟩from Addr.add_mid b off j]
   exact hcell j hj
  ·intro u hu
   obtain⟨r,_,rfl⟩:=List.mem_map.1 hu
   rfl
  ·intro v' w' h1 h2 _
   exact h v' w' (by unfold OwnT;rw[List.length_append,List.map_append];exact h1) h2 (hB w' h2)
theorem wpList_appN {ops:Array Oper}{rest:List Oper}{o:Oper}{a:Act}{Q:Exit→Act→World→Prop}(w:World)(hgd:o.guard=none)(s x:Operand)
 (ho:o.op= .call {callee:=.builtin .append,args:=#[s,x],argTypes:=#[26,26]})
 (B:Nat) (v:Value) (xs:List ByteArray) (hs:a.eval s=v) (hown:OwnT B w v xs) (A:Option Addr) (m c:Nat) (ys:List ByteArray) (hm:ys.length=m) (hx:a.eval x= .slice A m c) (hy:Cells w A c ys)
 (hlen:xs.length+m≤1048576) (hbase:B≤w.heap.size)
 (h:∀ v' w',OwnT B w' v' (xs++ys)→w.grownBy w' v.ownBlock→Below B w w'→wpList Tryz.prog ops Q rest (a.put o.dst v') w'):wpList Tryz.prog ops Q (o::rest) a w:=by
 subst hm
 exact wpList_app w hgd s x ho B v xs hs hown A c ys hx hy hlen hbase h
theorem Cells.take_ {w:World}{A:Option Addr}{c:Nat}{rs:List ByteArray}(h:Cells w A c rs)(m:Nat):Cells w A c (rs.take m):=fun h0=>by
 rw[List.length_take]at h0
 obtain⟨b,off,hA,hc,hlt,hcell⟩:=h (by omega)
 refine⟨b,off,hA,by rw[List.length_take];omega,hlt,fun j hj=>?_⟩
 rw[List.length_take]at hj
 rw[List.getElem_take]
 exact hcell j (by omega)
theorem Cells.drop_ {w:World}{b off c:Nat}{rs:List ByteArray}(h:Cells w (some ⟨b,off,none⟩) c rs)(m:Nat):Cells w (some ⟨b,off+m,none⟩) (c-m) (rs.drop m):=fun h0=>by
 rw[List.length_drop]at h0
 obtain⟨b',off',hA,hc,hlt,hcell⟩:=h (by omega)
 injection hA with hA
 injection hA with hA1 hA2
 subst hA1
 subst hA2
 refine⟨b,off+m,rfl,by rw[List.length_drop];omega,hlt,fun j hj=>?_⟩
 rw[List.length_drop]at hj
 rw[List.getElem_drop,Nat.add_assoc]
 exact hcell (m+j) (by omega)
theorem Cells.nil_ (w:World)(A:Option Addr)(c:Nat){rs:List ByteArray}(h:rs.length=0):Cells w A c rs:=fun h0=>by omega
end Go.Proofs.YtmfkhdhnbkambaaGreatDoor
namespace Pg
def putAt (rs:List ByteArray)(k:Nat)(r:ByteArray):List ByteArray:=(rs++List.replicate (k+1-rs.length) (⟨#[]⟩:ByteArray)).set k r
def upTo (rs:List ByteArray)(k:Nat):List ByteArray:=rs++List.replicate k (⟨#[]⟩:ByteArray)
theorem upTo_length (rs:List ByteArray)(k:Nat):(upTo rs k).length=rs.length+k:=by simp[upTo]
theorem upTo_succ (rs:List ByteArray)(k:Nat):upTo rs (k+1)=upTo rs k++[⟨#[]⟩]:=by
 unfold upTo
 rw[List.replicate_succ',List.append_assoc]
end Pg
namespace Go.Proofs.YtmfkhdhnbkambaaGreatDoor
open Go.RowKit
theorem cells_one (w:World)(r:ByteArray):Cells (w.alloc (.cells #[r] 9)) (some ⟨w.heap.size,0,none⟩) 1 [r]:=fun _=>by
 refine⟨w.heap.size,0,rfl,Nat.le_refl _,by simp,fun j hj=>?_⟩
 obtain rfl:j=0:=by simpa using hj
 rw[cell_of_row _ _ _ _ _ _ (heap_alloc_new w (.cells #[r] 9))];rfl
theorem own_some {B:Nat}{w:World}{v:Value}{rs:List ByteArray}(h:OwnT B w v rs)(h0:0<rs.length):∃ g c,v= .slice (some ⟨g,0,none⟩) rs.length c∧B≤g∧rs.length≤c∧g<w.heap.size∧(∀ j (hj:j<rs.length),w.cell? ⟨g,j,none⟩=some (.string rs[j]))∧(∀ j,w.frozen? ⟨g,j,none⟩=false):=by
 obtain⟨A,c,rfl,ho,-⟩:=h.form
 obtain⟨g,rfl,h1,h2,h3,h4⟩:=ho h0
 exact⟨g,c,rfl,h1,h2,h3,h4,fun j=>h.frozenAt j⟩
theorem own_stored {B:Nat}{w:World}{g c:Nat}{rs:List ByteArray}(h:OwnT B w (.slice (some ⟨g,0,none⟩) rs.length c) rs)(k:Nat)(r:ByteArray):OwnT B (w.setCell ⟨g,k,none⟩ (.string r)) (.slice (some ⟨g,0,none⟩) (rs.set k r).length c) (rs.set k r):=by
 have h1:=(h.stored k (.string r)).1
 unfold OwnT
 rw[List.length_set,List.map_set]
 exact h1
def lenV (v:Value):Nat:=match v with| .slice _ n _=>n|_=>0
theorem with_any (x:Pg.Leaf)(A:Option Addr)(c k:Nat)(r:ByteArray)(hl:x.recs.length≤4096)(hk:k≤4096)(w:World)(h:Cells w A c x.recs):
 Calls Tryz.prog 119 #[leafV x A c,.int .i64 (k:Int),r] w fun e w'=>∃ A' c',e= .returned (leafV {x with recs:=Pg.putAt x.recs k r} A' c')∧OwnCells w.heap.size w' A' c' (Pg.putAt x.recs k r)∧Below w.heap.size w w':=by
 go_enter Tryz.func119,Tryz.ntmps119
 go_wp2_with (at_builtin;refine wpList_app _ rfl _ _ rfl (w.heap.size+2) (.slice none 0 0) [] rfl (OwnT.nil _ _) A c x.recs rfl ((h.below ((Below.refl _ _).alloc (Nat.le_refl _) _)).below ((Below.refl _ _).alloc (Nat.le_refl _) _)) (by simp;omega) (by simp) ?_;intro v1 w1 hown1 hg1 hb1)
 rw[List.nil_append]at hown1
 have hsz1:w.heap.size+2≤w1.heap.size:=by have:=hb1.size;simp at this;omega
 have hX1:w1.heap[w.heap.size]? =some (.cells #[x.lsn,x.kind,x.link,.slice A x.recs.length c] 151 (0,0)):=by
  rw[hb1.block _ (by omega),Below.heap_alloc _ _ _ (by simp)];exact heap_alloc_new w _
 have hY1:w1.heap[w.heap.size+1]? =some (.cells #[(),(),(),"s"] 151 (0,0)):=by
  rw[hb1.block _ (by omega)]
  have:=heap_alloc_new (w.alloc (.cells #[x.lsn,x.kind,x.link,.slice A x.recs.length c] 151)) (.cells #[(),(),(),"s"] 151)
  simpa using this
 have hbw:Below w.heap.size w w1:=(((Below.refl _ _).alloc (Nat.le_refl _) _).alloc (by simp) _).trans (hb1.mono (by omega))
 have HX:=Hq hX1
 have HY:=Hq hY1
 have HBW:=Hq hbw
 have HC:=Hq h
 clear hX1 hY1 hbw hb1 hg1 h
 go_loopw [7] (fun v wr=>∃ j,j≤k+1-x.recs.length∧OwnT (w.heap.size+2) wr v (Pg.upTo x.recs j)∧Below (w.heap.size+2) w1 wr) (fun v _=>8193-lenV v)
 case atStart=>exact⟨0,Nat.zero_le _,by simpa[Pg.upTo]using hown1,Below.refl _ _⟩
 case round=>
  obtain⟨j,hj,hown,hb⟩:=hrel
  have hwr:=hb.size
  have hln:=Pg.upTo_length x.recs j
  have HS:=Hq (Pg.upTo_succ x.recs j)
  obtain⟨L,hL⟩:=ex (Pg.upTo x.recs j)
  rw[← hL]at hown hln HS
  have HL:=Hq hL
  have HLN:=Hq hln
  clear hL
  obtain⟨Av,cv,rfl,hoc,-⟩:=hown.form
  by_cases hlt:L.length≤k
  ·have hj2:j+1≤k+1-x.recs.length:=by omega
   clear hln hoc
   go_wp2_with (at_builtin;refine wpList_app _ rfl _ _ rfl (w.heap.size+2) _ L rfl (hown.below ((Below.refl _ _).alloc (Nat.le_refl _) _)) _ 1 [⟨#[]⟩] rfl (cells_one wr _) (by simp;omega) (by simp;omega) ?_;intro v2 w2 hown2 hg2 hb2)
   have hb3:Below (w.heap.size+2) w1 w2:=hb.trans (((Below.refl _ _).alloc (by omega) _).trans hb2)
   rw[← HS.out]at hown2
   have hf:∃ A' c',v2= .slice A' (L.length+1) c':=by
    obtain⟨A',c',rfl,-⟩:=hown2.form
    exact⟨A',c',by rw[HS.out,List.length_append];rfl⟩
   obtain⟨A',c',rfl⟩:=hf
   clear hg2
   go_roundw
   case rel=>exact⟨j+1,hj2,hown2,hb3⟩
   case measure=>simp[lenV];omega
  ·have hj3:j=k+1-x.recs.length:=by omega
   have hkl:k<L.length:=by omega
   obtain⟨g,cv',hv,hg,hcv,hgl,hcell,hfz⟩:=own_some hown (by omega)
   injection hv with hA hn hcc
   subst hA
   subst hcc
   have hck:=hcell k hkl
   have hfk:=hfz k
   have hst:=own_stored hown k r
   have hset:L.set k r=Pg.putAt x.recs k r:=by rw[HL.out,hj3];rfl
   rw[hset]at hst
   have HST:=Hq hst
   have hLl:(Pg.putAt x.recs k r).length=L.length:=by rw[← hset,List.length_set]
   have HSE:=Hq hLl
   obtain⟨x0,x1,x2,x3,f0,f1,f2,f3⟩:=blk4 ((hb.block _ (by omega)).trans HX.out)
   obtain⟨y0,y1,y2,y3,k0,k1,k2,k3⟩:=blk4 ((hb.block _ (by omega)).trans HY.out)
   have hb4:Below w.heap.size w wr:=HBW.out.trans (hb.mono (by omega))
   have hk0:(0:Int)≤(k:Int):=by omega
   have hk1:(k:Int)<(L.length:Int):=by omega
   clear hcell hfz hst hset hLl hj3 hln hoc
   go_wp2_with fail
   have hne1:g≠w.heap.size+1:=by omega
   have hne2:g≠w.heap.size:=by omega
   refine bodyPost_ret (v:=.agg #[x.lsn,x.kind,x.link,.slice (some ⟨g,0,none⟩) L.length cv]) (by simp[results,Tryz.results119,go_sem,y0,y1,y2,y3]) rfl ?_
   refine⟨some ⟨g,0,none⟩,cv,by rw[← HSE.out],?_,?_⟩
   ·have ho:=own_cells HST.out rfl
    refine OwnCells.mono (B:=w.heap.size+2) ?_ (by omega)
    repeat (first|(with_reducible exact ho)|(with_reducible refine OwnCells.set ?_ _ (by simp;done) _))
   ·repeat (first|(with_reducible exact hb4)|(with_reducible refine Below.setCell ?_ (by first|(simp;done)|(show w.heap.size≤g;omega)) _))
theorem rwith_far (A:Option Addr)(c n:Nat)(i:Int)(r:ByteArray)(h:512<i)(w:World):
 Calls Tryz.prog 140 #[.slice A n c,i,r] w fun e w'=>e= .returned (.tuple #["s",false])∧w=w':=by
 go_enter Tryz.func140,Tryz.ntmps140
 go_wp2_with fail
 go_ret2
 exact⟨rfl,rfl⟩
theorem prwith_any (rs:List ByteArray)(A:Option Addr)(c k:Nat)(r:ByteArray)(hl:rs.length≤4096)(hk:k≤512)(w:World)(h:Cells w A c rs):
 Calls Tryz.prog 140 #[.slice A rs.length c,.int .i64 (k:Int),r] w fun e w'=>∃ A' c',e= .returned (.tuple #[.slice A' (Pg.putAt rs k r).length c',true])∧OwnCells w.heap.size w' A' c' (Pg.putAt rs k r)∧Below w.heap.size w w':=by
 have hk5:(k:Int)≤512:=by omega
 go_enter Tryz.func140,Tryz.ntmps140
 go_wp2_with (at_builtin;refine wpList_app _ rfl _ _ rfl w.heap.size (.slice none 0 0) [] rfl (OwnT.nil _ _) A c rs rfl h (by simp;omega) (Nat.le_refl _) ?_;intro v1 w1 hown1 hg1 hb1)
 rw[List.nil_append]at hown1
 have HC:=Hq h
 have HB:=Hq hb1
 clear hg1 h hk5 hb1
 go_loopw [8] (fun v wr=>∃ j,j≤k+1-rs.length∧OwnT w.heap.size wr v (Pg.upTo rs j)∧Below w.heap.size w wr) (fun v _=>8193-lenV v)
 case atStart=>exact⟨0,Nat.zero_le _,by simpa[Pg.upTo]using hown1,HB.out⟩
 case round=>
  obtain⟨j,hj,hown,hb⟩:=hrel
  have hwr:=hb.size
  have hln:=Pg.upTo_length rs j
  have HS:=Hq (Pg.upTo_succ rs j)
  obtain⟨L,hL⟩:=ex (Pg.upTo rs j)
  rw[← hL]at hown hln HS
  have HL:=Hq hL
  have HLN:=Hq hln
  clear hL
  obtain⟨Av,cv,rfl,hoc,-⟩:=hown.form
  by_cases hlt:L.length≤k
  ·have hj2:j+1≤k+1-rs.length:=by omega
   clear hln hoc
   go_wp2_with (at_builtin;refine wpList_app _ rfl _ _ rfl w.heap.size _ L rfl (hown.below ((Below.refl _ _).alloc (Nat.le_refl _) _)) _ 1 [⟨#[]⟩] rfl (cells_one wr _) (by simp;omega) (by simp;omega) ?_;intro v2 w2 hown2 hg2 hb2)
   have hb3:Below w.heap.size w w2:=hb.trans (((Below.refl _ _).alloc (by omega) _).trans hb2)
   rw[← HS.out]at hown2
   have hf:∃ A' c',v2= .slice A' (L.length+1) c':=by
    obtain⟨A',c',rfl,-⟩:=hown2.form
    exact⟨A',c',by rw[HS.out,List.length_append];rfl⟩
   obtain⟨A',c',rfl⟩:=hf
   clear hg2
   go_roundw
   case rel=>exact⟨j+1,hj2,hown2,hb3⟩
   case measure=>simp[lenV];omega
  ·have hj3:j=k+1-rs.length:=by omega
   have hkl:k<L.length:=by omega
   obtain⟨g,cv',hv,hg,hcv,hgl,hcell,hfz⟩:=own_some hown (by omega)
   injection hv with hA hn hcc
   subst hA
   subst hcc
   have hck:=hcell k hkl
   have hfk:=hfz k
   have hst:=own_stored hown k r
   have hset:L.set k r=Pg.putAt rs k r:=by rw[HL.out,hj3];rfl
   rw[hset]at hst
   have HST:=Hq hst
   have hLl:(Pg.putAt rs k r).length=L.length:=by rw[← hset,List.length_set]
   have HSE:=Hq hLl
   have hk0:(0:Int)≤(k:Int):=by omega
   have hk1:(k:Int)<(L.length:Int):=by omega
   clear hcell hfz hst hset hLl hj3 hln hoc
   go_wp2_with fail
   go_ret2
   exact⟨some ⟨g,0,none⟩,cv,(by rw[HSE.out];rfl),own_cells HST.out rfl,hb.setCell hg _⟩
end Go.Proofs.YtmfkhdhnbkambaaGreatDoor
namespace Pg
theorem sizeN_trim (rs:List ByteArray):sizeN (trim rs)≤sizeN rs:=by
 unfold sizeN trim
 have:=sumSizes_take_le rs (trimN rs rs.length)
 have:=List.length_take_le (trimN rs rs.length) rs
 have:(rs.take (trimN rs rs.length)).length≤rs.length:=by rw[List.length_take];omega
 omega
theorem layL_nil {x:Leaf}(h:512<sizeN (trim x.recs)):layL x=[]:=by unfold layL layR;rw[if_pos h]
theorem layL_length {x:Leaf}(h:sizeN (trim x.recs)≤512):(layL x).length=512:=layR_length x _ (by omega)
theorem layL_nil_iff (x:Leaf):layL x=[]↔512<sizeN (trim x.recs):=by
 constructor
 ·intro h
  rcases Nat.lt_or_ge 512 (sizeN (trim x.recs))with h1|h1
  ·exact h1
  ·have:=layL_length h1;rw[h]at this;cases this
 ·exact layL_nil
def fullO (x:Leaf):ByteArray×Int:=if layL x=[]then(⟨#[]⟩,18)else(⟨(layL x).toArray⟩,0)
theorem fullO_yes {x:Leaf}(h:sizeN (trim x.recs)≤512):fullO x=(⟨(layL x).toArray⟩,0):=by
 unfold fullO;rw[if_neg];rw[layL_nil_iff];omega
theorem fullO_no {x:Leaf}(h:512<sizeN (trim x.recs)):fullO x=(⟨#[]⟩,18):=by
 unfold fullO;rw[if_pos ((layL_nil_iff x).2 h)]
end Pg
namespace Go.Proofs.YtmfkhdhnbkambaaGreatDoor
open Go.RowKit
abbrev outV (o:ByteArray×Int):Value:=.tuple #[o.1,o.2]
theorem full_any (x:Pg.Leaf)(A:Option Addr)(c:Nat)(hx:Pg.Small x)(hb:Pg.sizeN x.recs≤1099511627776)(w:World)(h:Cells w A c x.recs):
 Calls Tryz.prog 118 #[leafV x A c] w fun e w'=>e= .returned (outV (Pg.fullO x))∧Below w.heap.size w w':=by
 have HM:=Hq (made_any x A c hx hb _ (h.below ((Below.refl w.heap.size w).alloc (Nat.le_refl _) (.cells #[x.lsn,x.kind,x.link,.slice A x.recs.length c] 151 (0,0)))))
 clear h
 unfold Pg.fullO
 by_cases h0:Pg.layL x=[]
 ·rw[if_pos h0]
  rw[h0]at HM
  clear h0
  go_enter Tryz.func118,Tryz.ntmps118
  go_wp2_with (go_at_call 128;refine(HM.out).mono ?_;rintro e w1 ⟨rfl,hb1⟩)
  go_ret2
  exact⟨rfl,below_past hb1⟩
 ·rw[if_neg h0]
  obtain⟨q,hq⟩:=ex (⟨(Pg.layL x).toArray⟩:ByteArray)
  rw[← hq]at HM ⊢
  have hie:q.toList.isEmpty=false:=by
   rw[empty_iff,hq]
   refine decide_eq_false fun h1=>h0 ?_
   have h2:(Pg.layL x).toArray.size=0:=h1
   simpa using h2
  have hl:q.toList=Pg.layL x:=by rw[ByteArray.toList_eq,hq]
  have hne:¬ q.toList=[]:=by rw[hl];exact h0
  clear h0 hq hl
  go_enter Tryz.func118,Tryz.ntmps118
  go_wp2_with (go_at_call 128;refine(HM.out).mono ?_;rintro e w1 ⟨rfl,hb1⟩)
  go_ret2
  exact⟨rfl,below_past hb1⟩
theorem laid_any (x:Pg.Leaf)(A:Option Addr)(c:Nat)(hx:Pg.Small x)(hb:Pg.sizeN x.recs≤1099511627776)(ht:Pg.sizeN x.recs≤512∨Pg.trim x.recs=x.recs)(w:World)(h:Cells w A c x.recs):
 Calls Tryz.prog 141 #[leafV x A c] w fun e w'=>e= .returned (outV (Pg.fullO x))∧Below w.heap.size w w':=by
 have HL:=Hq (fun W hW=>rlay_any x A c hx hb W hW)
 have HC:=Hq (h.below ((Below.refl w.heap.size w).alloc (Nat.le_refl _) (.cells #[x.lsn,x.kind,x.link,.slice A x.recs.length c] 95 (0,0))))
 clear h
 by_cases h5:Pg.sizeN x.recs≤512
 ·rw[Pg.fullO_yes (Nat.le_trans (Pg.sizeN_trim _) h5)]
  have HF:=Hq (fun W hW=>rfits_is x A c x.recs hb true (decide_eq_true h5) W hW)
  clear h5 hb ht
  generalize (⟨(Pg.layL x).toArray⟩:ByteArray)=q at HL ⊢
  go_enter Tryz.func141,Tryz.ntmps141
  go_wp2_with (first|(go_at_call 72;refine(HF.out _ HC.out).mono ?_;rintro e w1 ⟨rfl,hb1⟩;obtain⟨c0,c1,c2,c3,f0,f1,f2,f3⟩:=blk4 (blk_new hb1))|(go_at_call 31;refine(HL.out _ (HC.out.below hb1)).mono ?_;rintro e w2 ⟨rfl,hb2⟩))
  go_ret2
  exact⟨rfl,andThen (below_past hb1) hb2⟩
 ·have ht2:Pg.trim x.recs=x.recs:=by rcases ht with h|h;exact absurd h h5;exact h
  rw[Pg.fullO_no (by rw[ht2];omega)]
  have HF:=Hq (fun W hW=>rfits_is x A c x.recs hb false (decide_eq_false h5) W hW)
  clear h5 hb ht ht2
  go_enter Tryz.func141,Tryz.ntmps141
  go_wp2_with (first|(go_at_call 72;refine(HF.out _ HC.out).mono ?_;rintro e w1 ⟨rfl,hb1⟩))
  go_ret2
  exact⟨rfl,below_past hb1⟩
end Go.Proofs.YtmfkhdhnbkambaaGreatDoor
namespace Pg
theorem sumSizes_replicate (n:Nat):sumSizes (List.replicate n (⟨#[]⟩:ByteArray))=0:=by
 induction n with
 |zero=>rfl
 |succ n ih=>rw[List.replicate_succ,sumSizes,ih];rfl
theorem sumSizes_set (rs:List ByteArray)(k:Nat)(r:ByteArray)(h:k<rs.length):sumSizes (rs.set k r)+rs[k].size=sumSizes rs+r.size:=by
 have h1:=sumSizes_split rs k h
 rw[List.set_eq_take_append_cons_drop,if_pos h,sumSizes_append,sumSizes]
 omega
theorem putAt_length (rs:List ByteArray)(k:Nat)(r:ByteArray):(putAt rs k r).length=max rs.length (k+1):=by
 unfold putAt
 simp
 omega
theorem putAt_sum (rs:List ByteArray)(k:Nat)(r:ByteArray):sumSizes (putAt rs k r)≤sumSizes rs+r.size:=by
 unfold putAt
 have h:k<(rs++List.replicate (k+1-rs.length) (⟨#[]⟩:ByteArray)).length:=by simp;omega
 have h1:=sumSizes_set _ k r h
 rw[sumSizes_append,sumSizes_replicate]at h1
 omega
theorem putAt_mem {rs:List ByteArray}{k:Nat}{r:ByteArray}{m:Nat}(he:∀ r∈rs,r.size≤m)(hr:r.size≤m):∀ q∈putAt rs k r,q.size≤m:=by
 intro q hq
 unfold putAt at hq
 rcases List.mem_or_eq_of_mem_set hq with h|h
 ·rw[List.mem_append]at h
  rcases h with h|h
  ·exact he q h
  ·rw[(List.mem_replicate.1 h).2];exact Nat.zero_le _
 ·rw[h];exact hr
theorem putAt_get (rs:List ByteArray)(k:Nat)(r:ByteArray)(j:Nat):((putAt rs k r)[j]?).getD ⟨#[]⟩=if j=k then r else(rs[j]?).getD ⟨#[]⟩:=by
 unfold putAt
 rw[List.getElem?_set]
 by_cases h:k=j
 ·subst h
  rw[if_pos rfl,if_pos (by simp;omega),if_pos rfl];rfl
 ·rw[if_neg h,if_neg (fun e=>h e.symm),List.getElem?_append]
  split
  ·rfl
  ·rename_i h1
   rw[List.getElem?_replicate,List.getElem?_eq_none (by omega)]
   split<;>rfl
theorem tight_of_last {rs:List ByteArray}(h:rs.length=0∨((rs[rs.length-1]?).getD ⟨#[]⟩).size≠0):Tight rs:=by
 intro r hr
 rw[List.getLast?_eq_getElem?]at hr
 rcases h with h|h
 ·rw[List.eq_nil_of_length_eq_zero h]at hr;simp at hr
 ·rw[hr]at h;exact h
theorem tight_last {rs:List ByteArray}(h:Tight rs):rs.length=0∨((rs[rs.length-1]?).getD ⟨#[]⟩).size≠0:=by
 rcases Nat.eq_zero_or_pos rs.length with h0|h0
 ·exact .inl h0
 ·right
  have hg:rs[rs.length-1]? =some rs[rs.length-1]:=List.getElem?_eq_getElem (by omega)
  rw[hg]
  exact h _ (by rw[List.getLast?_eq_getElem?,hg];rfl)
theorem putAt_tight {rs:List ByteArray}(h:Tight rs)(k:Nat){r:ByteArray}(hr:r.size≠0):Tight (putAt rs k r):=by
 refine tight_of_last (.inr ?_)
 rw[putAt_get,putAt_length]
 split
 ·exact hr
 ·rcases tight_last h with h1|h1
  ·omega
  ·rw[show max rs.length (k+1)-1=rs.length-1 by omega];exact h1
theorem putAt_size (rs:List ByteArray)(k:Nat)(r:ByteArray):sizeN (putAt rs k r)≤19+4*max rs.length (k+1)+(sumSizes rs+r.size):=by
 have:=putAt_sum rs k r
 unfold sizeN
 rw[putAt_length];omega
theorem cutAt_size {rs:List ByteArray}{k:Nat}(h:k<rs.length):sizeN (putAt rs k ⟨#[]⟩)≤sizeN rs:=by
 have h1:=putAt_size rs k ⟨#[]⟩
 have h2:(⟨#[]⟩:ByteArray).size=0:=rfl
 unfold sizeN at h1 ⊢;omega
def insAt (rs:List ByteArray)(k:Nat)(r:ByteArray):List ByteArray:=if rs.length≤k then putAt rs k r else rs.take k++[r]++rs.drop k
def delAt (rs:List ByteArray)(k:Nat):List ByteArray:=rs.take k++rs.drop (k+1)
theorem insAt_sum (rs:List ByteArray)(k:Nat)(r:ByteArray):sumSizes (insAt rs k r)≤sumSizes rs+r.size:=by
 unfold insAt
 split
 ·exact putAt_sum rs k r
 ·have h:=sumSizes_append (rs.take k) (rs.drop k)
  rw[List.take_append_drop]at h
  rw[sumSizes_append,sumSizes_append,sumSizes,sumSizes];omega
theorem insAt_length (rs:List ByteArray)(k:Nat)(r:ByteArray):(insAt rs k r).length=max (rs.length+1) (k+1):=by
 unfold insAt
 split
 ·rw[putAt_length];omega
 ·simp;omega
theorem delAt_sum {rs:List ByteArray}{k:Nat}(h:k<rs.length):sumSizes (delAt rs k)+rs[k].size=sumSizes rs:=by
 have h1:=sumSizes_split rs k h
 unfold delAt
 rw[sumSizes_append];omega
theorem delAt_length {rs:List ByteArray}{k:Nat}(h:k<rs.length):(delAt rs k).length+1=rs.length:=by
 unfold delAt;simp;omega
theorem delAt_size {rs:List ByteArray}{k:Nat}(h:k<rs.length):sizeN (delAt rs k)≤sizeN rs:=by
 have h1:=delAt_sum h
 have h2:=delAt_length h
 unfold sizeN;omega
theorem insAt_tight {rs:List ByteArray}(h:Tight rs)(k:Nat){r:ByteArray}(hr:r.size≠0):Tight (insAt rs k r):=by
 unfold insAt
 split
 ·exact putAt_tight h k hr
 ·rename_i h1
  intro q hq
  rw[List.getLast?_append]at hq
  refine h q ?_
  rw[List.getLast?_drop,if_neg h1]at hq
  have hl:rs.getLast? =some (rs.getLast (by intro e;rw[e]at h1;simp at h1)):=List.getLast?_eq_some_getLast _
  rw[hl]at hq ⊢
  exact hq
theorem insAt_mem {rs:List ByteArray}{k:Nat}{r:ByteArray}{m:Nat}(he:∀ r∈rs,r.size≤m)(hr:r.size≤m):∀ q∈insAt rs k r,q.size≤m:=by
 unfold insAt
 split
 ·exact putAt_mem he hr
 ·intro q hq
  simp only[List.mem_append,List.mem_singleton]at hq
  rcases hq with(h|h)|h
  ·exact he q (List.mem_of_mem_take h)
  ·rw[h];exact hr
  ·exact he q (List.mem_of_mem_drop h)
theorem delAt_mem {rs:List ByteArray}{k:Nat}{m:Nat}(he:∀ r∈rs,r.size≤m):∀ q∈delAt rs k,q.size≤m:=by
 intro q hq
 unfold delAt at hq
 rw[List.mem_append]at hq
 rcases hq with h|h
 ·exact he q (List.mem_of_mem_take h)
 ·exact he q (List.mem_of_mem_drop h)
theorem slotAt_lt {rs:List ByteArray}{i:Int}(h:(slotAt rs i).size≠0):0≤i∧i<rs.length:=by
 constructor
 ·rcases Int.lt_or_le i 0 with h1|h1
  ·rw[slotAt_neg h1]at h;exact absurd rfl h
  ·exact h1
 ·rcases Int.lt_or_le i rs.length with h1|h1
  ·exact h1
  ·rw[slotAt_past h1]at h;exact absurd rfl h
structure Good (x:Leaf):Prop where
 fine:Fine x
 tight:Tight x.recs
 fits:sizeN x.recs≤512
theorem right_good {p:List UInt8}{x:Leaf}(h:right p=some x):Good x:=
 ⟨(right_fine h).1,(right_tight h).1,(right_tight h).2⟩
theorem leafOf_good (p:List UInt8):Good (leafOf p):=by
 unfold leafOf
 cases h:right p with
 |none=>exact⟨zero_fine,(by intro r hr;cases hr),by decide⟩
 |some x=>exact right_good h
end Pg
namespace Go.Proofs.YtmfkhdhnbkambaaGreatDoor
open Go.RowKit
def mayB (r:ByteArray):Bool:=decide (1≤r.size∧r.size≤400)
theorem mayB_yes {r:ByteArray}(h:mayB r=true):1≤r.size∧r.size≤400:=by unfold mayB at h;exact of_decide_eq_true h
def withRecs (p:ByteArray)(rs:List ByteArray):Pg.Leaf:={leafP p with recs:=rs}
theorem leafP_good (p:ByteArray):Pg.Good (leafP p):=Pg.leafOf_good _
theorem withRecs_small (p:ByteArray)(rs:List ByteArray):Pg.Small (withRecs p rs):=(leafP_good p).fine.small
def putO (p:ByteArray)(i:Int)(r:ByteArray):ByteArray×Int:=
 if isPg p=false then(⟨#[]⟩,1)else if i<0 then(⟨#[]⟩,1)else if(Pg.slotAt (leafP p).recs i).size≠0 then(⟨#[]⟩,1)
 else if mayB r=false then(⟨#[]⟩,1)else if 512<i then(⟨#[]⟩,18)else Pg.fullO (withRecs p (Pg.putAt (leafP p).recs i.toNat r))
def cutO (p:ByteArray)(i:Int):ByteArray×Int:=
 if isPg p=false then(⟨#[]⟩,1)else if(Pg.slotAt (leafP p).recs i).size=0 then(⟨#[]⟩,21)else Pg.fullO (withRecs p (Pg.putAt (leafP p).recs i.toNat ⟨#[]⟩))
def setO (p:ByteArray)(i:Int)(r:ByteArray):ByteArray×Int:=
 if isPg p=false then(⟨#[]⟩,1)else if mayB r=false then(⟨#[]⟩,1)else if(Pg.slotAt (leafP p).recs i).size=0 then(⟨#[]⟩,21)
 else Pg.fullO (withRecs p (Pg.putAt (leafP p).recs i.toNat r))
theorem empty_yes {q:ByteArray}(h:q.size=0):q=⟨#[]⟩:=bytes_nil h
theorem empty_no {q:ByteArray}(h:¬ q.size=0):q.toList.isEmpty=false∧¬ q.toList=[]:=by
 have h1:q.toList.isEmpty=false:=by rw[empty_iff];exact decide_eq_false h
 exact⟨h1,fun e=>by rw[e]at h1;cases h1⟩
theorem pput_any (p:ByteArray)(i:Int)(r:ByteArray)(hm:p.size≤140737488355328)(w:World):
 Calls Tryz.prog 168 #[p,i,r] w fun e w'=>e= .returned (outV (putO p i r))∧Below w.heap.size w w':=by
 have HT:=Hq (fun W=>take_leaf p hm W)
 have HA:=Hq (fun A c W hW=>at_any (leafP p) A c i W hW)
 have HY:=Hq (fun W=>may_any r W)
 change Hid (∀ W,Calls _ _ _ _ fun e w'=>e= .returned (.bool (mayB r))∧_)at HY
 have hgood:=leafP_good p
 unfold putO
 cases hb:isPg p with
 |false=>
  rw[if_pos rfl]
  rw[hb]at HT
  generalize leafP p=x at HT
  clear hgood hb HA HY
  go_enter Tryz.func168,Tryz.ntmps168
  go_wp2_with (first|(go_at_call 109;refine(HT.out _).mono ?_;rintro e w1 ⟨A,c,rfl,hcl,hb1⟩))
  go_ret2
  exact⟨rfl,below_past_alloc hb1⟩
 |true=>
  rw[hb]at HT
  rw[if_neg (by simp)]
  clear hb
  by_cases h1:i<0
  ·rw[if_pos h1]
   generalize leafP p=x at HT
   clear hgood HA HY
   go_enter Tryz.func168,Tryz.ntmps168
   go_wp2_with (first|(go_at_call 109;refine(HT.out _).mono ?_;rintro e w1 ⟨A,c,rfl,hcl,hb1⟩))
   go_ret2
   exact⟨rfl,below_past_alloc hb1⟩
  ·rw[if_neg h1]
   obtain⟨k,rfl⟩:=Int.eq_ofNat_of_zero_le (show 0≤i by omega)
   have hk0:(0:Int)≤(k:Int):=by omega
   clear h1
   rw[show((k:Int)).toNat=k from rfl]
   by_cases h2:(Pg.slotAt (leafP p).recs (k:Int)).size≠0
   ·rw[if_pos h2]
    obtain⟨hie,hne⟩:=empty_no h2
    clear h2
    generalize Pg.slotAt (leafP p).recs (k:Int)=q at HA hie hne
    generalize leafP p=x at HT HA
    clear hgood HY
    go_enter Tryz.func168,Tryz.ntmps168
    go_wp2_with (first|(go_at_call 109;refine(HT.out _).mono ?_;rintro e w1 ⟨A,c,rfl,hcl,hb1⟩)|(go_at_call 117;refine(HA.out _ _ _ (hcl.cells.below ((Below.refl _ _).alloc (Nat.le_refl _) _))).mono ?_;rintro e w2 ⟨rfl,hb2⟩;obtain⟨c0,c1,c2,c3,f0,f1,f2,f3⟩:=blk4 (blk_new hb2)))
    go_ret2
    exact⟨rfl,andThen hb1 (below_past hb2)⟩
   ·rw[if_neg h2]
    rw[empty_yes (q:=Pg.slotAt (leafP p).recs (k:Int)) (by omega)]at HA
    clear h2
    cases hy:mayB r with
    |false=>
     rw[if_pos rfl]
     rw[hy]at HY
     generalize leafP p=x at HT HA
     clear hgood hy
     go_enter Tryz.func168,Tryz.ntmps168
     go_wp2_with (first|(go_at_call 109;refine(HT.out _).mono ?_;rintro e w1 ⟨A,c,rfl,hcl,hb1⟩)|(go_at_call 117;refine(HA.out _ _ _ (hcl.cells.below ((Below.refl _ _).alloc (Nat.le_refl _) _))).mono ?_;rintro e w2 ⟨rfl,hb2⟩;obtain⟨c0,c1,c2,c3,f0,f1,f2,f3⟩:=blk4 (blk_new hb2))|(go_at_call 116;refine(HY.out _).mono ?_;rintro e w3 ⟨rfl,rfl⟩))
     go_ret2
     exact⟨rfl,andThen hb1 (below_past hb2)⟩
    |true=>
     rw[if_neg (by simp)]
     rw[hy]at HY
     obtain⟨hr1,hr2⟩:=mayB_yes hy
     clear hy
     by_cases h5:(512:Int)<(k:Int)
     ·rw[if_pos h5]
      generalize leafP p=x at HT HA
      clear hgood
      go_enter Tryz.func168,Tryz.ntmps168
      go_wp2_with (first|(go_at_call 109;refine(HT.out _).mono ?_;rintro e w1 ⟨A,c,rfl,hcl,hb1⟩)|(go_at_call 117;refine(HA.out _ _ _ (hcl.cells.below ((Below.refl _ _).alloc (Nat.le_refl _) _))).mono ?_;rintro e w2 ⟨rfl,hb2⟩;obtain⟨c0,c1,c2,c3,f0,f1,f2,f3⟩:=blk4 (blk_new hb2))|(go_at_call 116;refine(HY.out _).mono ?_;rintro e w3 ⟨rfl,rfl⟩))
      go_ret2
      exact⟨rfl,andThen hb1 (below_past hb2)⟩
     ·rw[if_neg h5]
      have hln:=hgood.fine.len
      have hsm:=hgood.fine.sum
      have hps:=Pg.putAt_size (leafP p).recs k r
      have HW:=Hq (fun A c W hW=>with_any (leafP p) A c k r (by omega) (by omega) W hW)
      have HU:=Hq (fun A c W hW=>full_any (withRecs p (Pg.putAt (leafP p).recs k r)) A c (withRecs_small p _) (by show Pg.sizeN (Pg.putAt _ _ _)≤_;omega) W hW)
      change Hid (∀ A c W,Cells W A c (leafP p).recs→Calls _ _ _ _ fun e w'=>∃ A' c',e= .returned (leafV (withRecs p (Pg.putAt (leafP p).recs k r)) A' c')∧OwnCells _ w' A' c' (withRecs p (Pg.putAt (leafP p).recs k r)).recs∧_)at HW
      clear hps hln hsm hr1 hr2 hgood
      generalize withRecs p (Pg.putAt (leafP p).recs k r)=y at HW HU ⊢
      generalize Pg.fullO y=o at HU ⊢
      generalize leafP p=x at HT HA HW
      go_enter Tryz.func168,Tryz.ntmps168
      go_wp2_with (first|(go_at_call 109;refine(HT.out _).mono ?_;rintro e w1 ⟨A,c,rfl,hcl,hb1⟩)|(go_at_call 117;refine(HA.out _ _ _ (hcl.cells.below ((Below.refl _ _).alloc (Nat.le_refl _) _))).mono ?_;rintro e w2 ⟨rfl,hb2⟩;obtain⟨c0,c1,c2,c3,f0,f1,f2,f3⟩:=blk4 (blk_new hb2))|(go_at_call 116;refine(HY.out _).mono ?_;rintro e w3 ⟨rfl,rfl⟩)|(go_at_call 119;refine(HW.out _ _ _ (hcl.cells.below (below_past hb2))).mono ?_;rintro e w4 ⟨A',c',rfl,ho4,hb4⟩)|(go_at_call 118;refine(HU.out _ _ _ ho4.cells).mono ?_;rintro e w5 ⟨rfl,hb5⟩))
      go_ret2
      exact⟨rfl,andThen (andThen (andThen hb1 (below_past hb2)) hb4) hb5⟩
theorem pcut_any (p:ByteArray)(i:Int)(hm:p.size≤140737488355328)(w:World):
 Calls Tryz.prog 169 #[p,i] w fun e w'=>e= .returned (outV (cutO p i))∧Below w.heap.size w w':=by
 have HT:=Hq (fun W=>take_leaf p hm W)
 have HA:=Hq (fun A c W hW=>at_any (leafP p) A c i W hW)
 have hgood:=leafP_good p
 unfold cutO
 cases hb:isPg p with
 |false=>
  rw[if_pos rfl]
  rw[hb]at HT
  generalize leafP p=x at HT
  clear hgood hb HA
  go_enter Tryz.func169,Tryz.ntmps169
  go_wp2_with (first|(go_at_call 109;refine(HT.out _).mono ?_;rintro e w1 ⟨A,c,rfl,hcl,hb1⟩))
  go_ret2
  exact⟨rfl,below_past_alloc hb1⟩
 |true=>
  rw[hb]at HT
  rw[if_neg (by simp)]
  clear hb
  by_cases h2:(Pg.slotAt (leafP p).recs i).size=0
  ·rw[if_pos h2]
   rw[empty_yes h2]at HA
   generalize leafP p=x at HT HA
   clear hgood h2
   go_enter Tryz.func169,Tryz.ntmps169
   go_wp2_with (first|(go_at_call 109;refine(HT.out _).mono ?_;rintro e w1 ⟨A,c,rfl,hcl,hb1⟩)|(go_at_call 117;refine(HA.out _ _ _ (hcl.cells.below ((Below.refl _ _).alloc (Nat.le_refl _) _))).mono ?_;rintro e w2 ⟨rfl,hb2⟩;obtain⟨c0,c1,c2,c3,f0,f1,f2,f3⟩:=blk4 (blk_new hb2)))
   go_ret2
   exact⟨rfl,andThen hb1 (below_past hb2)⟩
  ·rw[if_neg h2]
   obtain⟨hi0,hi1⟩:=Pg.slotAt_lt h2
   obtain⟨hie,hne⟩:=empty_no h2
   clear h2
   obtain⟨k,rfl⟩:=Int.eq_ofNat_of_zero_le hi0
   rw[show((k:Int)).toNat=k from rfl]
   have hln:=hgood.fine.len
   have hsm:=hgood.fine.sum
   have hps:=Pg.putAt_size (leafP p).recs k ⟨#[]⟩
   have hz:(⟨#[]⟩:ByteArray).size=0:=rfl
   have HW:=Hq (fun A c W hW=>with_any (leafP p) A c k ⟨#[]⟩ (by omega) (by omega) W hW)
   have HU:=Hq (fun A c W hW=>full_any (withRecs p (Pg.putAt (leafP p).recs k ⟨#[]⟩)) A c (withRecs_small p _) (by show Pg.sizeN (Pg.putAt _ _ _)≤_;omega) W hW)
   change Hid (∀ A c W,Cells W A c (leafP p).recs→Calls _ _ _ _ fun e w'=>∃ A' c',e= .returned (leafV (withRecs p (Pg.putAt (leafP p).recs k ⟨#[]⟩)) A' c')∧OwnCells _ w' A' c' (withRecs p (Pg.putAt (leafP p).recs k ⟨#[]⟩)).recs∧_)at HW
   clear hps hln hsm hgood hz hi1
   generalize withRecs p (Pg.putAt (leafP p).recs k ⟨#[]⟩)=y at HW HU ⊢
   generalize Pg.fullO y=o at HU ⊢
   generalize Pg.slotAt (leafP p).recs (k:Int)=q at HA hie hne
   generalize leafP p=x at HT HA HW
   go_enter Tryz.func169,Tryz.ntmps169
   go_wp2_with (first|(go_at_call 109;refine(HT.out _).mono ?_;rintro e w1 ⟨A,c,rfl,hcl,hb1⟩)|(go_at_call 117;refine(HA.out _ _ _ (hcl.cells.below ((Below.refl _ _).alloc (Nat.le_refl _) _))).mono ?_;rintro e w2 ⟨rfl,hb2⟩;obtain⟨c0,c1,c2,c3,f0,f1,f2,f3⟩:=blk4 (blk_new hb2))|(go_at_call 119;refine(HW.out _ _ _ (hcl.cells.below (below_past hb2))).mono ?_;rintro e w4 ⟨A',c',rfl,ho4,hb4⟩)|(go_at_call 118;refine(HU.out _ _ _ ho4.cells).mono ?_;rintro e w5 ⟨rfl,hb5⟩))
   go_ret2
   exact⟨rfl,andThen (andThen (andThen hb1 (below_past hb2)) hb4) hb5⟩
theorem pset_any (p:ByteArray)(i:Int)(r:ByteArray)(hm:p.size≤140737488355328)(w:World):
 Calls Tryz.prog 59 #[p,i,r] w fun e w'=>e= .returned (outV (setO p i r))∧Below w.heap.size w w':=by
 have HT:=Hq (fun W=>take_leaf p hm W)
 have HA:=Hq (fun A c W hW=>at_any (leafP p) A c i W hW)
 have HY:=Hq (fun W=>may_any r W)
 change Hid (∀ W,Calls _ _ _ _ fun e w'=>e= .returned (.bool (mayB r))∧_)at HY
 have hgood:=leafP_good p
 unfold setO
 cases hb:isPg p with
 |false=>
  rw[if_pos rfl]
  rw[hb]at HT
  generalize leafP p=x at HT
  clear hgood hb HA HY
  go_enter Tryz.func59,Tryz.ntmps59
  go_wp2_with (first|(go_at_call 109;refine(HT.out _).mono ?_;rintro e w1 ⟨A,c,rfl,hcl,hb1⟩))
  go_ret2
  exact⟨rfl,below_past_alloc hb1⟩
 |true=>
  rw[hb]at HT
  rw[if_neg (by simp)]
  clear hb
  cases hy:mayB r with
  |false=>
   rw[if_pos rfl]
   rw[hy]at HY
   generalize leafP p=x at HT
   clear hgood hy HA
   go_enter Tryz.func59,Tryz.ntmps59
   go_wp2_with (first|(go_at_call 109;refine(HT.out _).mono ?_;rintro e w1 ⟨A,c,rfl,hcl,hb1⟩)|(go_at_call 116;refine(HY.out _).mono ?_;rintro e w3 ⟨rfl,rfl⟩))
   go_ret2
   exact⟨rfl,below_past_alloc hb1⟩
  |true=>
   rw[if_neg (by simp)]
   rw[hy]at HY
   obtain⟨hr1,hr2⟩:=mayB_yes hy
   clear hy
   by_cases h2:(Pg.slotAt (leafP p).recs i).size=0
   ·rw[if_pos h2]
    rw[empty_yes h2]at HA
    generalize leafP p=x at HT HA
    clear hgood h2
    go_enter Tryz.func59,Tryz.ntmps59
    go_wp2_with (first|(go_at_call 109;refine(HT.out _).mono ?_;rintro e w1 ⟨A,c,rfl,hcl,hb1⟩)|(go_at_call 116;refine(HY.out _).mono ?_;rintro e w3 ⟨rfl,rfl⟩)|(go_at_call 117;refine(HA.out _ _ _ (hcl.cells.below ((Below.refl _ _).alloc (Nat.le_refl _) _))).mono ?_;rintro e w2 ⟨rfl,hb2⟩;obtain⟨c0,c1,c2,c3,f0,f1,f2,f3⟩:=blk4 (blk_new hb2)))
    go_ret2
    exact⟨rfl,andThen hb1 (below_past hb2)⟩
   ·rw[if_neg h2]
    obtain⟨hi0,hi1⟩:=Pg.slotAt_lt h2
    obtain⟨hie,hne⟩:=empty_no h2
    clear h2
    obtain⟨k,rfl⟩:=Int.eq_ofNat_of_zero_le hi0
    rw[show((k:Int)).toNat=k from rfl]
    have hln:=hgood.fine.len
    have hsm:=hgood.fine.sum
    have hps:=Pg.putAt_size (leafP p).recs k r
    have HW:=Hq (fun A c W hW=>with_any (leafP p) A c k r (by omega) (by omega) W hW)
    have HU:=Hq (fun A c W hW=>full_any (withRecs p (Pg.putAt (leafP p).recs k r)) A c (withRecs_small p _) (by show Pg.sizeN (Pg.putAt _ _ _)≤_;omega) W hW)
    change Hid (∀ A c W,Cells W A c (leafP p).recs→Calls _ _ _ _ fun e w'=>∃ A' c',e= .returned (leafV (withRecs p (Pg.putAt (leafP p).recs k r)) A' c')∧OwnCells _ w' A' c' (withRecs p (Pg.putAt (leafP p).recs k r)).recs∧_)at HW
    clear hps hln hsm hr1 hr2 hgood hi1
    generalize withRecs p (Pg.putAt (leafP p).recs k r)=y at HW HU ⊢
    generalize Pg.fullO y=o at HU ⊢
    generalize Pg.slotAt (leafP p).recs (k:Int)=q at HA hie hne
    generalize leafP p=x at HT HA HW
    go_enter Tryz.func59,Tryz.ntmps59
    go_wp2_with (first|(go_at_call 109;refine(HT.out _).mono ?_;rintro e w1 ⟨A,c,rfl,hcl,hb1⟩)|(go_at_call 116;refine(HY.out _).mono ?_;rintro e w3 ⟨rfl,rfl⟩)|(go_at_call 117;refine(HA.out _ _ _ (hcl.cells.below ((Below.refl _ _).alloc (Nat.le_refl _) _))).mono ?_;rintro e w2 ⟨rfl,hb2⟩;obtain⟨c0,c1,c2,c3,f0,f1,f2,f3⟩:=blk4 (blk_new hb2))|(go_at_call 119;refine(HW.out _ _ _ (hcl.cells.below (below_past hb2))).mono ?_;rintro e w4 ⟨A',c',rfl,ho4,hb4⟩)|(go_at_call 118;refine(HU.out _ _ _ ho4.cells).mono ?_;rintro e w5 ⟨rfl,hb5⟩))
    go_ret2
    exact⟨rfl,andThen (andThen (andThen hb1 (below_past hb2)) hb4) hb5⟩
end Go.Proofs.YtmfkhdhnbkambaaGreatDoor
