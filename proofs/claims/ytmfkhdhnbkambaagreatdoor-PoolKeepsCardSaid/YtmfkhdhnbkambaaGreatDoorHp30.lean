import Derived.Test.YtmfkhdhnbkambaaGreatDoorHp00
import Derived.Test.YtmfkhdhnbkambaaGreatDoorHp16
import Derived.Test.YtmfkhdhnbkambaaGreatDoorHp17
import Derived.Test.YtmfkhdhnbkambaaGreatDoorHp29
import Derived.Test.YtmfkhdhnbkambaaGreatDoorHp23
import Derived.Test.YtmfkhdhnbkambaaGreatDoorHp25
set_option maxRecDepth 100000
set_option maxHeartbeats 16000000
set_option linter.unusedSimpArgs false
namespace Go.Proofs.YtmfkhdhnbkambaaGreatDoor
open Go.RowKit Sc
def recOf (a:PkAct):Rc.Rec:=if a.kind=4 then⟨0,0,1,3,a.page,a.n,0,a.o,0,0,Rc.noKey,[],[]⟩else⟨0,0,1,2,a.page,0,0,a.o,1,0,Rc.noKey,[],[]⟩
def doD (o:Rc.Op)(b:ByteArray):ByteArray×Int:=doO b ⟨o.kind,o.slot,o.old,o.new⟩
theorem doD_is (o:Rc.Op)(b:ByteArray)(h:(doD o b).2=0):isPg (doD o b).1=true:=by
 unfold doD doO at h ⊢
 split
 ·rename_i h1
  have h2:=(do_back h1).2.1
  unfold rightO at h2
  rw[Bool.and_eq_true]at h2
  exact h2.1
 ·rename_i h1
  rw[if_neg h1]at h
  exact absurd h (by decide)
noncomputable def actF (s:Tx.St) (fs:List Fr) (a:PkAct):Px×ByteArray:=
 if a.kind=0 then getF s fs a.page else
 if a.kind=1 then(pinF s fs a.page,⟨#[]⟩)else
 if a.kind=2 then(unpinF s fs a.page,⟨#[]⟩)else
 if a.kind=3∨a.kind=4 then(changeF s fs (recOf a) (doD a.o),⟨#[]⟩)else
 if a.kind=5 then(FlushF s fs a.page,⟨#[]⟩)else
 if a.kind=6 then(allF s fs,⟨#[]⟩)else
 (⟨{s with disk:=Lg.startD s.disk},fs,0⟩,⟨#[]⟩)
theorem lsize_any (z:Int)(_hz: -9223372036854775808≤z∧z≤9223372036854775807)(w:World):
 Calls Tryz.prog 8 #[z] w fun e w'=>∃ k:Nat,(1≤k∧k≤5)∧(k:Int)=1+Int.tmod (Int.tmod z 5+5) 5∧e= .returned (.agg #[.int .i64 ((700:Nat):Int),.int .i64 ((8:Nat):Int),.int .i64 (k:Int)])∧Below w.heap.size w w':=by
 obtain⟨m,hm⟩:=ex (Int.tmod z 5)
 have hm1: -5<m∧m<5:=by
  rw[hm]
  have h1:=Int.tmod_lt_of_pos z (show(0:Int)<5 by decide)
  have h2:=Int.lt_tmod_of_pos z (show(0:Int)<5 by decide)
  exact⟨h2,h1⟩
 obtain⟨q,hq⟩:=ex (Int.tmod (m+5) 5)
 have hq1:0≤q∧q<5:=by rw[hq];exact⟨Int.tmod_nonneg _ (by omega),Int.tmod_lt_of_pos _ (by decide)⟩
 have hmI:Int.tmod z 5=m:=hm.symm
 have hqI:Int.tmod (m+5) 5=q:=hq.symm
 have hw0:IntKind.i64.wrap m=m:=IntWalk.i64_in _ (by omega)
 have hw1:IntKind.i64.wrap (m+5)=m+5:=IntWalk.i64_in _ (by omega)
 have hw2:IntKind.i64.wrap q=q:=IntWalk.i64_in _ (by omega)
 have hw3:IntKind.i64.wrap (1+q)=1+q:=IntWalk.i64_in _ (by omega)
 have HQ:=Hq (fun w' (hb:Below w.heap.size w w')=>show(fun(e:Ending) (w':World)=>∃ k:Nat,(1≤k∧k≤5)∧(k:Int)=1+Int.tmod (Int.tmod z 5+5) 5∧e= .returned (.agg #[.int .i64 ((700:Nat):Int),.int .i64 ((8:Nat):Int),.int .i64 (k:Int)])∧Below w.heap.size w w') (.returned (.agg #[.int .i64 700,.int .i64 8,.int .i64 (1+q)])) w' from
  ⟨(1+q).toNat,by omega,by rw[hmI,hqI];omega,by rw[show(((1+q).toNat:Nat):Int)=1+q by omega];rfl,hb⟩)
 generalize (fun(e:Ending) (w':World)=>∃ k:Nat,(1≤k∧k≤5)∧(k:Int)=1+Int.tmod (Int.tmod z 5+5) 5∧e= .returned (.agg #[.int .i64 ((700:Nat):Int),.int .i64 ((8:Nat):Int),.int .i64 (k:Int)])∧Below w.heap.size w w')=Q at HQ ⊢
 clear hm hq
 go_enter Tryz.func8,Tryz.ntmps8
 go_upto_region 1 with fail
 have H0:=nW1 w #[(),(),()] 25
 obtain⟨W0,hW0⟩:=exW H0
 rw[← hW0]at H0 ⊢
 clear hW0
 go_wp2_with (with_reducible refine lS #[.int .i64 700,.int .i64 8,.int .i64 (1+q)] H0.out.get0 ?_)
 refine bodyPost_ret (v:=.agg #[.int .i64 700,.int .i64 8,.int .i64 (1+q)]) (results_cell rfl _ _ rfl (load_whole (setRow_heap _ _ _ _ _ _ H0.out.get0) Tryz.underlying25 Kr Kr)) rfl ?_
 exact HQ.out _ (H0.out.row 0 _ _ rfl).below
theorem lrec_any (a:PkAct)(w:World):
 Calls Tryz.prog 35 #[.agg #[a.kind,a.page,a.n,a.o.kind,a.o.slot,a.o.old,a.o.new,a.p.r.lsn,a.p.r.prev,a.p.r.txn,a.p.r.kind,a.p.r.page,a.p.r.next,a.p.r.num,a.p.r.op.kind,a.p.r.op.slot,a.p.r.op.old,a.p.r.op.new,a.p.r.how,a.p.r.root,a.p.r.e.key,a.p.r.e.page,a.p.r.e.slot,.slice a.p.A a.p.r.txns.length a.p.c,.slice a.p.B a.p.r.dirty.length a.p.d]] w fun e w'=>e= .returned (.agg (recA (recOf a) (.slice none 0 0) (.slice none 0 0)))∧Below w.heap.size w w':=by
 have HY:=Hq (fun(h4:a.kind=4) w' (hb:Below w.heap.size w w')=>show(fun(e:Ending) (w':World)=>e= .returned (.agg (recA (recOf a) (.slice none 0 0) (.slice none 0 0)))∧Below w.heap.size w w') (.returned (.agg #[(),(),.int .i64 1,.int .i64 3,a.page,a.n,(),a.o.kind,a.o.slot,a.o.old,a.o.new,(),(),"",(),(),"s","s"])) w' from by
  refine⟨?_,hb⟩
  unfold recOf
  rw[if_pos h4];rfl)
 have HN:=Hq (fun(h4:¬ a.kind=4) w' (hb:Below w.heap.size w w')=>show(fun(e:Ending) (w':World)=>e= .returned (.agg (recA (recOf a) (.slice none 0 0) (.slice none 0 0)))∧Below w.heap.size w w') (.returned (.agg #[(),(),.int .i64 1,.int .i64 2,a.page,(),(),a.o.kind,a.o.slot,a.o.old,a.o.new,.int .i64 1,(),"",(),(),"s","s"])) w' from by
  refine⟨?_,hb⟩
  unfold recOf
  rw[if_neg h4];rfl)
 generalize (fun(e:Ending) (w':World)=>e= .returned (.agg (recA (recOf a) (.slice none 0 0) (.slice none 0 0)))∧Below w.heap.size w w')=Q at HY HN ⊢
 go_enter Tryz.func35,Tryz.ntmps35
 go_upto_region 1 with fail
 have H0:=nW2 w #[a.kind,a.page,a.n,a.o.kind,a.o.slot,a.o.old,a.o.new,a.p.r.lsn,a.p.r.prev,a.p.r.txn,a.p.r.kind,a.p.r.page,a.p.r.next,a.p.r.num,a.p.r.op.kind,a.p.r.op.slot,a.p.r.op.old,a.p.r.op.new,a.p.r.how,a.p.r.root,a.p.r.e.key,a.p.r.e.page,a.p.r.e.slot,.slice a.p.A a.p.r.txns.length a.p.c,.slice a.p.B a.p.r.dirty.length a.p.d] 51 #[(),(),(),(),(),(),(),(),(),"","",(),(),"",(),(),"s","s"] 49
 obtain⟨W0,hW0⟩:=exW H0
 rw[← hW0]at H0 ⊢
 clear hW0
 have hc1:=show W0.cell? ⟨w.heap.size,1,none⟩=some (.int .i64 a.page)from by rw[blkCell H0.out.get0];rfl
 go_upto_region 2 with(first|(with_reducible refine lP #[a.o.kind,a.o.slot,a.o.old,a.o.new] H0.out.get0 Tryz.underlying42 ?_)|(with_reducible refine sN #[(),(),.int .i64 1,.int .i64 2,a.page,(),(),a.o.kind,a.o.slot,a.o.old,a.o.new,.int .i64 1,(),"",(),(),"s","s"] ?_))
 have hlt:w.heap.size+1<W0.heap.size:=H0.out.lt (i:=1) (by simp)
 have hb1:=allocB W0 (.cells #[(),(),.int .i64 1,.int .i64 2,a.page,(),(),a.o.kind,a.o.slot,a.o.old,a.o.new,.int .i64 1,(),"",(),(),"s","s"] 49)
 have H1:=Hq (H0.out.step hb1)
 have HG1:=Hq (heap_alloc_new W0 (.cells #[(),(),.int .i64 1,.int .i64 2,a.page,(),(),a.o.kind,a.o.slot,a.o.old,a.o.new,.int .i64 1,(),"",(),(),"s","s"] 49))
 obtain⟨g,hg⟩:=ex W0.heap.size
 obtain⟨w1,hw1⟩:=ex (W0.alloc (.cells #[(),(),.int .i64 1,.int .i64 2,a.page,(),(),a.o.kind,a.o.slot,a.o.old,a.o.new,.int .i64 1,(),"",(),(),"s","s"] 49))
 rw[← hg,← hw1]at HG1
 rw[← hw1]at H1
 rw[← hw1,← hg]
 rw[← hg]at hlt
 clear hw1 hg hb1 H0 hc1
 try simp only[Act.put]
 have hc0:=show w1.cell? ⟨w.heap.size,0,none⟩=some (.int .i64 a.kind)from by rw[blkCell H1.out.get0];rfl
 by_cases h4:a.kind=4
 ·have hkb:(a.kind==4)=true:=by rw[h4];rfl
  have HK:=Hq h4
  clear h4 HN
  go_upto_region 3 with fail
  go_cut [13] (fun x wc=>wc.heap[g]? =some (.cells #[(),(),.int .i64 1,.int .i64 3,a.page,a.n,(),a.o.kind,a.o.slot,a.o.old,a.o.new,(),(),"",(),(),"s","s"] 49 (0,0))∧Below g w1 wc)
  case first=>
   have hSn:w1.drew.cell? ⟨w.heap.size,2,none⟩=some (.int .i64 a.n):=by rw[show w1.drew.cell? ⟨w.heap.size,2,none⟩=w1.cell? ⟨w.heap.size,2,none⟩from rfl,blkCell H1.out.get0];rfl
   have hG:=show w1.drew.heap[g]? =some (.cells #[(),(),.int .i64 1,.int .i64 2,a.page,(),(),a.o.kind,a.o.slot,a.o.old,a.o.new,.int .i64 1,(),"",(),(),"s","s"] 49 (0,0))from HG1.out
   have hQ:Below g w1 w1.drew:=(show Below g w1 w1 from⟨rfl,rfl,rfl,Nat.le_refl _,fun _ _=>rfl⟩).drew
   refine rgH (S:=(fun u=>u.cell? ⟨w.heap.size,2,none⟩=some (.int .i64 a.n))) (fun hHeld=>?_)
   generalize w1.drew=w8 at hSn hG hQ ⊢
   refine tkP 0 ?_ (hy:=by
    intro u hSu;have hcl:=hSu
    clear hSu;go_simp;(try with_reducible rfl))
   refine tkP 1 ?_ (hy:=by
    intro u hSu;have hcl:=hSu
    clear hSu;go_simp;(try with_reducible rfl))
   refine tkP 2 ?_ (hy:=by
    intro u hSu;have hcl:=hSu
    clear hSu;go_simp;(try with_reducible rfl))
   refine rdP 3 fun K hK=>?_
   have hcq:=show w8.cell? ⟨g,3,none⟩=some (.int .i64 2)from by rw[blkCell hG];rfl
   have hzq:=blkFrozen hG 3
   go_simp
   clear hcq hzq
   have hGm:=show(w8.setCell ⟨g,3,none⟩ (.int .i64 3)).heap[g]? =some (.cells #[(),(),.int .i64 1,.int .i64 3,a.page,(),(),a.o.kind,a.o.slot,a.o.old,a.o.new,.int .i64 1,(),"",(),(),"s","s"] 49 (0,0))from by have:=blkSet 3 hG (.int .i64 3);simpa using this
   have hSm:=show(w8.setCell ⟨g,3,none⟩ (.int .i64 3)).cell? ⟨w.heap.size,2,none⟩=some (.int .i64 a.n)from by rw[((show Below g w8 w8 from⟨rfl,rfl,rfl,Nat.le_refl _,fun _ _=>rfl⟩).setCell (p:=⟨g,3,none⟩) (Nat.le_refl _) (.int .i64 3)).cell (p:=⟨w.heap.size,2,none⟩) (by show w.heap.size<g;omega)];exact hSn
   have hQm:=hQ.setCell (p:=⟨g,3,none⟩) (Nat.le_refl _) (.int .i64 3)
   clear hSn hG hQ
   have hG:=hGm
   have hSn:=hSm
   have hQ:=hQm
   clear hGm hSm hQm
   generalize w8.setCell ⟨g,3,none⟩ (.int .i64 3)=w3 at hG hSn hQ ⊢
   refine hKo hK (fun hHeld=>?_)
   clear hK K
   refine tkP 4 ?_ (hy:=by
    intro u hSu;have hcl:=hSu
    clear hSu;go_simp;(try with_reducible rfl))
   refine rdP 5 fun K hK=>?_
   have hcq:=show w3.cell? ⟨g,11,none⟩=some (.int .i64 1)from by rw[blkCell hG];rfl
   have hzq:=blkFrozen hG 11
   go_simp
   clear hcq hzq
   have hGm:=show(w3.setCell ⟨g,11,none⟩ (.int .i64 0)).heap[g]? =some (.cells #[(),(),.int .i64 1,.int .i64 3,a.page,(),(),a.o.kind,a.o.slot,a.o.old,a.o.new,(),(),"",(),(),"s","s"] 49 (0,0))from by have:=blkSet 11 hG (.int .i64 0);simpa using this
   have hSm:=show(w3.setCell ⟨g,11,none⟩ (.int .i64 0)).cell? ⟨w.heap.size,2,none⟩=some (.int .i64 a.n)from by rw[((show Below g w3 w3 from⟨rfl,rfl,rfl,Nat.le_refl _,fun _ _=>rfl⟩).setCell (p:=⟨g,11,none⟩) (Nat.le_refl _) (.int .i64 0)).cell (p:=⟨w.heap.size,2,none⟩) (by show w.heap.size<g;omega)];exact hSn
   have hQm:=hQ.setCell (p:=⟨g,11,none⟩) (Nat.le_refl _) (.int .i64 0)
   clear hSn hG hQ
   have hG:=hGm
   have hSn:=hSm
   have hQ:=hQm
   clear hGm hSm hQm
   generalize w3.setCell ⟨g,11,none⟩ (.int .i64 0)=w4 at hG hSn hQ ⊢
   refine hKo hK (fun hHeld=>?_)
   clear hK K
   refine tkP 6 ?_ (hy:=by
    intro u hSu;have hcl:=hSu
    clear hSu;go_simp;(try with_reducible rfl))
   refine rdP 7 fun K hK=>?_
   have hcq:=show w4.cell? ⟨g,5,none⟩=some (.int .i64 0)from by rw[blkCell hG];rfl
   have hzq:=blkFrozen hG 5
   go_simp
   clear hcq hzq
   have hGm:=show(w4.setCell ⟨g,5,none⟩ (.int .i64 a.n)).heap[g]? =some (.cells #[(),(),.int .i64 1,.int .i64 3,a.page,a.n,(),a.o.kind,a.o.slot,a.o.old,a.o.new,(),(),"",(),(),"s","s"] 49 (0,0))from by have:=blkSet 5 hG (.int .i64 a.n);simpa using this
   have hSm:=show(w4.setCell ⟨g,5,none⟩ (.int .i64 a.n)).cell? ⟨w.heap.size,2,none⟩=some (.int .i64 a.n)from by rw[((show Below g w4 w4 from⟨rfl,rfl,rfl,Nat.le_refl _,fun _ _=>rfl⟩).setCell (p:=⟨g,5,none⟩) (Nat.le_refl _) (.int .i64 a.n)).cell (p:=⟨w.heap.size,2,none⟩) (by show w.heap.size<g;omega)];exact hSn
   have hQm:=hQ.setCell (p:=⟨g,5,none⟩) (Nat.le_refl _) (.int .i64 a.n)
   clear hSn hG hQ
   have hG:=hGm
   have hSn:=hSm
   have hQ:=hQm
   clear hGm hSm hQm
   generalize w4.setCell ⟨g,5,none⟩ (.int .i64 a.n)=w5 at hG hSn hQ ⊢
   refine hKo hK (fun hHeld=>?_)
   clear hK K
   refine wpAnyH_done Kr ?_ _
   clear hHeld
   go_wp2_with fail
   go_meet
   case rel=>exact⟨hG,hQ⟩
  case rest=>
   obtain⟨hg3,hb3⟩:=hcut
   have H3:=Hq (H1.out.under (M:=g) (by simp;omega) hb3)
   have HG3:=Hq hg3
   clear hg3 hb3
   go_wp2_with (first|(with_reducible refine lL HG3.out Tryz.underlying49 ?_)|(with_reducible refine lS #[(),(),.int .i64 1,.int .i64 3,a.page,a.n,(),a.o.kind,a.o.slot,a.o.old,a.o.new,(),(),"",(),(),"s","s"] H3.out.get1 ?_))
   refine bodyPost_ret (v:=.agg #[(),(),.int .i64 1,.int .i64 3,a.page,a.n,(),a.o.kind,a.o.slot,a.o.old,a.o.new,(),(),"",(),(),"s","s"]) (results_cell rfl _ _ rfl (load_whole (setRow_heap _ _ _ _ _ _ H3.out.get1) Tryz.underlying49 Kr Kr)) rfl ?_
   exact HY.out HK.out _ (H3.out.row 1 _ _ rfl).below
 ·have hkb:(a.kind==4)=false:=beq_eq_false_iff_ne.2 h4
  have HK:=Hq h4
  clear h4 HY
  go_wp2_with (first|(with_reducible refine lL HG1.out Tryz.underlying49 ?_)|(with_reducible refine lS #[(),(),.int .i64 1,.int .i64 2,a.page,(),(),a.o.kind,a.o.slot,a.o.old,a.o.new,.int .i64 1,(),"",(),(),"s","s"] H1.out.get1 ?_))
  refine bodyPost_ret (v:=.agg #[(),(),.int .i64 1,.int .i64 2,a.page,(),(),a.o.kind,a.o.slot,a.o.old,a.o.new,.int .i64 1,(),"",(),(),"s","s"]) (results_cell rfl _ _ rfl (load_whole (setRow_heap _ _ _ _ _ _ H1.out.get1) Tryz.underlying49 Kr Kr)) rfl ?_
  exact HN.out HK.out _ (H1.out.row 1 _ _ rfl).below
end Go.Proofs.YtmfkhdhnbkambaaGreatDoor
