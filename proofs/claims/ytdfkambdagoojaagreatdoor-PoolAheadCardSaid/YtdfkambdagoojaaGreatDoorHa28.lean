import Derived.Test.YtdfkambdagoojaaGreatDoorHa00
import Derived.Test.YtdfkambdagoojaaGreatDoorHa27
import Derived.Test.YtdfkambdagoojaaGreatDoorHa11
set_option maxRecDepth 100000
set_option maxHeartbeats 16000000
set_option linter.unusedSimpArgs false
namespace Go.Proofs.YtdfkambdagoojaaGreatDoor
open Go.RowKit Sc
def hF (p:Int)(m:Bool):Fr:=⟨p,newB (0:Nat),0,m,0⟩
theorem hF_full (p:Int)(m:Bool):Full (hF p m):=is_full (new_nrm 0 (by omega)).1.is
theorem blank_load {N n k:Nat}(hn:1≤n∧n≤60∧N≤3000)(hN:10≤N)(hk:1≤k∧k≤64){p:Nat}(hp:p<n):loadF (blankS N n k) (p:Int)=(newB (0:Nat),0):=
 (blank_pq hn hN hk).read hp fun⟨i,hi,h1,_⟩=>by rw[Full,freeF_at hi]at h1;exact h1 rfl
theorem aw_none {fs:List Fr}{a b:Fr}(h:fs=[a,b]){p:Int}(ha:¬ (Full a∧a.page=p))(hb:¬ (Full b∧b.page=p)):atF fs p=none:=atF_none fun x hx=>by
 subst h
 simp at hx
 rcases hx with rfl|rfl
 ·exact ha
 ·exact hb
theorem aw_h1:heldF (blankS 700 8 2) (freeF 2) 0=(⟨blankS 700 8 2,[hF 0 true,fr0],0⟩,0):=by
 have hl:=blank_load (N:=700) (n:=8) (k:=2) (by omega) (by omega) (by omega) (p:=0) (by omega)
 have ha:atF (freeF 2) 0=none:=aw_none (a:=fr0) (b:=fr0) rfl (fun h=>h.1 rfl) (fun h=>h.1 rfl)
 have hf:freeI (freeF 2)=some 0:=freeI_some (fs:=[fr0,fr0]) (k:=0) (by decide) (fun h=>h rfl) (fun j _ hj=>absurd hj (by omega))
 have hr:roomF (blankS 700 8 2) (freeF 2)=(⟨blankS 700 8 2,freeF 2,0⟩,0):=by unfold roomF;rw[hf]
 unfold heldF
 rw[if_neg (fun hn=>hn ⟨Int.le_refl _,by show(0:Int)<8;decide⟩),ha]
 simp only
 rw[show loadF (blankS 700 8 2) 0=_ from hl,if_neg (fun hn=>hn rfl),hr,if_pos rfl]
 rfl
theorem aw_1:getF (blankS 700 8 2) (freeF 2) 0=(⟨blankS 700 8 2,[hF 0 true,fr0],0⟩,newB (0:Nat)):=by
 unfold getF
 rw[aw_h1]
 rfl
theorem aw_h2:heldF (blankS 700 8 2) [hF 0 true,fr0] 1=(⟨blankS 700 8 2,[hF 0 true,hF 1 true],0⟩,1):=by
 have hl:=blank_load (N:=700) (n:=8) (k:=2) (by omega) (by omega) (by omega) (p:=1) (by omega)
 have ha:atF [hF 0 true,fr0] 1=none:=aw_none rfl (fun h=>absurd h.2 (by show ¬ (0:Int)=1;decide)) (fun h=>h.1 rfl)
 have hf:freeI [hF 0 true,fr0]=some 1:=freeI_some (k:=1) (by show 1<2;decide) (fun h=>h rfl) (fun j _ hj=>by
  obtain rfl:j=0:=by omega
  exact fun h=>h (hF_full 0 true))
 have hr:roomF (blankS 700 8 2) [hF 0 true,fr0]=(⟨blankS 700 8 2,[hF 0 true,fr0],0⟩,1):=by unfold roomF;rw[hf]
 unfold heldF
 rw[if_neg (fun hn=>hn ⟨by decide,by show(1:Int)<8;decide⟩),ha]
 simp only
 rw[show loadF (blankS 700 8 2) 1=_ from hl,if_neg (fun hn=>hn rfl),hr,if_pos rfl]
 rfl
theorem aw_2:getF (blankS 700 8 2) [hF 0 true,fr0] 1=(⟨blankS 700 8 2,[hF 0 true,hF 1 true],0⟩,newB (0:Nat)):=by
 unfold getF
 rw[aw_h2]
 rfl
theorem aw_h3:heldF (blankS 700 8 2) [hF 0 true,hF 1 true] 2=(⟨{blankS 700 8 2 with hand:=1},[hF 2 true,hF 1 false],0⟩,0):=by
 have hl:=blank_load (N:=700) (n:=8) (k:=2) (by omega) (by omega) (by omega) (p:=2) (by omega)
 have ha:atF [hF 0 true,hF 1 true] 2=none:=aw_none rfl (fun h=>absurd h.2 (by show ¬ (0:Int)=2;decide)) (fun h=>absurd h.2 (by show ¬ (1:Int)=2;decide))
 have hf:freeI [hF 0 true,hF 1 true]=none:=freeI_none fun x hx=>by
  simp at hx
  rcases hx with rfl|rfl
  ·exact fun h=>h (hF_full 0 true)
  ·exact fun h=>h (hF_full 1 true)
 have hv:vicF 2 (2*2) ((blankS 700 8 2).hand.toNat%2) [hF 0 true,hF 1 true]=some (0,[hF 0 false,hF 1 false]):=rfl
 have hr:roomF (blankS 700 8 2) [hF 0 true,hF 1 true]=(⟨{blankS 700 8 2 with hand:=1},[hF 0 false,hF 1 false],0⟩,0):=by
  unfold roomF
  rw[hf]
  simp only[List.length_cons,List.length_nil]
  rw[hv]
  rfl
 unfold heldF
 rw[if_neg (fun hn=>hn ⟨by decide,by show(2:Int)<8;decide⟩),ha]
 simp only
 rw[show loadF (blankS 700 8 2) 2=_ from hl,if_neg (fun hn=>hn rfl),hr,if_pos rfl]
 rfl
theorem aw_3:getF (blankS 700 8 2) [hF 0 true,hF 1 true] 2=(⟨{blankS 700 8 2 with hand:=1},[hF 2 true,hF 1 false],0⟩,newB (0:Nat)):=by
 unfold getF
 rw[aw_h3]
 rfl
theorem pat_is (s:Tx.St)(p:SP)(fs:List Fr)(hl:fs.length≤1000)(x:Int)(k:Int)(hk:∀ y:Int,((y= -1∧∀ f∈fs,¬ (Full f∧f.page=x))∨∃ (i:Nat) (h:i<fs.length),y=(i:Int)∧(Full fs[i]∧fs[i].page=x)∧∀ j (hj:j<i),¬ (Full (fs[j]'(by omega))∧(fs[j]'(by omega)).page=x))→y=k)(w:World)(h:PoolR w s p fs):
 Calls Tryz.prog 19 #[storeV s p,x] w fun e w'=>e= .returned (.int .i64 k)∧Below w.heap.size w w':=
 (pat_any s p fs hl x w h).mono fun e w' ⟨y,h1,h2,h3⟩=>⟨by rw[h1,hk y h2],h3⟩
theorem lawake_any (w:World):
 Calls Tryz.prog 6 #[] w fun e w'=>e= .returned (.bool true)∧Below w.heap.size w w':=by
 have HSI:=Hq (fun W=>show Calls Tryz.prog 8 #[.int .i64 1] W fun e w'=>e= .returned (.agg #[.int .i64 ((700:Nat):Int),.int .i64 ((8:Nat):Int),.int .i64 ((2:Nat):Int)])∧Below W.heap.size W w' from(lsize_any 1 (by omega) W).mono fun e w' ⟨k,_,h2,h3,h4⟩=>by
  have hk:k=2:=by have h9:(k:Int)=2:=h2;omega
  subst hk
  exact⟨h3,h4⟩)
 have HBL:=Hq (fun W=>rblank_any 700 8 2 (by omega) (by omega) W)
 have hwf:=blank_wf (N:=700) (n:=8) (k:=2) (by omega) (by omega) (by omega)
 have HG1:=Hq (fun q W (hp:PoolR W (blankS 700 8 2) q (freeF 2))=>show Calls Tryz.prog 27 #[storeV (blankS 700 8 2) q,()] W (GtR (⟨(blankS 700 8 2),[hF 0 true,fr0],0⟩,newB (0:Nat)) W)from by rw[← aw_1];exact pfget_any (blankS 700 8 2) q (freeF 2) hwf (by omega) 0 W hp)
 have hwf1:Wf 700 8 0 (blankS 700 8 2) [hF 0 true,fr0]:=by
  have h:=(hwf.held 0).1
  rw[aw_h1]at h
  exact h
 have HG2:=Hq (fun q W (hp:PoolR W (blankS 700 8 2) q [hF 0 true,fr0])=>show Calls Tryz.prog 27 #[storeV (blankS 700 8 2) q,.int .i64 1] W (GtR (⟨(blankS 700 8 2),[hF 0 true,hF 1 true],0⟩,newB (0:Nat)) W)from by rw[← aw_2];exact pfget_any (blankS 700 8 2) q [hF 0 true,fr0] hwf1 (by omega) 1 W hp)
 have hwf2:Wf 700 8 0 (blankS 700 8 2) [hF 0 true,hF 1 true]:=by
  have h:=(hwf1.held 1).1
  rw[aw_h2]at h
  exact h
 have HG3:=Hq (fun q W (hp:PoolR W (blankS 700 8 2) q [hF 0 true,hF 1 true])=>show Calls Tryz.prog 27 #[storeV (blankS 700 8 2) q,.int .i64 2] W (GtR (⟨{blankS 700 8 2 with hand:=1},[hF 2 true,hF 1 false],0⟩,newB (0:Nat)) W)from by rw[← aw_3];exact pfget_any (blankS 700 8 2) q [hF 0 true,hF 1 true] hwf2 (by omega) 2 W hp)
 have HA0:=Hq (fun q W (hp:PoolR W {blankS 700 8 2 with hand:=1} q [hF 2 true,hF 1 false])=>pat_is {blankS 700 8 2 with hand:=1} q [hF 2 true,hF 1 false] (by decide) 0 (-1) (fun y hy=>by
  rcases hy with⟨h,_⟩|⟨i,hi,_,⟨_,h2⟩,_⟩
  ·exact h
  ·have hi2:i=0∨i=1:=by have:i<2:=hi;omega
   rcases hi2 with rfl|rfl
   ·exact absurd h2 (by show ¬ (2:Int)=0;decide)
   ·exact absurd h2 (by show ¬ (1:Int)=0;decide)) W hp)
 have HA1:=Hq (fun q W (hp:PoolR W {blankS 700 8 2 with hand:=1} q [hF 2 true,hF 1 false])=>pat_is {blankS 700 8 2 with hand:=1} q [hF 2 true,hF 1 false] (by decide) 1 1 (fun y hy=>by
  rcases hy with⟨_,h⟩|⟨i,hi,h1,⟨_,h2⟩,_⟩
  ·exact absurd ⟨hF_full 1 false,rfl⟩ (h (hF 1 false) (by simp))
  ·have hi2:i=0∨i=1:=by have:i<2:=hi;omega
   rcases hi2 with rfl|rfl
   ·exact absurd h2 (by show ¬ (2:Int)=1;decide)
   ·exact h1) W hp)
 have HA2:=Hq (fun q W (hp:PoolR W {blankS 700 8 2 with hand:=1} q [hF 2 true,hF 1 false])=>pat_is {blankS 700 8 2 with hand:=1} q [hF 2 true,hF 1 false] (by decide) 2 0 (fun y hy=>by
  rcases hy with⟨_,h⟩|⟨i,hi,h1,⟨_,h2⟩,_⟩
  ·exact absurd ⟨hF_full 2 true,rfl⟩ (h (hF 2 true) (by simp))
  ·have hi2:i=0∨i=1:=by have:i<2:=hi;omega
   rcases hi2 with rfl|rfl
   ·exact h1
   ·exact absurd h2 (by show ¬ (1:Int)=2;decide)) W hp)
 have HNW:=Hq (fun W=>rnew_any 0 W)
 have hnb:((newB (0:Nat)).toList==(newB 0).toList)=true:=beq_self_eq_true _
 clear hwf hwf1 hwf2
 generalize {blankS 700 8 2 with hand:=1}=S3 at HG3 HA0 HA1 HA2
 generalize (blankS 700 8 2)=S0 at HBL HG1 HG2 HG3
 generalize [hF 2 true,hF 1 false]=f3 at HG3 HA0 HA1 HA2
 generalize [hF 0 true,hF 1 true]=f2 at HG2 HG3
 generalize [hF 0 true,fr0]=f1 at HG1 HG2
 go_enter Tryz.func6,Tryz.ntmps6
 go_upto_region 2 with(first
  |(go_at_call 8;(refine(HSI.out _).mono ?_);rintro e w1 ⟨rfl,hb1⟩)
  |(go_at_call 7;(refine(HBL.out _).mono ?_);rintro e w2 ⟨q,rfl,hp2,hb2⟩)
  |(with_reducible refine sN (stA S0 q) ?_))
 have HB0:=Hq (heap_alloc_new w2 (.cells (stA S0 q) 36))
 have HP0:=Hq (hp2.below (allocB w2 (.cells (stA S0 q) 36)))
 have HW0:=Hq (joinB hb1 (joinB hb2 (allocB w2 (.cells (stA S0 q) 36))))
 have HGE:=Hq (show w.heap.size≤w2.heap.size from Nat.le_trans hb1.size hb2.size)
 obtain⟨g,hg⟩:=ex w2.heap.size
 obtain⟨u0,hu0⟩:=ex (w2.alloc (.cells (stA S0 q) 36))
 obtain⟨q0,hq0⟩:=ex q
 rw[← hg,← hu0,← hq0]at HB0
 rw[← hu0,← hq0]at HP0
 rw[← hu0]at HW0
 rw[← hg]at HGE
 rw[← hu0,← hg]
 clear hu0 hg hq0 hp2 hb1 hb2 HBL HSI
 try simp only[Act.put]
 go_upto_region 3 with(first
  |(with_reducible refine lL HB0.out Tryz.underlying36 ?_)
  |(go_at_call 27;(refine(HG1.out q0 _ HP0.out).mono ?_);rintro e v1 ⟨q1,rfl,hp1,hb1⟩;have HC1:=Hq (blkOld HB0.out hb1))
  |(with_reducible refine lS (stA S0 q1) HC1.out ?_))
 have HB1:=Hq (setRow_heap _ _ _ (stA S0 q1) _ _ HC1.out)
 have HP1:=Hq (hp1.other (t:=36) HC1.out (by decide) (by decide) (by decide) (stA S0 q1))
 have HW1:=Hq (rowB (g:=g) HGE.out (joinB HW0.out hb1) (stA S0 q1))
 generalize v1.setRow g (stA S0 q1)=u1 at HB1 HP1 HW1 ⊢
 clear hp1 hb1 HC1 HB0 HP0 HW0 HG1
 try simp only[Act.put]
 go_upto_region 4 with(first
  |(with_reducible refine lL HB1.out Tryz.underlying36 ?_)
  |(go_at_call 27;(refine(HG2.out q1 _ HP1.out).mono ?_);rintro e v2 ⟨q2,rfl,hp2,hb2⟩;have HC2:=Hq (blkOld HB1.out hb2))
  |(with_reducible refine lS (stA S0 q2) HC2.out ?_))
 have HB2:=Hq (setRow_heap _ _ _ (stA S0 q2) _ _ HC2.out)
 have HP2:=Hq (hp2.other (t:=36) HC2.out (by decide) (by decide) (by decide) (stA S0 q2))
 have HW2:=Hq (rowB (g:=g) HGE.out (joinB HW1.out hb2) (stA S0 q2))
 generalize v2.setRow g (stA S0 q2)=u2 at HB2 HP2 HW2 ⊢
 clear hp2 hb2 HC2 HB1 HP1 HW1 HG2
 try simp only[Act.put]
 go_upto_region 5 with(first
  |(with_reducible refine lL HB2.out Tryz.underlying36 ?_)
  |(go_at_call 27;(refine(HG3.out q2 _ HP2.out).mono ?_);rintro e v3 ⟨q3,rfl,hp3,hb3⟩;have HC3:=Hq (blkOld HB2.out hb3))
  |(with_reducible refine lS (stA S3 q3) HC3.out ?_))
 have HB3:=Hq (setRow_heap _ _ _ (stA S3 q3) _ _ HC3.out)
 have HP3:=Hq (hp3.other (t:=36) HC3.out (by decide) (by decide) (by decide) (stA S3 q3))
 have HW3:=Hq (rowB (g:=g) HGE.out (joinB HW2.out hb3) (stA S3 q3))
 generalize v3.setRow g (stA S3 q3)=u3 at HB3 HP3 HW3 ⊢
 clear hp3 hb3 HC3 HB2 HP2 HW2 HG3
 try simp only[Act.put]
 go_wp2_with (first
  |(with_reducible refine lL HB3.out Tryz.underlying36 ?_)
  |(go_at_call 28;(refine(HNW.out _).mono ?_);rintro e v4 ⟨rfl,hb4⟩;have HB4:=Hq (blkOld HB3.out hb4);have HP4:=Hq (HP3.out.below hb4))
  |(with_reducible refine lL HB4.out Tryz.underlying36 ?_)
  |(go_at_call 19;(refine(HA0.out q3 _ HP4.out).mono ?_);rintro e v5 ⟨rfl,hb5⟩;have HB5:=Hq (blkOld HB4.out hb5);have HP5:=Hq (HP4.out.below hb5))
  |(with_reducible refine lL HB5.out Tryz.underlying36 ?_)
  |(go_at_call 19;(refine(HA1.out q3 _ HP5.out).mono ?_);rintro e v6 ⟨rfl,hb6⟩;have HB6:=Hq (blkOld HB5.out hb6);have HP6:=Hq (HP5.out.below hb6))
  |(with_reducible refine lL HB6.out Tryz.underlying36 ?_)
  |(go_at_call 19;(refine(HA2.out q3 _ HP6.out).mono ?_);rintro e v7 ⟨rfl,hb7⟩))
 go_ret
 exact⟨by simp[hnb],joinB HW3.out (joinB hb4 (joinB hb5 (joinB hb6 hb7)))⟩
end Go.Proofs.YtdfkambdagoojaaGreatDoor
