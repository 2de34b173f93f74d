import Derived.Test.YtilakddepaplhaaGreatHb00
import Derived.Test.YtilakddepaplhaaGreatHs14
import Derived.Test.YtilakddepaplhaaGreatHb03
import Derived.Test.YtilakddepaplhaaGreatHb13
set_option maxRecDepth 100000
set_option maxHeartbeats 16000000
set_option linter.unusedSimpArgs false
namespace Go.Proofs.YtilakddepaplhaaGreat
open Go.RowKit
theorem lay_le (x:Pg.Leaf):(⟨(Pg.layL x).toArray⟩:ByteArray).size≤512:=by
 show(Pg.layL x).toArray.size≤512
 by_cases h:512<Pg.sizeN (Pg.trim x.recs)
 ·rw[Pg.layL_nil h];decide
 ·have:=Pg.layL_length (x:=x) (by omega);simp[this]
theorem lsnB_le (p:ByteArray)(n:Int):(lsnB p n).size≤512:=by
 unfold lsnB
 split
 ·exact Nat.zero_le _
 ·exact lay_le _
theorem newB_le (n:Int):(newB n).size≤512:=by
 unfold newB
 split
 ·exact Nat.zero_le _
 ·exact lay_le _
theorem putO_le (p:ByteArray)(i:Int)(r:ByteArray):(putO p i r).1.size≤512:=by
 unfold putO
 split;exact Nat.zero_le _
 split;exact Nat.zero_le _
 split;exact Nat.zero_le _
 split;exact Nat.zero_le _
 split;exact Nat.zero_le _
 generalize withRecs p (Pg.putAt (leafP p).recs i.toNat r)=x
 by_cases h:512<Pg.sizeN (Pg.trim x.recs)
 ·rw[Pg.fullO_no h];exact Nat.zero_le _
 ·rw[Pg.fullO_yes (by omega)];exact lay_le x
theorem new0_ne:newB 0≠⟨#[]⟩:=by
 intro h
 have h1:=congrArg ByteArray.size h
 unfold newB at h1
 rw[if_neg (by omega)]at h1
 have h2:=Pg.layL_length (x:=⟨0,0,0,[]⟩) (by decide)
 have h3:(Pg.layL ⟨0,(0:Int).toNat,0,[]⟩).toArray.size=0:=h1
 simp at h3
 rw[h3]at h2
 cases h2
theorem lsn_ne {p:ByteArray}(h:isPg p=true):lsnB p ((leafP p).lsn:Nat)≠⟨#[]⟩:=by
 intro h0
 have hg:=Pg.leafOf_good p.data.toList
 have h1:=congrArg ByteArray.size h0
 unfold lsnB at h1
 have h2:(leafP p).lsn<281474976710656:=hg.fine.small.1
 rw[if_neg (by rw[h];simp;omega)]at h1
 have h3:=Pg.layL_length (x:=⟨((leafP p).lsn:Int).toNat,(leafP p).kind,(leafP p).link,(leafP p).recs⟩) (Nat.le_trans (Pg.sizeN_trim _) hg.fits)
 have h4:(Pg.layL ⟨((leafP p).lsn:Int).toNat,(leafP p).kind,(leafP p).link,(leafP p).recs⟩).toArray.size=0:=h1
 simp at h4 h3
 rw[h4]at h3
 cases h3
def opNew:ByteArray:=⟨#[97]⟩
def zeroP:ByteArray:=⟨(List.replicate 512 0).toArray⟩
theorem rload_any (s:Tx.St)(p:SP)(hd:DkI s.disk)(hz:0≤s.zlog∧s.zlog≤100)(n:Int)(hn:0≤n∧n≤100)(w:World)(h:DiskR w s.disk p.A p.c):
 Calls Tryz.prog 96 #[storeV s p,n] w fun e w'=>∃ (b:ByteArray) (x:Int),e= .returned (.tuple #[b,x])∧b.size≤512∧(x=0→b≠⟨#[]⟩)∧Below w.heap.size w w':=by
 have HSE:=Hq (fun W=>rsector_at s p n (by omega) (by omega) W)
 have HRP:=Hq (fun W (hb:Below w.heap.size w W)=>rreadpage_any s.disk hd p.A p.c (1+s.zlog+4*n) (by omega) W (h.below hb))
 clear h hd hz hn
 generalize 1+s.zlog+4*n=at_ at HSE HRP
 go_enter Tryz.func96,Tryz.ntmps96
 go_upto_region 1 with fail
 have H0:=nW1 w (stA s p) 37
 obtain⟨W0,hW0⟩:=exW H0
 rw[← hW0]at H0 ⊢
 clear hW0
 go_cut [6,7] (fun x y wc=>∃ (b:ByteArray) (e:Int),x= .string b∧y= .int .i64 e∧b.size≤512∧Below W0.heap.size W0 wc)
 case first=>
  have hSn:Below W0.heap.size W0 W0.drew:=(Below.refl _ W0).drew
  refine rgH (S:=(fun u=>Below W0.heap.size W0 u)) (fun hHeld=>?_)
  generalize W0.drew=w9 at hSn ⊢
  refine tkP 0 ?_
  refine tkV 1 (some 10) (v:=.agg #[.slice p.A s.disk.sectors.length p.c,s.disk.left,s.disk.down]) rfl (yieldsIf_load_mid (by rfl) 29 (.tmp 9) rfl w.heap.size 3 (by rfl) [.slice p.A s.disk.sectors.length p.c,.int .i64 s.disk.left,.bool s.disk.down] _ (fun u hu j v hj=>by rw[blkCell (blkOld H0.out.get0 hu)];rcases j with _|_|_|j<;>simp at hj ⊢<;>exact hj) Tryz.underlying29 Kr Kr) ?_
  try simp only[Act.put,pS]
  refine tkV 2 (some 11) (v:=.agg (stA s p)) rfl (yieldsIf_load_mid (by rfl) 37 (.tmp 2) rfl w.heap.size 0 (by rfl) (stA s p).toList _ (fun u hu=>(by intro j v hj;rw[Nat.zero_add,blkCell (blkOld H0.out.get0 hu)];simpa using hj)) Tryz.underlying37 Kr Kr) ?_
  try simp only[Act.put,pS]
  refine tkP 3 ?_
  refine rdP 4 fun K hK=>?_
  go_simp
  (refine(HSE.out _).mono ?_);rintro e w2 ⟨rfl,hb2⟩;have hSm:=joinB hSn hb2;clear hSn hb2;have hSn:=hSm;clear hSm
  refine hKo hK (fun hHeld=>?_)
  clear hK K
  refine rdP 5 fun K hK=>?_
  go_simp
  (refine(HRP.out _ (H0.out.below.trans (hSn.mono H0.out.below.size))).mono ?_);rintro e w3 ⟨b5,x5,rfl,hbs5,-,hb3⟩;have hSm:=joinB hSn hb3;clear hSn hb3;have hSn:=hSm;clear hSm
  refine hKo hK (fun hHeld=>?_)
  clear hK K
  refine tkP 6 ?_;refine tkP 7 ?_;refine tkP 8 ?_;refine tkP 9 ?_;refine tkP 10 ?_
  refine wpAnyH_done Kr ?_ _
  clear hHeld
  go_wp2_with fail
  go_meet
  case rel=>exact⟨b5,x5,rfl,rfl,hbs5,hSn⟩
 case rest=>
  obtain⟨b,x,rfl,rfl,hbs,hbc⟩:=hcut
  obtain⟨w1,rfl⟩:=ex wc
  have HB1:=Hq (H0.out.below.trans (hbc.mono H0.out.below.size))
  clear hbc H0 HSE HRP
  by_cases hx:x=0
  ·have hxb:(x != 0)=false:=by rw[hx];rfl
   have hmk:∀ W:World,(Instr.makeSlice 120 (.int .i64 512) (.int .i64 512)).run Tryz.prog W= .ok (.slice (some ⟨W.heap.size,0,none⟩) 512 512) (W.alloc (.cells (madeCells #[Value.int .u8 0] 512) 5)):=fun W=>pmake_zeros 512 (by omega) W
   have hcv:=pzeros_back 512
   rw[show(⟨(List.replicate 512 0).toArray⟩:ByteArray)=zeroP from rfl]at hcv
   have hb2:=allocB w1 (.cells (madeCells #[Value.int .u8 0] 512) 5)
   by_cases hzp:b=zeroP
   ·have hq:(b.toList==zeroP.toList)=true:=by rw[hzp];exact beq_self_eq_true _
    clear hzp
    go_wp2_with (go_at_call 146;(refine(rnew_any 0 _).mono ?_);rintro e w2 ⟨rfl,hb3⟩)
    go_ret2
    exact⟨newB 0,0,rfl,newB_le 0,fun _=>new0_ne,HB1.out.trans ((hb2.mono HB1.out.size).trans (hb3.mono (Nat.le_trans HB1.out.size hb2.size)))⟩
   ·have hq:(b.toList==zeroP.toList)=false:=by
     rw[beq_eq_false_iff_ne]
     intro h
     rw[ByteArray.toList_eq,ByteArray.toList_eq]at h
     exact hzp (ByteArray.ext (Array.toList_inj.1 h))
    have HSD:=Hq (fun W=>rsealed_any b (by omega) W)
    have HLS:=Hq (fun W=>rlsn_any b (by omega) W)
    have HSL:=Hq (fun m W=>rsetlsn_any b m (by omega) W)
    cases hsd:sealedP b with
    |true=>
     have hpg:isPg b=true:=by unfold sealedP at hsd;rw[Bool.and_eq_true]at hsd;exact hsd.1
     have HNE:=Hq (lsn_ne hpg)
     rw[hsd]at HSD
     clear hsd hpg
     go_wp2_with (first
      |(go_at_call 147;(refine(HSD.out _).mono ?_);rintro e w2 ⟨rfl,hb3⟩)
      |(go_at_call 148;(refine(HLS.out _).mono ?_);rintro e w3 ⟨rfl,hb4⟩)
      |(go_at_call 60;(refine(HSL.out _ _).mono ?_);rintro e w4 ⟨rfl,hb5⟩))
     go_ret2
     have hb:=joinB hb3 (joinB hb4 hb5)
     exact⟨_,0,rfl,lsnB_le _ _,fun _=>HNE.out,HB1.out.trans ((hb2.mono HB1.out.size).trans (hb.mono (Nat.le_trans HB1.out.size hb2.size)))⟩
    |false=>
     rw[hsd]at HSD
     clear hsd
     go_wp2_with (go_at_call 147;(refine(HSD.out _).mono ?_);rintro e w2 ⟨rfl,hb3⟩)
     go_ret2
     exact⟨⟨#[]⟩,19,rfl,Nat.zero_le _,(fun h=>absurd h (by decide)),HB1.out.trans ((hb2.mono HB1.out.size).trans (hb3.mono (Nat.le_trans HB1.out.size hb2.size)))⟩
  ·have hxb:(x != 0)=true:=bne_iff_ne.2 hx
   go_wp2_with fail
   go_ret2
   exact⟨⟨#[]⟩,x,rfl,Nat.zero_le _,fun h=>absurd h hx,HB1.out⟩
def doneT (p:ByteArray):ByteArray×Bool:=((putO p 0 opNew).1,decide ((putO p 0 opNew).2=0))
theorem done_pg {p:ByteArray}(h:(doneT p).2=true):isPg p=true:=by
 unfold doneT putO at h
 cases hp:isPg p with
 |true=>rfl
 |false=>rw[hp]at h;simp at h
theorem rdone1_any (p:ByteArray)(hp:p.size≤512)(w:World):
 Calls Tryz.prog 100 #[p,.agg #[.int .i64 1,(),"",opNew]] w fun e w'=>e= .returned (.tuple #[.string (doneT p).1,.bool (doneT p).2])∧Below w.heap.size w w':=by
 have HG:=Hq (fun W=>rget_any_rec p 0 (by omega) W)
 have HPU:=Hq (fun W=>rpput_any p 0 opNew (by omega) W)
 unfold doneT
 generalize putO p 0 opNew=y at HPU ⊢
 obtain⟨q,x⟩:=y
 dsimp only[outV]at HPU
 simp only
 by_cases hx:x=0
 ·skip
  have hxb:(x==0)=true:=by rw[hx];rfl
  have hxd:decide (x=0)=true:=decide_eq_true hx
  rw[hxd]
  clear hx hxd
  go_enter Tryz.func100,Tryz.ntmps100
  go_upto_region 1 with fail
  have H0:=nW1 w #[.int .i64 1,(),"",opNew] 48
  obtain⟨W0,hW0⟩:=exW H0
  rw[← hW0]at H0 ⊢
  clear hW0
  have hk0:=show W0.cell? ⟨w.heap.size,0,none⟩=some (.int .i64 1)from by rw[blkCell H0.out.get0];rfl
  have hk1:=show W0.cell? ⟨w.heap.size,1,none⟩=some (.int .i64 0)from by rw[blkCell H0.out.get0];rfl
  go_upto_region 6 with(go_at_call 152;(refine(HG.out _).mono ?_);rintro e w2 ⟨rfl,hb2⟩;have hk2:=show w2.cell? ⟨w.heap.size,0,none⟩=some (.int .i64 1)from by rw[blkCell (H0.out.step hb2).get0];rfl)
  have H2:=Hq (H0.out.step hb2)
  have hk3:=show w2.cell? ⟨w.heap.size,1,none⟩=some (.int .i64 0)from by rw[blkCell H2.out.get0];rfl
  have hk4:=show w2.cell? ⟨w.heap.size,3,none⟩=some (.string opNew)from by rw[blkCell H2.out.get0];rfl
  go_upto_region 7 with(go_at_call 153;(refine(HPU.out _).mono ?_);rintro e w3 ⟨rfl,hb3⟩)
  have H3:=Hq (H2.out.step hb3)
  have hSn:Below w3.heap.size w3 w3.drew:=(Below.refl _ w3).drew
  have Hy:=Hq (fun(u:World) (hSu:Below w3.heap.size w3 u)=>(show u.cell? ⟨w.heap.size,2,none⟩=some (.string ⟨#[]⟩)from by rw[blkCell (blkOld H3.out.get0 hSu)];rfl))
  refine rgH (S:=(fun u=>Below w3.heap.size w3 u)) (fun hHeld=>?_)
  generalize w3.drew=w9 at hSn ⊢
  refine tkP 0 ?_;refine tkP 1 ?_;refine tkP 2 ?_;refine tkP 3 ?_;refine tkP 4 ?_;refine tkP 5 ?_;refine tkP 6 ?_;refine tkP 7 ?_;refine tkP 8 ?_;refine tkP 9 ?_
  refine wpAnyH_done Kr ?_ _
  clear hHeld
  go_wp2_with fail
  go_ret2
  exact⟨by simp,(H3.out.step (hSn)).below⟩
 ·have hxn:=hx
  have hxb:(x==0)=false:=beq_eq_false_iff_ne.2 hx
  have hxd:decide (x=0)=false:=decide_eq_false hx
  rw[hxd]
  clear hxn hxd
  go_enter Tryz.func100,Tryz.ntmps100
  go_upto_region 1 with fail
  have H0:=nW1 w #[.int .i64 1,(),"",opNew] 48
  obtain⟨W0,hW0⟩:=exW H0
  rw[← hW0]at H0 ⊢
  clear hW0
  have hk0:=show W0.cell? ⟨w.heap.size,0,none⟩=some (.int .i64 1)from by rw[blkCell H0.out.get0];rfl
  have hk1:=show W0.cell? ⟨w.heap.size,1,none⟩=some (.int .i64 0)from by rw[blkCell H0.out.get0];rfl
  go_upto_region 6 with(go_at_call 152;(refine(HG.out _).mono ?_);rintro e w2 ⟨rfl,hb2⟩;have hk2:=show w2.cell? ⟨w.heap.size,0,none⟩=some (.int .i64 1)from by rw[blkCell (H0.out.step hb2).get0];rfl)
  have H2:=Hq (H0.out.step hb2)
  have hk3:=show w2.cell? ⟨w.heap.size,1,none⟩=some (.int .i64 0)from by rw[blkCell H2.out.get0];rfl
  have hk4:=show w2.cell? ⟨w.heap.size,3,none⟩=some (.string opNew)from by rw[blkCell H2.out.get0];rfl
  go_upto_region 7 with(go_at_call 153;(refine(HPU.out _).mono ?_);rintro e w3 ⟨rfl,hb3⟩)
  have H3:=Hq (H2.out.step hb3)
  have hSn:Below w3.heap.size w3 w3.drew:=(Below.refl _ w3).drew
  have Hy:=Hq (fun(u:World) (hSu:Below w3.heap.size w3 u)=>(show u.cell? ⟨w.heap.size,2,none⟩=some (.string ⟨#[]⟩)from by rw[blkCell (blkOld H3.out.get0 hSu)];rfl))
  refine rgH (S:=(fun u=>Below w3.heap.size w3 u)) (fun hHeld=>?_)
  generalize w3.drew=w9 at hSn ⊢
  refine tkP 0 ?_;refine tkP 1 ?_;refine tkP 2 ?_;refine tkP 3 ?_
  refine tkO 4 (some 36) rfl ?_
  try simp only[Act.put,pS]
  refine tkO 5 (some 37) rfl ?_
  try simp only[Act.put,pS]
  refine tkO 6 (some 38) rfl ?_
  try simp only[Act.put,pS]
  refine tkP 7 ?_;refine tkP 8 ?_;refine tkP 9 ?_
  refine wpAnyH_done Kr ?_ _
  clear hHeld
  go_wp2_with fail
  go_ret2
  exact⟨by simp,(H3.out.step (hSn)).below⟩
theorem rright1_any (p:ByteArray)(hp:p.size≤512)(w:World):
 Calls Tryz.prog 99 #[p,.agg #[.int .i64 1,(),"",opNew]] w fun e w'=>e= .returned (.bool (doneT p).2)∧Below w.heap.size w w':=by
 have HD:=Hq (fun W=>rdone1_any p hp W)
 have HR:=Hq (fun W=>prright_any p (by omega) W)
 have HG:=Hq (@done_pg p)
 generalize doneT p=y at HD HG ⊢
 obtain⟨q,t⟩:=y
 simp only at HD HG ⊢
 cases t with
 |true=>
  have hg:=HG.out rfl
  rw[hg]at HR
  clear hg HG
  go_enter Tryz.func99,Tryz.ntmps99
  go_upto_region 1 with fail
  have H0:=nW1 w #[.int .i64 1,(),"",opNew] 48
  obtain⟨W0,hW0⟩:=exW H0
  rw[← hW0]at H0 ⊢
  clear hW0
  go_wp2_with (first
   |(with_reducible refine lL H0.out.get0 Tryz.underlying48 ?_)
   |(go_at_call 100;(refine(HD.out _).mono ?_);rintro e w2 ⟨rfl,hb2⟩)
   |(go_at_call 151;(refine(HR.out _).mono ?_);rintro e w3 ⟨rfl,hb3⟩))
  go_ret
  exact⟨by simp,(H0.out.step (joinB hb2 hb3)).below⟩
 |false=>
  clear HG
  go_enter Tryz.func99,Tryz.ntmps99
  go_upto_region 1 with fail
  have H0:=nW1 w #[.int .i64 1,(),"",opNew] 48
  obtain⟨W0,hW0⟩:=exW H0
  rw[← hW0]at H0 ⊢
  clear hW0
  go_wp2_with (first
   |(with_reducible refine lL H0.out.get0 Tryz.underlying48 ?_)
   |(go_at_call 100;(refine(HD.out _).mono ?_);rintro e w2 ⟨rfl,hb2⟩))
  go_ret
  exact⟨by simp,(H0.out.step hb2).below⟩
theorem rdo1_any (p:ByteArray)(hp:p.size≤512)(w:World):
 Calls Tryz.prog 56 #[p,.agg #[.int .i64 1,(),"",opNew]] w fun e w'=>∃ (q:ByteArray) (x:Int),e= .returned (.tuple #[q,x])∧q.size≤512∧Below w.heap.size w w':=by
 have HD:=Hq (fun W=>rdone1_any p hp W)
 have HR:=Hq (fun W=>rright1_any p hp W)
 have hle:(doneT p).1.size≤512:=putO_le p 0 opNew
 generalize doneT p=y at HD HR hle
 obtain⟨q,t⟩:=y
 simp only at HD HR hle
 cases t with
 |true=>
  go_enter Tryz.func56,Tryz.ntmps56
  go_upto_region 1 with fail
  have H0:=nW1 w #[.int .i64 1,(),"",opNew] 48
  obtain⟨W0,hW0⟩:=exW H0
  rw[← hW0]at H0 ⊢
  clear hW0
  go_wp2_with (first
   |(go_at_call 99;(refine(HR.out _).mono ?_);rintro e w2 ⟨rfl,hb2⟩;have H2:=Hq (H0.out.step hb2))
   |(go_at_call 100;(refine(HD.out _).mono ?_);rintro e w3 ⟨rfl,hb3⟩)
   |(with_reducible refine lL H2.out.get0 Tryz.underlying48 ?_)
   |(with_reducible refine lL H0.out.get0 Tryz.underlying48 ?_))
  go_ret2
  exact⟨q,0,rfl,hle,(H2.out.step hb3).below⟩
 |false=>
  go_enter Tryz.func56,Tryz.ntmps56
  go_upto_region 1 with fail
  have H0:=nW1 w #[.int .i64 1,(),"",opNew] 48
  obtain⟨W0,hW0⟩:=exW H0
  rw[← hW0]at H0 ⊢
  clear hW0
  go_wp2_with (first
   |(go_at_call 99;(refine(HR.out _).mono ?_);rintro e w2 ⟨rfl,hb2⟩;have H2:=Hq (H0.out.step hb2))
   |(with_reducible refine lL H0.out.get0 Tryz.underlying48 ?_))
  go_ret2
  exact⟨⟨#[]⟩,1,rfl,Nat.zero_le _,H2.out.below⟩
structure FrI (fs:List Fr):Prop where
 n4:fs.length=4
 pg:∀ i (hi:i<fs.length),fs[i].bytes≠⟨#[]⟩→0≤fs[i].page∧fs[i].page<4
 ds:∀ i j (hi:i<fs.length) (hj:j<fs.length),i≠j→fs[i].bytes≠⟨#[]⟩→fs[j].bytes≠⟨#[]⟩→fs[i].page≠fs[j].page
 sz:∀ i (hi:i<fs.length),fs[i].bytes.size≤512
theorem pig (a b c d n:Int)(ha:0≤a∧a<4)(hb:0≤b∧b<4)(hc:0≤c∧c<4)(hd:0≤d∧d<4)(hn:0≤n∧n<4):a≠b→a≠c→a≠d→b≠c→b≠d→c≠d→a≠n→b≠n→c≠n→d≠n→False:=by
 intros
 have:a=0∨a=1∨a=2∨a=3:=by omega
 have:b=0∨b=1∨b=2∨b=3:=by omega
 rcases ‹a=0∨a=1∨a=2∨a=3› with rfl|rfl|rfl|rfl<;>rcases ‹b=0∨b=1∨b=2∨b=3› with rfl|rfl|rfl|rfl<;>omega
theorem FrI.room {fs:List Fr}(h:FrI fs){n:Int}(hn:0≤n∧n<4)(hno:∀ j (hj:j<fs.length),fs[j].bytes≠⟨#[]⟩→fs[j].page≠n):¬ ∀ j (hj:j<fs.length),fs[j].bytes≠⟨#[]⟩:=by
 intro hall
 have h4:=h.n4
 have key:=fun i (hi:i<fs.length)=>h.pg i hi (hall i hi)
 have ne:=fun i j (hi:i<fs.length) (hj:j<fs.length) (hij:i≠j)=>h.ds i j hi hj hij (hall i hi) (hall j hj)
 have nn:=fun i (hi:i<fs.length)=>hno i hi (hall i hi)
 have l0:0<fs.length:=by omega
 have l1:1<fs.length:=by omega
 have l2:2<fs.length:=by omega
 have l3:3<fs.length:=by omega
 exact pig _ _ _ _ n (key 0 l0) (key 1 l1) (key 2 l2) (key 3 l3) hn (ne 0 1 l0 l1 (by omega)) (ne 0 2 l0 l2 (by omega)) (ne 0 3 l0 l3 (by omega)) (ne 1 2 l1 l2 (by omega)) (ne 1 3 l1 l3 (by omega)) (ne 2 3 l2 l3 (by omega)) (nn 0 l0) (nn 1 l1) (nn 2 l2) (nn 3 l3)
theorem FrI.keep {fs fs':List Fr}(h:FrI fs)(k:FrK fs fs'):FrI fs':=by
 have hl:=k.len
 refine⟨by rw[hl];exact h.n4,fun i hi hb=>?_,fun i j hi hj hij hb hc=>?_,fun i hi=>?_⟩
 ·obtain⟨h1,h2⟩:=k.at_ i (by omega) hi
  rw[h1];rw[h2]at hb;exact h.pg i (by omega) hb
 ·obtain⟨h1,h2⟩:=k.at_ i (by omega) hi
  obtain⟨h3,h4⟩:=k.at_ j (by omega) hj
  rw[h1,h3];rw[h2]at hb;rw[h4]at hc;exact h.ds i j (by omega) (by omega) hij hb hc
 ·rw[(k.at_ i (by omega) hi).2];exact h.sz i (by omega)
theorem FrI.put {fs:List Fr}(h:FrI fs)(k:Nat)(_hk:k<fs.length)(f:Fr)(hp:0≤f.page∧f.page<4)(hs:f.bytes.size≤512)(hno:∀ j (hj:j<fs.length),j≠k→fs[j].bytes≠⟨#[]⟩→fs[j].page≠f.page):FrI (fs.set k f):=by
 have at_:∀ i (hi:i<(fs.set k f).length),(i=k∧(fs.set k f)[i]=f)∨(i≠k∧∃ hi':i<fs.length,(fs.set k f)[i]=fs[i]):=fun i hi=>by
  rw[List.getElem_set]
  by_cases e:k=i
  ·rw[if_pos e];exact .inl ⟨e.symm,rfl⟩
  ·rw[if_neg e];exact .inr ⟨fun h=>e h.symm,by simpa using hi,rfl⟩
 refine⟨by rw[List.length_set];exact h.n4,fun i hi hb=>?_,fun i j hi hj hij hb hc=>?_,fun i hi=>?_⟩
 ·rcases at_ i hi with⟨_,e⟩|⟨_,hi',e⟩
  ·rw[e];exact hp
  ·rw[e]at hb ⊢;exact h.pg i hi' hb
 ·rcases at_ i hi with⟨e1,e⟩|⟨e1,hi',e⟩<;>rcases at_ j hj with⟨e2,e'⟩|⟨e2,hj',e'⟩
  ·exact absurd (e1.trans e2.symm) hij
  ·rw[e,e'];rw[e']at hc;exact fun h5=>hno j hj' e2 hc h5.symm
  ·rw[e,e'];rw[e]at hb;exact hno i hi' e1 hb
  ·rw[e,e'];rw[e]at hb;rw[e']at hc;exact h.ds i j hi' hj' hij hb hc
 ·rcases at_ i hi with⟨_,e⟩|⟨_,hi',e⟩
  ·rw[e];exact hs
  ·rw[e];exact h.sz i hi'
def GeOut (s:Tx.St)(n:Int)(w:World)(e:Ending)(w':World):Prop:=
 ∃ (q:SP) (fs':List Fr) (b:ByteArray) (x:Int),e= .returned (.tuple #[storeV s q,b,x])∧PoolR w' s q fs'∧FrI fs'∧b.size≤512∧(x=0→∃ (k:Nat) (hk:k<fs'.length),fs'[k].page=n∧fs'[k].bytes≠⟨#[]⟩)∧Below w.heap.size w w'
theorem rroom_at (s:Tx.St)(p:SP)(fs:List Fr)(hfl:fs.length≤100)(hno:¬ ∀ j (hj:j<fs.length),fs[j].bytes≠⟨#[]⟩)(w:World)(h:PoolR w s p fs):
 Calls Tryz.prog 97 #[storeV s p] w fun e w'=>∃ (k:Nat) (hk:k<fs.length),e= .returned (.tuple #[storeV s p,k,()])∧fs[k].bytes=⟨#[]⟩∧Below w.heap.size w w':=by
 have HFE:=Hq (fun W (hb:Below w.heap.size w W)=>rfree_at s p fs h.fn hfl W (h.fr.below hb))
 have HNO:=Hq hno
 clear h hno
 go_enter Tryz.func97,Tryz.ntmps97
 go_upto_region 1 with fail
 have H0:=nW2 w (stA s p) 37 #[(),(),(),"s",(),false,(),(),(),(),"","s",(),"s",()] 37
 obtain⟨W0,hW0⟩:=exW H0
 rw[← hW0]at H0 ⊢
 clear hW0
 go_upto_region 2 with(first|(with_reducible refine lL H0.out.get0 Tryz.underlying37 ?_)|(go_at_call 149;(refine(HFE.out _ H0.out.below).mono ?_);rintro e w2 ⟨hq,hb2⟩;rcases hq with⟨_,hq⟩|⟨k,hk,rfl,hbk⟩;(· exact absurd hq HNO.out)))
 have H2:=Hq (H0.out.step hb2)
 have hk0:(0:Int)≤(k:Int):=by omega
 go_wp2_with (first|(with_reducible refine lL H2.out.get0 Tryz.underlying37 ?_)|(with_reducible refine lS (stA s p) H2.out.get1 ?_))
 refine bodyPost_ret (v:=.tuple #[.agg (stA s p),k,()]) (results_cell3 rfl _ _ rfl (load_whole (setRow_heap _ _ _ _ _ _ H2.out.get1) Tryz.underlying37 Kr Kr) rfl rfl) rfl ?_
 exact⟨k,hk,rfl,hbk,(H2.out.row 1 (stA s p) _ rfl).below⟩
theorem rget41_any (s:Tx.St)(p:SP)(fs:List Fr)(hd:DkI s.disk)(hz:0≤s.zlog∧s.zlog≤100)(hzp:s.zpages=4)(hf:FrI fs)(n:Int)(w:World)(h:PoolR w s p fs):
 Calls Tryz.prog 55 #[storeV s p,n] w (GeOut s n w):=by
 have hfl:fs.length≤100:=by have:=hf.n4;omega
 have HIS:=Hq (fun W=>rpis_any s p n W)
 have HP:=Hq h
 have HF:=Hq hf
 have HFN:=Hq h.fn
 have HAT:=Hq (fun W (hb:Below w.heap.size w W)=>rat_any s p fs h.fn hfl n W (h.fr.below hb))
 have HLD:=Hq (fun hn W (hb:Below w.heap.size w W)=>rload_any s p hd hz n hn W (h.st.dk.below hb))
 have HRM:=Hq (fun hno W (hb:Below w.heap.size w W)=>rroom_at s p fs hfl hno W (h.below hb))
 have HWI:=Hq (fun k hk f W (hb:Below w.heap.size w W)=>rpwith_any s p fs hfl k hk f W (h.below hb))
 have HSM:=Hq (fun W (hb:Below w.heap.size w W) (x:Int) (hx:¬ x=0)=>show GeOut s n w (.returned (.tuple #[storeV s p,"",x])) W from⟨p,fs,⟨#[]⟩,x,rfl,h.below hb,hf,Nat.zero_le _,fun e=>absurd e hx,hb⟩)
 rw[hzp]at HIS
 clear h hd hz hzp hf
 by_cases hn:0≤n∧n<4
 ·rw[decide_eq_true hn]at HIS
  go_enter Tryz.func55,Tryz.ntmps55
  go_upto_region 1 with fail
  have H0:=nW2 w (stA s p) 37 #[(),(),(),"s",(),false,(),(),(),(),"","s",(),"s",()] 37
  obtain⟨W0,hW0⟩:=exW H0
  rw[← hW0]at H0 ⊢
  clear hW0
  go_upto_region 3 with(first|(with_reducible refine lL H0.out.get0 Tryz.underlying37 ?_)|(go_at_call 53;(refine(HIS.out _).mono ?_);rintro e w1 ⟨rfl,hb1⟩;have H1:=Hq (H0.out.step hb1)))
  go_upto_region 4 with(first|(with_reducible refine lL H1.out.get0 Tryz.underlying37 ?_)|(go_at_call 57;(refine(HAT.out _ H1.out.below).mono ?_);rintro e w2 ⟨hq,hb2⟩;have H2:=Hq (H1.out.step hb2);clear hb1 hb2 H0 H1;rcases hq with⟨rfl,hq⟩|⟨k,hk,rfl,hbk,hpk⟩))
  ·have hm1:¬ (0:Int)≤-1:=by decide
   have HNO:=Hq (HF.out.room hn hq)
   have HQ:=Hq hq
   clear hq HAT HIS
   go_upto_region 9 with(first|(with_reducible refine lL H2.out.get0 Tryz.underlying37 ?_)|(go_at_call 96;(refine(HLD.out (by omega) _ H2.out.below).mono ?_);rintro e w3 ⟨b,x,rfl,hbs,hbx,hb3⟩;have H3:=Hq (H2.out.step hb3);clear hb3))
   by_cases hx:x=0
   ·have hxb:(x != 0)=false:=by rw[hx];rfl
    have HBN:=Hq (hbx hx)
    clear hx hbx HLD HSM
    go_upto_region 12 with(first
     |(with_reducible refine lL H3.out.get0 Tryz.underlying37 ?_)
     |(go_at_call 97;(refine(HRM.out HNO.out _ H3.out.below).mono ?_);rintro e w4 ⟨k,hk,rfl,hbk,hb4⟩)
     |(with_reducible refine sN (stA s p) ?_))
    have hb5:=hb4.trans ((allocB w4 (.cells (stA s p) 37)).mono hb4.size)
    have H5:=Hq (H3.out.step hb5)
    have HG5:=Hq (heap_alloc_new w4 (.cells (stA s p) 37))
    have HBK:=Hq hbk
    obtain⟨g,hg⟩:=ex w4.heap.size
    obtain⟨w5,hw5⟩:=ex (w4.alloc (.cells (stA s p) 37))
    rw[← hg,← hw5]at HG5
    rw[← hw5]at H5
    rw[← hw5,← hg]
    clear hw5 hg hb4 hb5 H2 H3 HRM hbk
    try simp only[Act.put]
    go_wp2_with (first
     |(with_reducible refine lL HG5.out Tryz.underlying37 ?_)
     |(go_at_call 62;(refine(HWI.out k hk ⟨n,b,0,true,0⟩ _ H5.out.below).mono ?_);rintro e w6 ⟨q,rfl,hpq,hb6⟩;have H6:=Hq (H5.out.step hb6))
     |(with_reducible refine lS (stA s q) H6.out.get1 ?_))
    refine bodyPost_ret (v:=.tuple #[.agg (stA s q),b,()]) (results_cell3 rfl _ _ rfl (load_whole (setRow_heap _ _ _ _ _ _ H6.out.get1) Tryz.underlying37 Kr Kr) rfl rfl) rfl ?_
    refine⟨q,fs.set k ⟨n,b,0,true,0⟩,b,0,rfl,hpq.other H6.out.get1 (by decide) (by decide) (by decide) _,HF.out.put k hk ⟨n,b,0,true,0⟩ hn hbs (fun j hj _ hbj=>HQ.out j hj hbj),hbs,fun _=>⟨k,by rw[List.length_set];exact hk,?_⟩,(H6.out.row 1 (stA s q) _ rfl).below⟩
    rw[List.getElem_set_self]
    exact⟨rfl,HBN.out⟩
   ·have hxb:(x != 0)=true:=bne_iff_ne.2 hx
    go_wp2_with (first|(with_reducible refine lL H3.out.get0 Tryz.underlying37 ?_)|(with_reducible refine lS (stA s p) H3.out.get1 ?_))
    refine bodyPost_ret (v:=.tuple #[.agg (stA s p),"",x]) (results_cell3 rfl _ _ rfl (load_whole (setRow_heap _ _ _ _ _ _ H3.out.get1) Tryz.underlying37 Kr Kr) rfl rfl) rfl ?_
    exact HSM.out _ (H3.out.row 1 (stA s p) _ rfl).below x hx
  ·have hk0:(0:Int)≤(k:Int):=by omega
   have hki:(k:Int)<(fs.length:Int):=by omega
   have hc:=show w2.cell? ⟨w.heap.size,11,none⟩=some (.slice p.F fs.length p.fc)from by rw[blkCell H2.out.get0,← HFN.out];rfl
   obtain⟨b,off,hpF,hcc,hbl,hcell⟩:=read_at frL_len (HP.out.fr.below H2.out.below) hk
   have hsk:=HF.out.sz k hk
   obtain⟨f,hfe⟩:=ex (fs[k])
   have HFE:=Hq hfe
   rw[← hfe]at hcell hbk hpk hsk
   rw[hpF]at hc
   have HC0:=Hq (show w2.rangeAt b (off+k*5) (frL f)from hcell)
   have HBK:=Hq hbk
   have HPK:=Hq hpk
   clear hcell hcc hbl hpF hfe hbk hpk HAT HIS HLD HRM HSM
   go_upto_region 6 with(first
    |(refine listWants Kr fun K hK=>wp_load_mid 81 (.tmp 28) rfl b (off+k*5) rfl (frL f) _ HC0.out Tryz.underlying81 Kr Kr (hK _ _ ?_))
    |(with_reducible refine sN (frA f) ?_))
   have hb5:=allocB w2 (.cells (frA f) 81)
   have H5:=Hq (H2.out.step hb5)
   have HG5:=Hq (heap_alloc_new w2 (.cells (frA f) 81))
   have hlt:w.heap.size+1<w2.heap.size:=H2.out.lt (i:=1) (by simp)
   obtain⟨g,hg⟩:=ex w2.heap.size
   obtain⟨w5,hw5⟩:=ex (w2.alloc (.cells (frA f) 81))
   rw[← hg,← hw5]at HG5
   rw[← hw5]at H5
   rw[← hw5,← hg]
   rw[← hg]at hlt
   clear hw5 hg hb5 H2 hc
   try simp only[Act.put]
   have hcx:=show w5.cell? ⟨g,3,none⟩=some (.bool f.mark)from by rw[blkCell HG5.out];rfl
   have hzx:=blkFrozen HG5.out 3
   go_upto_region 7 with fail
   have HG6:=Hq (show(w5.setCell ⟨g,3,none⟩ (.bool true)).heap[g]? =some (.cells (frA {f with mark:=true}) 81 (0,0))from by have:=blkSet 3 HG5.out (.bool true);simpa using this)
   have H6:=Hq (H5.out.under (M:=g) (by simp;omega) ((Below.refl _ w5).setCell (p:=⟨g,3,none⟩) (Nat.le_refl _) (.bool true)))
   generalize w5.setCell ⟨g,3,none⟩ (.bool true)=w6 at HG6 H6 ⊢
   clear hcx hzx HG5 H5
   go_cut [4,5,6] (fun x y z wc=>x= .pointer (some ⟨w.heap.size+1,0,none⟩)∧y= .string f.bytes∧z= .int .i64 0∧∃ q,wc.heap[w.heap.size+1]? =some (.cells (stA s q) 37 (0,0))∧PoolR wc s q (fs.set k {f with mark:=true})∧Below w.heap.size w wc)
   case first=>
    have H9:=H6.out.drew
    have hSn:w6.drew.heap[w.heap.size]? =some (.cells (stA s p) 37 (0,0))∧w6.drew.heap[g]? =some (.cells (frA {f with mark:=true}) 81 (0,0)):=⟨H9.get0,HG6.out⟩
    have Hy:=Hq (fun(u:World) (hSu:u.heap[w.heap.size]? =some (.cells (stA s p) 37 (0,0))∧u.heap[g]? =some (.cells (frA {f with mark:=true}) 81 (0,0)))=>(show u.cell? ⟨g,1,none⟩=some (.string f.bytes)from by rw[blkCell hSu.2];rfl))
    refine rgH (S:=(fun u=>u.heap[w.heap.size]? =some (.cells (stA s p) 37 (0,0))∧u.heap[g]? =some (.cells (frA {f with mark:=true}) 81 (0,0)))) (fun hHeld=>?_)
    generalize w6.drew=w9 at hSn H9 ⊢
    refine tkL 0 Tryz.underlying37 ?_
    refine tkP 1 ?_
    refine tkL 2 Tryz.underlying81 ?_
    refine tkP 4 ?_;refine tkP 5 ?_
    refine rdP 3 fun K hK=>?_
    go_simp
    (refine(HWI.out k hk {f with mark:=true} _ H9.below).mono ?_);rintro e w7 ⟨q,rfl,hpq,hb7⟩;have hSm:=And.intro (blkOld hSn.1 hb7) (blkOld hSn.2 hb7);clear hSn;have hSn:=hSm;clear hSm;have H7:=H9.step hb7
    refine hKo hK (fun hHeld=>?_)
    clear hK K
    refine rdP 6 fun K hK=>?_
    refine wantedIf (by rfl) ?_
    refine sW (stA s q) H7.get1 ?_
    have HS7:=setRow_heap _ _ _ (stA s q) _ _ H7.get1
    have hpq7:=hpq.other H7.get1 (by decide) (by decide) (by decide) (stA s q)
    have HB7:=(H7.row 1 (stA s q) _ rfl).below
    have hSm:=And.intro ((heap_setRow_other _ _ (stA s q) _ (show w.heap.size≠w.heap.size+1 by omega)).trans hSn.1) ((heap_setRow_other _ _ (stA s q) _ (show g≠w.heap.size+1 by omega)).trans hSn.2)
    clear hSn
    have hSn:=hSm
    clear hSm
    refine hKo hK (fun hHeld=>?_)
    clear hK K
    refine tkP 7 ?_;refine tkP 8 ?_
    refine wpAnyH_done Kr ?_ _
    clear hHeld
    go_wp2_with fail
    go_meet
    case rel=>exact⟨rfl,rfl,rfl,q,HS7,hpq7,HB7⟩
   case rest=>
    obtain⟨rfl,rfl,rfl,q,hsq,hpq,hbq⟩:=hcut
    go_wp2_with fail
    refine bodyPost_ret (v:=.tuple #[.agg (stA s q),f.bytes,()]) (results_cell3 rfl _ _ rfl (load_whole hsq Tryz.underlying37 Kr Kr) rfl rfl) rfl ?_
    refine⟨q,fs.set k {f with mark:=true},f.bytes,0,rfl,hpq,HF.out.keep (FrK.set fs k hk {f with mark:=true} (by rw[← HFE.out]) (by rw[← HFE.out])),hsk,fun _=>⟨k,by rw[List.length_set];exact hk,?_⟩,hbq⟩
    rw[List.getElem_set_self]
    exact⟨HPK.out,HBK.out⟩
 ·rw[decide_eq_false hn]at HIS
  go_enter Tryz.func55,Tryz.ntmps55
  go_upto_region 1 with fail
  have H0:=nW2 w (stA s p) 37 #[(),(),(),"s",(),false,(),(),(),(),"","s",(),"s",()] 37
  obtain⟨W0,hW0⟩:=exW H0
  rw[← hW0]at H0 ⊢
  clear hW0
  go_wp2_with (first|(go_at_call 53;(refine(HIS.out _).mono ?_);rintro e w1 ⟨rfl,hb1⟩;have H1:=Hq (H0.out.step hb1))|(with_reducible refine lS (stA s p) H1.out.get1 ?_)|(with_reducible refine lL H1.out.get0 Tryz.underlying37 ?_)|(with_reducible refine lL H0.out.get0 Tryz.underlying37 ?_))
  refine bodyPost_ret (v:=.tuple #[.agg (stA s p),"",.int .i64 1]) (results_cell3 rfl _ _ rfl (load_whole (setRow_heap _ _ _ _ _ _ H1.out.get1) Tryz.underlying37 Kr Kr) rfl rfl) rfl ?_
  exact HSM.out _ (H1.out.row 1 (stA s p) _ rfl).below 1 (by decide)
variable {cl : Cl}
theorem PoolR.set {w:World}{s:Tx.St}{p:SP}{fs:List Fr}(h:PoolR w s p fs){b:Nat}{cur:Array Value}{t:TypeId}{fr:Nat×Nat}(hb:w.heap[b]? =some (.cells cur t fr))(h1:t≠9)(h2:t≠92)(h3:t≠81)(j:Nat)(v:Value):PoolR (w.setCell ⟨b,j,none⟩ v) s p fs:=by
 rw[setCell_eq_setRow w b j cur t fr v hb]
 exact h.other hb h1 h2 h3 _
theorem LogI.to {cl2:Cl}{s s':Tx.St}(h:LogI cl s)(e:s'.log=s.log)(hn:s'.zlog=cl2.N)(hP:cl2.P s'.disk s'.log):LogI cl2 s':=by
 obtain⟨⟨a,b,c,d,e1,f,g,i,j⟩,k,m,_⟩:=h
 refine⟨⟨?_,?_,?_,?_,?_,?_,?_,?_,?_⟩,?_,hn,hP⟩<;>rw[e]<;>assumption
theorem LogI.of {s s':Tx.St}(h:LogI cl s)(e:s'.log=s.log)(e2:s'.zlog=s.zlog)(hP:cl.P s'.disk s'.log):LogI cl s':=h.to e (e2.trans h.n) hP
def ChOut (cl:Cl)(s:Tx.St)(w:World)(e:Ending)(w':World):Prop:=
 ∃ (l:Lg.Lo) (ts:List Rc.TxnAt) (q:SP) (fs':List Fr) (x:Int),e= .returned (.tuple #[storeV {s with log:=l,txns:=ts} q,x])∧PoolR w' {s with log:=l,txns:=ts} q fs'∧FrI fs'∧LogI cl {s with log:=l,txns:=ts}∧ts.length=s.txns.length∧Below w.heap.size w w'
theorem rchange41_any (s:Tx.St)(p:SP)(fs:List Fr)(hl:LogI cl s)(hd:DkI s.disk)(hz:0≤s.zlog∧s.zlog≤100)(hzp:s.zpages=4)(hts:s.txns.length≤800000)(hf:FrI fs)(tx pg:Int)(w:World)(h:PoolR w s p fs):
 Calls Tryz.prog 26 #[storeV s p,.agg #[(),(),tx,.int .i64 2,pg,(),(),.int .i64 1,(),"",opNew,.int .i64 1,(),"",(),(),"s","s"]] w (ChOut cl s w):=by
 have HIS:=Hq (fun W=>rpis_any s p pg W)
 have HWH:=Hq (fun W (hb:Below w.heap.size w W)=>rwho_any s p tx hts W (h.st.tx.below hb))
 have HGE:=Hq (fun W (hb:Below w.heap.size w W)=>rget41_any s p fs hd hz hzp hf pg W (h.below hb))
 have HSM:=Hq (fun W (hb:Below w.heap.size w W) (x:Int)=>show ChOut cl s w (.returned (.tuple #[storeV s p,x])) W from⟨s.log,s.txns,p,fs,x,rfl,h.below hb,hf,hl,rfl,hb⟩)
 have HL:=Hq hl
 have HTS:=Hq hts
 rw[hzp]at HIS
 clear h hl hd hz hzp hts hf
 by_cases hn:0≤pg∧pg<4
 ·rw[decide_eq_true hn]at HIS
  go_enter Tryz.func26,Tryz.ntmps26
  go_upto_region 1 with fail
  have H0:=nW3 w (stA s p) 37 #[(),(),tx,.int .i64 2,pg,(),(),.int .i64 1,(),"",opNew,.int .i64 1,(),"",(),(),"s","s"] 55 #[(),(),(),"s",(),false,(),(),(),(),"","s",(),"s",()] 37
  obtain⟨W0,hW0⟩:=exW H0
  rw[← hW0]at H0 ⊢
  clear hW0
  have hk3:=show W0.cell? ⟨w.heap.size+1,3,none⟩=some (.int .i64 2)from by rw[blkCell H0.out.get1];rfl
  have hk4:=show W0.cell? ⟨w.heap.size+1,4,none⟩=some (.int .i64 pg)from by rw[blkCell H0.out.get1];rfl
  go_upto_region 3 with(first|(with_reducible refine lL H0.out.get0 Tryz.underlying37 ?_)|(go_at_call 53;(refine(HIS.out _).mono ?_);rintro e w1 ⟨rfl,hb1⟩;have H1:=Hq (H0.out.step hb1)))
  have hk2:=show w1.cell? ⟨w.heap.size+1,2,none⟩=some (.int .i64 tx)from by rw[blkCell H1.out.get1];rfl
  go_upto_region 4 with(first|(with_reducible refine lL H1.out.get0 Tryz.underlying37 ?_)|(go_at_call 54;(refine(HWH.out _ H1.out.below).mono ?_);rintro e w2 ⟨hq,hb2⟩;have H2:=Hq (H1.out.step hb2);clear hb1 hb2 H0 H1 hk2 hk3 hk4;rcases hq with rfl|⟨kk,hkk,rfl⟩))
  ·have hm1:(-1:Int)<0:=by decide
   go_wp2_with (first|(with_reducible refine lL H2.out.get0 Tryz.underlying37 ?_)|(with_reducible refine lS (stA s p) H2.out.get2 ?_))
   refine bodyPost_ret (v:=.tuple #[.agg (stA s p),.int .i64 21]) (results_cell2 rfl _ _ rfl (load_whole (setRow_heap _ _ _ _ _ _ H2.out.get2) Tryz.underlying37 Kr Kr) rfl) rfl ?_
   exact HSM.out _ (H2.out.row 2 (stA s p) _ rfl).below 21
  ·have hkk0:¬ (kk:Int)<0:=by omega
   have hkk1:(0:Int)≤(kk:Int):=by omega
   have hk4:=show w2.cell? ⟨w.heap.size+1,4,none⟩=some (.int .i64 pg)from by rw[blkCell H2.out.get1];rfl
   clear HIS HWH
   go_upto_region 7 with(first
    |(with_reducible refine lL H2.out.get0 Tryz.underlying37 ?_)
    |(go_at_call 55;(refine(HGE.out _ H2.out.below).mono ?_);rintro e w3 ⟨q,fs2,b,x,rfl,hpq,hf2,hbs,hx2,hb3⟩)
    |(with_reducible refine sN (stA s q) ?_))
   have hb4:=allocB w3 (.cells (stA s q) 37)
   have H4:=Hq (H2.out.step (hb3.trans (hb4.mono hb3.size)))
   have HG4:=Hq (heap_alloc_new w3 (.cells (stA s q) 37))
   have HPQ:=Hq (hpq.below hb4)
   have HF2:=Hq hf2
   have HX2:=Hq hx2
   have hlt:w.heap.size+2<w3.heap.size:=Nat.lt_of_lt_of_le (H2.out.lt (i:=2) (by simp)) hb3.size
   obtain⟨g,hg⟩:=ex w3.heap.size
   obtain⟨w4,hw4⟩:=ex (w3.alloc (.cells (stA s q) 37))
   rw[← hg,← hw4]at HG4
   rw[← hw4]at H4 HPQ
   rw[← hw4,← hg]
   rw[← hg]at hlt
   clear hw4 hg hb3 hb4 hpq hf2 hx2 H2 HGE hk4
   try simp only[Act.put]
   by_cases hx:x=0
   ·have hxb:(x != 0)=false:=by rw[hx];rfl
    have HKX:=Hq (HX2.out hx)
    have HDO:=Hq (fun W=>rdo1_any b hbs W)
    have HAT:=Hq (fun W (hb:Below w4.heap.size w4 W)=>rat_any s q fs2 HPQ.out.fn (by have:=HF2.out.n4;omega) pg W (HPQ.out.fr.below hb))
    clear hx HX2
    go_upto_region 10 with(first
     |(with_reducible refine lP #[.int .i64 1,(),"",opNew] H4.out.get1 Tryz.underlying48 ?_)
     |(go_at_call 56;(refine(HDO.out _).mono ?_);rintro e w5 ⟨z,x5,rfl,hzs,hb5⟩))
    have H5:=Hq (H4.out.step hb5)
    have HG5:=Hq (blkOld HG4.out hb5)
    by_cases hx5:x5=0
    ·have hx5b:(x5 != 0)=false:=by rw[hx5];rfl
     have hk5:=show w5.cell? ⟨w.heap.size+1,4,none⟩=some (.int .i64 pg)from by rw[blkCell H5.out.get1];rfl
     clear hx5 HDO
     go_upto_region 13 with(first
      |(with_reducible refine lL HG5.out Tryz.underlying37 ?_)
      |(go_at_call 57;(refine(HAT.out _ hb5).mono ?_);rintro e w6 ⟨hq,hb6⟩;rcases hq with⟨_,hq⟩|⟨k,hk,rfl,hbk,hpk⟩;(· exfalso;obtain⟨k,hk,h1,h2⟩:=HKX.out;exact hq k hk h2 h1)))
     have hb46:=joinB hb5 hb6
     have H6:=Hq (H4.out.step hb46)
     have HG6:=Hq (blkOld HG4.out hb46)
     have HPK:=Hq hpk
     have HBK:=Hq hbk
     have hk0:(0:Int)≤(k:Int):=by omega
     have hf4:=HF2.out.n4
     have HIM:=Hq (rimage_any s q fs2 HL.out (by omega) k hk w6 (HPQ.out.below hb46))
     clear hb5 hb6 hb46 H4 H5 HG4 HG5 HAT HKX HPQ hk5 hpk hbk
     go_upto_region 14 with(first
      |(with_reducible refine lL HG6.out Tryz.underlying37 ?_)
      |(go_at_call 58;(refine HIM.out.mono ?_);rintro e w7 ⟨l3,q3,fs3,x7,rfl,hp7,hl7,hk7,hb7⟩;have H7:=Hq (H6.out.step hb7);have HG7:=Hq (blkOld HG6.out hb7))
      |(with_reducible refine lS (stA {s with log:=l3} q3) HG7.out ?_))
     have hr8:=rowB (g:=g) (Nat.le_refl g) (Below.refl g w7|>fun _=>(show Below g w7 w7 from⟨rfl,rfl,rfl,Nat.le_refl _,fun _ _=>rfl⟩)) (stA {s with log:=l3} q3)
     have H8:=Hq (H7.out.under (M:=g) (by simp;omega) hr8)
     have HG8:=Hq (setRow_heap _ _ _ (stA {s with log:=l3} q3) _ _ HG7.out)
     have HP8:=Hq (hp7.other HG7.out (by decide) (by decide) (by decide) (stA {s with log:=l3} q3))
     have HL3:=Hq hl7
     have HF3:=Hq (HF2.out.keep hk7)
     have hk3l:k<fs3.length:=by rw[hk7.len];exact hk
     have HBK3:=Hq (show fs3[k].bytes≠⟨#[]⟩from by rw[(hk7.at_ k hk hk3l).2];exact HBK.out)
     have HPK3:=Hq (show fs3[k].page=pg from by rw[(hk7.at_ k hk hk3l).1];exact HPK.out)
     generalize w7.setRow g (stA {s with log:=l3} q3)=w8 at H8 HG8 HP8 ⊢
     clear hr8 H7 HG7 HIM H6 HG6 hp7 hl7 hk7 hb7 hf4 HF2 HPK HBK HL hk
     by_cases hx7:x7=0
     ·have hx7b:(x7 != 0)=false:=by rw[hx7];rfl
      clear hx7
      obtain⟨tb,toff,hpT,htc,htl,htcell⟩:=read_at txC_len HP8.out.st.tx hkk
      obtain⟨tv,htv⟩:=ex (s.txns[kk])
      have htx:=htcell 1 (.int .i64 tv.last) (by rw[htv];rfl)
      have hkki:(kk:Int)<(s.txns.length:Int):=by omega
      have hc13:=show w8.cell? ⟨g,13,none⟩=some (.slice (some ⟨tb,toff,none⟩) s.txns.length q3.tc)from by rw[blkCell HG8.out,← hpT];rfl
      have hc1:=show w8.cell? ⟨w.heap.size+1,1,none⟩=some (.int .i64 0)from by rw[blkCell H8.out.get1];rfl
      have hz1:=blkFrozen H8.out.get1 1
      generalize tv.last=pv at htx
      clear htcell htv htc htl hpT
      go_upto_region 17 with fail
      have H9:=Hq (show BxL w.heap.size w [((stA s p),37),(#[(),pv,tx,.int .i64 2,pg,(),(),.int .i64 1,(),"",opNew,.int .i64 1,(),"",(),(),"s","s"],55),(#[(),(),(),"s",(),false,(),(),(),(),"","s",(),"s",()],37)] (w8.setCell ⟨w.heap.size+1,1,none⟩ (.int .i64 pv))from H8.out.set 1 1 (.int .i64 pv) _ rfl)
      have HG9:=Hq (show(w8.setCell ⟨w.heap.size+1,1,none⟩ (.int .i64 pv)).heap[g]? =some (.cells (stA {s with log:=l3} q3) 37 (0,0))from by rw[Below.heap_setCell _ _ _ _ (by show g≠w.heap.size+1;omega)];exact HG8.out)
      have HP9:=Hq (HP8.out.set H8.out.get1 (by decide) (by decide) (by decide) 1 (.int .i64 pv))
      have HLO:=Hq (fun W=>show Calls Tryz.prog 59 #[storeV {s with log:=l3} q3,.agg #[(),pv,tx,.int .i64 2,pg,(),(),.int .i64 1,(),"",opNew,.int .i64 1,(),"",(),(),"s","s"]] W _ from rlogged_any {s with log:=l3} q3 HL3.out ⟨0,pv,tx,2,pg,0,0,⟨1,0,⟨#[]⟩,opNew⟩,1,0,Rc.noKey,[],[]⟩ rfl rfl W)
      have HLP:=Hq (HL3.out.put ⟨0,pv,tx,2,pg,0,0,⟨1,0,⟨#[]⟩,opNew⟩,1,0,Rc.noKey,[],[]⟩)
      generalize w8.setCell ⟨w.heap.size+1,1,none⟩ (.int .i64 pv)=w9 at H9 HG9 HP9 ⊢
      clear hc13 hc1 hz1 htx H8 HG8 HP8 HL3
      generalize Lg.appendD ({s with log:=l3}:Tx.St).log ⟨0,pv,tx,2,pg,0,0,⟨1,0,⟨#[]⟩,opNew⟩,1,0,Rc.noKey,[],[]⟩=y at HLO HLP
      obtain⟨l4,n4,x9⟩:=y
      simp only at HLO HLP
      go_upto_region 18 with(first
       |(with_reducible refine lL HG9.out Tryz.underlying37 ?_)
       |(with_reducible refine lL H9.out.get1 Tryz.underlying55 ?_)
       |(go_at_call 59;(refine(HLO.out _).mono ?_);rintro e w10 ⟨rfl,hb10⟩;have H10:=Hq (H9.out.step hb10);have HG10:=Hq (blkOld HG9.out hb10);have HP10:=Hq (HP9.out.below hb10);clear hb10)
       |(with_reducible refine lS (stA {s with log:=l4} q3) HG10.out ?_))
      have H11:=Hq (H10.out.under (M:=g) (by simp;omega) (rowB (g:=g) (Nat.le_refl g) (show Below g w10 w10 from⟨rfl,rfl,rfl,Nat.le_refl _,fun _ _=>rfl⟩) (stA {s with log:=l4} q3)))
      have HG11:=Hq (setRow_heap _ _ _ (stA {s with log:=l4} q3) _ _ HG10.out)
      have HP11:=Hq ((HP10.out.other HG10.out (by decide) (by decide) (by decide) (stA {s with log:=l4} q3)).log l4)
      generalize w10.setRow g (stA {s with log:=l4} q3)=w11 at H11 HG11 HP11 ⊢
      clear H9 HG9 HP9 H10 HG10 HP10 HLO
      by_cases hx9:x9=0
      ·have hx9b:(x9 != 0)=false:=by rw[hx9];rfl
       clear hx9
       have hc0:=show w11.cell? ⟨w.heap.size+1,0,none⟩=some (.int .i64 0)from by rw[blkCell H11.out.get1];rfl
       have hz0:=blkFrozen H11.out.get1 0
       go_upto_region 21 with fail
       have H12:=Hq (show BxL w.heap.size w [((stA s p),37),(#[n4,pv,tx,.int .i64 2,pg,(),(),.int .i64 1,(),"",opNew,.int .i64 1,(),"",(),(),"s","s"],55),(#[(),(),(),"s",(),false,(),(),(),(),"","s",(),"s",()],37)] (w11.setCell ⟨w.heap.size+1,0,none⟩ (.int .i64 n4))from H11.out.set 1 0 (.int .i64 n4) _ rfl)
       have HG12:=Hq (show(w11.setCell ⟨w.heap.size+1,0,none⟩ (.int .i64 n4)).heap[g]? =some (.cells (stA {s with log:=l4} q3) 37 (0,0))from by rw[Below.heap_setCell _ _ _ _ (by show g≠w.heap.size+1;omega)];exact HG11.out)
       have HP12:=Hq (HP11.out.set H11.out.get1 (by decide) (by decide) (by decide) 0 (.int .i64 n4))
       generalize w11.setCell ⟨w.heap.size+1,0,none⟩ (.int .i64 n4)=w12 at H12 HG12 HP12 ⊢
       clear hc0 hz0 H11 HG11 HP11
       obtain⟨fb,foff,hpF,hfc,hfl2,hfcell⟩:=read_at frL_len HP12.out.fr hk3l
       obtain⟨f,hfe⟩:=ex (fs3[k])
       have HFE:=Hq hfe
       have hki:(k:Int)<(fs3.length:Int):=by omega
       have hc11:=show w12.cell? ⟨g,11,none⟩=some (.slice (some ⟨fb,foff,none⟩) fs3.length q3.fc)from by rw[blkCell HG12.out,← hpF,← HP12.out.fn];rfl
       rw[← hfe]at hfcell
       have HC0:=Hq (show w12.rangeAt fb (foff+k*5) (frL f)from hfcell)
       clear hfcell hfc hfl2 hpF hfe
       have HSL:=Hq (fun W=>rsetlsn_any z n4 (by omega) W)
       have hzl:=lsnB_le z n4
       generalize lsnB z n4=z2 at HSL hzl
       go_upto_region 22 with(first
        |(refine listWants Kr fun K hK=>wp_load_mid 81 (.tmp 98) rfl fb (foff+k*5) rfl (frL f) _ HC0.out Tryz.underlying81 Kr Kr (hK _ _ ?_))
        |(with_reducible refine sN (frA f) ?_))
       have hb13:=allocB w12 (.cells (frA f) 81)
       have HG13:=Hq (heap_alloc_new w12 (.cells (frA f) 81))
       have hlt2:g<w12.heap.size:=heapLt HG12.out
       have H13:=Hq (H12.out.step hb13)
       have HS13:=Hq (blkOld HG12.out hb13)
       obtain⟨g2,hg2⟩:=ex w12.heap.size
       obtain⟨w13,hw13⟩:=ex (w12.alloc (.cells (frA f) 81))
       have HPB:=Hq (fun W (hb:Below w12.heap.size w12 W)=>HP12.out.below hb)
       have hbA:=hb13
       rw[← hg2]at HPB
       rw[← hw13,← hg2]at hbA
       rw[← hg2,← hw13]at HG13
       rw[← hw13]at H13 HS13
       rw[← hw13,← hg2]
       rw[← hg2]at hlt2
       clear hw13 hg2 hb13 H12 HG12 HP12 HC0 hc11
       try simp only[Act.put]
       go_upto_region 23 with(go_at_call 60;(refine(HSL.out _).mono ?_);rintro e w14 ⟨rfl,hb14⟩;have HG14:=Hq (blkOld HG13.out hb14);have hcA:=show w14.cell? ⟨g2,1,none⟩=some (.string f.bytes)from(by rw[blkCell HG14.out];rfl);have hzA:=blkFrozen HG14.out 1;have hcB:=show(w14.setCell ⟨g2,1,none⟩ (.string z2)).cell? ⟨g2,3,none⟩=some (.bool f.mark)from(by rw[blkCell (blkSet 1 HG14.out (.string z2))];rfl);have hzB:=blkFrozen (blkSet 1 HG14.out (.string z2)) 3)
       have hbs2:Below g2 w14 ((w14.setCell ⟨g2,1,none⟩ (.string z2)).setCell ⟨g2,3,none⟩ (.bool true)):=((show Below g2 w14 w14 from⟨rfl,rfl,rfl,Nat.le_refl _,fun _ _=>rfl⟩).trans ((Below.refl _ w14).setCell (p:=⟨g2,1,none⟩) (Nat.le_refl _) (.string z2))).trans ((Below.refl _ _).setCell (p:=⟨g2,3,none⟩) (Nat.le_refl _) (.bool true))
       have H15:=Hq ((H13.out.step hb14).under (M:=g2) (by simp;omega) hbs2)
       have HS15:=Hq (show((w14.setCell ⟨g2,1,none⟩ (.string z2)).setCell ⟨g2,3,none⟩ (.bool true)).heap[g]? =some (.cells (stA {s with log:=l4} q3) 37 (0,0))from(hbs2.block g hlt2).trans (blkOld HS13.out hb14))
       have HG15:=Hq (show((w14.setCell ⟨g2,1,none⟩ (.string z2)).setCell ⟨g2,3,none⟩ (.bool true)).heap[g2]? =some (.cells (frA {f with bytes:=z2,mark:=true}) 81 (0,0))from by have:=blkSet 3 (blkSet 1 HG14.out (.string z2)) (.bool true);simpa using this)
       have HP15:=Hq (HPB.out _ ((hbA.trans (hb14.mono (by have:=heapLt HG13.out;omega))).trans hbs2))
       have HI15:=Hq (HF3.out.put k hk3l {f with bytes:=z2,mark:=true} (by rw[show({f with bytes:=z2,mark:=true}:Fr).page=f.page from rfl,HFE.out,HPK3.out];exact hn) hzl (fun j hj hjk hbj=>by
        show fs3[j].page≠f.page
        rw[HFE.out]
        exact HF3.out.ds j k hj hk3l hjk hbj HBK3.out))
       generalize (w14.setCell ⟨g2,1,none⟩ (.string z2)).setCell ⟨g2,3,none⟩ (.bool true)=w15 at H15 HS15 HG15 HP15 ⊢
       clear hcA hzA hcB hzB hbs2 hb14 hbA HPB HS13 HG13 H13 HG14 HSL
       have H9:=H15.out.drew
       have hSn:w15.drew.heap[g]? =some (.cells (stA {s with log:=l4} q3) 37 (0,0))∧w15.drew.heap[g2]? =some (.cells (frA {f with bytes:=z2,mark:=true}) 81 (0,0))∧w15.drew.heap[w.heap.size+1]? =some (.cells #[n4,pv,tx,.int .i64 2,pg,(),(),.int .i64 1,(),"",opNew,.int .i64 1,(),"",(),(),"s","s"] 55 (0,0)):=⟨HS15.out,HG15.out,H9.get1⟩
       have hP9:=HP15.out.below (Below.refl _ w15).drew
       refine rgH (S:=(fun u=>u.heap[g]? =some (.cells (stA {s with log:=l4} q3) 37 (0,0))∧u.heap[g2]? =some (.cells (frA {f with bytes:=z2,mark:=true}) 81 (0,0))∧u.heap[w.heap.size+1]? =some (.cells #[n4,pv,tx,.int .i64 2,pg,(),(),.int .i64 1,(),"",opNew,.int .i64 1,(),"",(),(),"s","s"] 55 (0,0)))) (fun hHeld=>?_)
       generalize w15.drew=w9 at hSn H9 hP9 ⊢
       refine tkL 0 Tryz.underlying37 ?_
       refine tkP 1 ?_
       refine tkV 2 (some 107) (v:=.agg (frA {f with bytes:=z2,mark:=true})) rfl (yieldsIf_load_mid (by rfl) 81 (.tmp 13) rfl g2 0 (by rfl) (frA {f with bytes:=z2,mark:=true}).toList _ (fun u hu=>(by intro j v hj;rw[Nat.zero_add,blkCell hu.2.1];simpa using hj)) Tryz.underlying81 Kr Kr) ?_
       try simp only[Act.put,pS]
       refine tkP 4 ?_
       refine tkV 5 (some 110) (v:=.agg #[n4,pv,tx,.int .i64 2,pg,(),(),.int .i64 1,(),"",opNew,.int .i64 1,(),"",(),(),"s","s"]) rfl (yieldsIf_load_mid (by rfl) 55 (.tmp 3) rfl (w.heap.size+1) 0 (by rfl) #[.int .i64 n4,.int .i64 pv,.int .i64 tx,.int .i64 2,.int .i64 pg,.int .i64 0,.int .i64 0,.int .i64 1,.int .i64 0,.string ⟨#[]⟩,.string opNew,.int .i64 1,.int .i64 0,.string ⟨#[]⟩,.int .i64 0,.int .i64 0,.slice none 0 0,.slice none 0 0].toList _ (fun u hu=>(by intro j v hj;rw[Nat.zero_add,blkCell hu.2.2];simpa using hj)) Tryz.underlying55 Kr Kr) ?_
       try simp only[Act.put,pS]
       refine rdP 3 fun K hK=>?_
       go_simp
       (refine(rpwith_any {s with log:=l4} q3 fs3 (by have:=HF3.out.n4;omega) k hk3l {f with bytes:=z2,mark:=true} _ hP9).mono ?_);rintro e w16 ⟨q4,rfl,hp4,hb16⟩;have hSm:=And.intro (blkOld hSn.1 hb16) (And.intro (blkOld hSn.2.1 hb16) (blkOld hSn.2.2 hb16));clear hSn;have hSn:=hSm;clear hSm;have H16:=H9.step hb16
       refine hKo hK (fun hHeld=>?_)
       clear hK K
       refine rdP 6 fun K hK=>?_
       go_simp
       (refine(rnoted41_any {s with log:=l4} q4 (fs3.set k {f with bytes:=z2,mark:=true}) HTS.out kk hkk ⟨n4,pv,tx,2,pg,0,0,⟨1,0,⟨#[]⟩,opNew⟩,1,0,Rc.noKey,[],[]⟩ rfl _ hp4).mono ?_);rintro e w17 ⟨ts,q5,rfl,hp5,hts5,hb17⟩;have hSm:=And.intro (blkOld hSn.1 hb17) (And.intro (blkOld hSn.2.1 hb17) (blkOld hSn.2.2 hb17));clear hSn;have hSn:=hSm;clear hSm;have H17:=H16.step hb17
       refine hKo hK (fun hHeld=>?_)
       clear hK K
       refine rdP 7 fun K hK=>?_
       refine wantedIf (by rfl) ?_
       refine sW (stA {s with log:=l4,txns:=ts} q5) H17.get2 ?_
       have hSm:=And.intro ((heap_setRow_other _ _ (stA {s with log:=l4,txns:=ts} q5) _ (show g≠w.heap.size+2 by omega)).trans hSn.1) (And.intro ((heap_setRow_other _ _ (stA {s with log:=l4,txns:=ts} q5) _ (show g2≠w.heap.size+2 by omega)).trans hSn.2.1) ((heap_setRow_other _ _ (stA {s with log:=l4,txns:=ts} q5) _ (show w.heap.size+1≠w.heap.size+2 by omega)).trans hSn.2.2))
       clear hSn
       have hSn:=hSm
       clear hSm
       refine hKo hK (fun hHeld=>?_)
       clear hK K
       refine tkP 8 ?_
       refine wpAnyH_done Kr ?_ _
       clear hHeld
       go_wp2_with fail
       refine bodyPost_ret (v:=.tuple #[.agg (stA {s with log:=l4,txns:=ts} q5),()]) (results_cell2 rfl _ _ rfl (load_whole (setRow_heap _ _ _ _ _ _ H17.get2) Tryz.underlying37 Kr Kr) rfl) rfl ?_
       exact⟨l4,ts,q5,fs3.set k {f with bytes:=z2,mark:=true},0,rfl,hp5.other H17.get2 (by decide) (by decide) (by decide) _,HI15.out,HLP.out.of rfl rfl HLP.out.ev,hts5,(H17.row 2 (stA {s with log:=l4,txns:=ts} q5) _ rfl).below⟩
      ·have hx9b:(x9 != 0)=true:=bne_iff_ne.2 hx9
       go_wp2_with (first|(with_reducible refine lL H11.out.get0 Tryz.underlying37 ?_)|(with_reducible refine lS (stA s p) H11.out.get2 ?_))
       refine bodyPost_ret (v:=.tuple #[.agg (stA s p),x9]) (results_cell2 rfl _ _ rfl (load_whole (setRow_heap _ _ _ _ _ _ H11.out.get2) Tryz.underlying37 Kr Kr) rfl) rfl ?_
       exact HSM.out _ (H11.out.row 2 (stA s p) _ rfl).below x9
     ·have hx7b:(x7 != 0)=true:=bne_iff_ne.2 hx7
      go_wp2_with (first|(with_reducible refine lL H8.out.get0 Tryz.underlying37 ?_)|(with_reducible refine lS (stA s p) H8.out.get2 ?_))
      refine bodyPost_ret (v:=.tuple #[.agg (stA s p),x7]) (results_cell2 rfl _ _ rfl (load_whole (setRow_heap _ _ _ _ _ _ H8.out.get2) Tryz.underlying37 Kr Kr) rfl) rfl ?_
      exact HSM.out _ (H8.out.row 2 (stA s p) _ rfl).below x7
    ·have hx5b:(x5 != 0)=true:=bne_iff_ne.2 hx5
     go_wp2_with (first|(with_reducible refine lL H5.out.get0 Tryz.underlying37 ?_)|(with_reducible refine lS (stA s p) H5.out.get2 ?_))
     refine bodyPost_ret (v:=.tuple #[.agg (stA s p),x5]) (results_cell2 rfl _ _ rfl (load_whole (setRow_heap _ _ _ _ _ _ H5.out.get2) Tryz.underlying37 Kr Kr) rfl) rfl ?_
     exact HSM.out _ (H5.out.row 2 (stA s p) _ rfl).below x5
   ·have hxb:(x != 0)=true:=bne_iff_ne.2 hx
    go_wp2_with (first|(with_reducible refine lL HG4.out Tryz.underlying37 ?_)|(with_reducible refine lS (stA s q) H4.out.get2 ?_))
    refine bodyPost_ret (v:=.tuple #[.agg (stA s q),x]) (results_cell2 rfl _ _ rfl (load_whole (setRow_heap _ _ _ _ _ _ H4.out.get2) Tryz.underlying37 Kr Kr) rfl) rfl ?_
    exact⟨s.log,s.txns,q,fs2,x,rfl,HPQ.out.other H4.out.get2 (by decide) (by decide) (by decide) _,HF2.out,HL.out,rfl,(H4.out.row 2 (stA s q) _ rfl).below⟩
 ·rw[decide_eq_false hn]at HIS
  go_enter Tryz.func26,Tryz.ntmps26
  go_upto_region 1 with fail
  have H0:=nW3 w (stA s p) 37 #[(),(),tx,.int .i64 2,pg,(),(),.int .i64 1,(),"",opNew,.int .i64 1,(),"",(),(),"s","s"] 55 #[(),(),(),"s",(),false,(),(),(),(),"","s",(),"s",()] 37
  obtain⟨W0,hW0⟩:=exW H0
  rw[← hW0]at H0 ⊢
  clear hW0
  have hk3:=show W0.cell? ⟨w.heap.size+1,3,none⟩=some (.int .i64 2)from by rw[blkCell H0.out.get1];rfl
  have hk4:=show W0.cell? ⟨w.heap.size+1,4,none⟩=some (.int .i64 pg)from by rw[blkCell H0.out.get1];rfl
  go_wp2_with (first|(go_at_call 53;(refine(HIS.out _).mono ?_);rintro e w1 ⟨rfl,hb1⟩;have H1:=Hq (H0.out.step hb1))|(with_reducible refine lS (stA s p) H1.out.get2 ?_)|(with_reducible refine lL H1.out.get0 Tryz.underlying37 ?_)|(with_reducible refine lL H0.out.get0 Tryz.underlying37 ?_))
  refine bodyPost_ret (v:=.tuple #[.agg (stA s p),.int .i64 1]) (results_cell2 rfl _ _ rfl (load_whole (setRow_heap _ _ _ _ _ _ H1.out.get2) Tryz.underlying37 Kr Kr) rfl) rfl ?_
  exact HSM.out _ (H1.out.row 2 (stA s p) _ rfl).below 1
variable {cl : Cl}
theorem wpPut {P:Program}{op:Oper}{a:Act}{w:World}{K:Act→World→Prop}{Q:Exit→Act→World→Prop}(ty:TypeId)(x y:Operand)(ho:op.op= .store ty x y)
 (b o:Nat) (part cur res:Array Value) (t:TypeId) (hx:a.eval x= .pointer (some ⟨b,o,none⟩)) (hy:a.eval y= .agg part) (hg:w.heap[b]? =some (.cells cur t (0,0))) (hr:res=(cur.toList.take o++part.toList++cur.toList.drop (o+part.toList.length)).toArray)
 (hsz:decide (o+part.toList.length≤cur.size)=true) (hi:(P.info? ty).map (·.size)=some part.size) (h1:part.all (·.oneCell')=true) (h:K (a.put op.dst undef) (w.setRow b res)):op.wp P a w K Q:=by
 have hst:=run_storeCells_at P b o t part.toList 0 cur w hg (by rw[Nat.add_zero];exact of_decide_eq_true hsz) (fun v hv=>(Array.all_eq_true_iff_forall_mem.1 h1) v (by simpa using hv))
 rw[Nat.add_zero,← hr]at hst
 have hrun:(storeVar ty ⟨b,o,none⟩ (.agg part)).run P w= .ok () (w.setRow b res):=by
  cases hq:P.info? ty with
  |none=>simp[hq]at hi
  |some i=>
   have hs:part.size=i.size:=by simp[hq]at hi;omega
   simp[storeVar,sizeOf,typeInfo,hq,Value.cells,hs,hst]
 unfold Oper.wp execOp
 simp only[ho,hx,hy,Instr.storeAt,Instr.sureAddr,Sem.run_bind,Sem.run_pure,Result.andThen_ok,hrun]
 exact h
theorem putAll_keep (base:Int)(all:List ByteArray):∀ (i:Nat) (d:Lg.Dk),DkI d→DkI (Lg.putAll base all i d).1∧(Lg.putAll base all i d).1.sectors.length=d.sectors.length
 |0,d,h=>⟨h,rfl⟩
 |i+1,d,h=>by
  obtain⟨h1,h2⟩:=h.write (base+(i:Int)) (all[i]?.getD ⟨#[]⟩)
  unfold Lg.putAll
  split
  ·obtain⟨h3,h4⟩:=putAll_keep base all i _ h1
   exact⟨h3,h4.trans h2⟩
  ·exact⟨h1,h2⟩
theorem DkI.force {d:Lg.Dk}(h:DkI d)(l:Lg.Lo):DkI (Lg.forceD d l).1∧(Lg.forceD d l).1.sectors.length=d.sectors.length:=by
 have hp:=putAll_keep (l.from_+Lg.firstS l) (Lg.allS l) (Lg.allS l).length d h
 unfold Lg.forceD
 split
 ·exact⟨h,rfl⟩
 ·simp only
  split
  ·exact hp
  ·exact hp
theorem LogI.force {s:Tx.St}(h:LogI cl s):LogI cl {s with disk:=(Lg.forceD s.disk s.log).1,log:=(Lg.forceD s.disk s.log).2.1}:=by
 refine⟨Tx.logB_force h.b,?_,h.n,cl.frc _ _ h.ev⟩
 show Lg.Al (Lg.forceD s.disk s.log).2.1
 unfold Lg.forceD
 split
 ·exact h.al
 ·simp only
  split
  ·have he0:=h.b.e0
   have ht1:=h.b.t1
   have hsz:((Lg.forcedL s.log).tail.size:Int)=s.log.end_%128:=by
    unfold Lg.forcedL
    show((s.log.tail.extract (s.log.tail.size-(s.log.end_%128).toNat) s.log.tail.size).size:Int)=_
    rw[ByteArray.size_extract]
    omega
   refine⟨he0,Int.le_refl _,?_⟩
   rw[hsz]
   rfl
  ·exact h.al
theorem PoolR.own {w:World}{s:Tx.St}{p:SP}{fs:List Fr}(h:PoolR w s p fs){g:Nat}{cur:Array Value}{fr:Nat×Nat}(hg:w.heap[g]? =some (.cells cur 81 fr))(hne:∀ ad,p.F=some ad→ad.block≠g)(j:Nat)(v:Value):PoolR (w.setCell ⟨g,j,none⟩ v) s p fs:=
 ⟨h.st.set hg (by decide) (by decide) j v,h.fn,h.fr.off g j v (fun _=>hne),h.ft.set g j v⟩
def FlOut (cl:Cl)(s:Tx.St)(fs:List Fr)(w:World)(e:Ending)(w':World):Prop:=
 ∃ (d:Lg.Dk) (l:Lg.Lo) (q:SP) (fs':List Fr) (x:Int),e= .returned (.tuple #[storeV {s with disk:=d,log:=l} q,x])∧PoolR w' {s with disk:=d,log:=l} q fs'∧FrK fs fs'∧DkI d∧d.sectors.length=s.disk.sectors.length∧LogI cl {s with disk:=d,log:=l}∧Below w.heap.size w w'
theorem PoolR.disk {w w':World}{s:Tx.St}{p:SP}{fs:List Fr}(h:PoolR w s p fs)(hb:Below w.heap.size w w'){d:Lg.Dk}{A:Option Addr}{c:Nat}(l:Lg.Lo)(hr:DiskR w' d A c)(ht:NewT 0 w' 9 A):PoolR w' {s with disk:=d,log:=l} {p with A:=A,c:=c} fs:=by
 have h1:=h.below hb
 exact⟨⟨hr,ht,h1.st.tx,h1.st.tt⟩,h1.fn,h1.fr,h1.ft⟩
theorem rflush41_any (s:Tx.St)(p:SP)(fs:List Fr)(hl:LogI cl s)(hd:DkI s.disk)(hz:0≤s.zlog∧s.zlog≤100)(hfl:fs.length≤100)(k:Nat)(hk:k<fs.length)(hpg:0≤fs[k].page∧fs[k].page≤100)(hsz:fs[k].bytes.size≤512)(w:World)(h:PoolR w s p fs):
 Calls Tryz.prog 66 #[storeV s p,k] w (FlOut cl s fs w):=by
 have HP:=Hq h
 have HFN:=Hq h.fn
 have HFO:=Hq (fun W (hb:Below w.heap.size w W)=>rforce_any s.disk hd.lb p.A p.c s.log hl.al (by have:=hl.b.e1;omega) (by have:=hl.b.n0;omega) (by have:=hl.b.n1;omega) (by have:=hl.b.f;omega) (by have:=hl.b.f;omega) (by have:=hl.b.t0;have:=hl.b.e1;omega) W (h.st.dk.below hb) (h.st.dt.below hb))
 have HLF:=Hq hl.force
 have HDF:=Hq (hd.force s.log)
 obtain⟨f,hf⟩:=ex (fs[k])
 have HFK:=Hq hf
 rw[← hf]at hpg hsz
 have HZ:=Hq hz
 generalize Lg.forceD s.disk s.log=y at HFO HLF HDF
 obtain⟨d2,l2,e2⟩:=y
 simp only at HFO HLF HDF
 obtain⟨b,off,hpF,hcc,hbl,hcell⟩:=read_at frL_len h.fr hk
 rw[← hf]at hcell
 have HBL:=Hq hbl
 have HCE:=Hq (fun u (hu:Below w.heap.size w u)=>show u.rangeAt b (off+k*5) (frL f)from fun i v hv=>by rw[hu.cell (p:=⟨b,off+k*5+i,none⟩) hbl];exact hcell i v hv)
 have HPF:=Hq hpF
 have hki0:(0:Int)≤(k:Int):=by omega
 have hki:(k:Int)<(fs.length:Int):=by omega
 clear h hl hd hz hf hcell hcc hbl hpF
 go_enter Tryz.func66,Tryz.ntmps66
 go_upto_region 1 with fail
 have H0:=nW2 w (stA s p) 37 #[(),(),(),"s",(),false,(),(),(),(),"","s",(),"s",()] 37
 obtain⟨W0,hW0⟩:=exW H0
 rw[← hW0]at H0 ⊢
 clear hW0
 have hc:=show W0.cell? ⟨w.heap.size,11,none⟩=some (.slice (some ⟨b,off,none⟩) fs.length p.fc)from by rw[blkCell H0.out.get0,← HPF.out,← HFN.out];rfl
 have HC0:=Hq (show W0.rangeAt b (off+k*5) (frL f)from HCE.out W0 H0.out.below)
 go_upto_region 2 with(first
  |(refine listWants Kr fun K hK=>wp_load_mid 81 (.tmp 14) rfl b (off+k*5) rfl (frL f) _ HC0.out Tryz.underlying81 Kr Kr (hK _ _ ?_))
  |(with_reducible refine sN (frA f) ?_))
 have H1:=Hq (H0.out.step (allocB W0 (.cells (frA f) 81)))
 have HG:=Hq (heap_alloc_new W0 (.cells (frA f) 81))
 have hlt:w.heap.size+1<W0.heap.size:=H0.out.lt (i:=1) (by simp)
 obtain⟨g,hg⟩:=ex W0.heap.size
 obtain⟨w1,hw1⟩:=ex (W0.alloc (.cells (frA f) 81))
 rw[← hg,← hw1]at HG
 rw[← hw1]at H1
 rw[← hw1,← hg]
 rw[← hg]at hlt
 clear hw1 hg H0 HC0 hc HCE
 try simp only[Act.put]
 go_upto_region 3 with(first
  |(with_reducible refine lP #[.slice p.A s.disk.sectors.length p.c,s.disk.left,s.disk.down] H1.out.get0 Tryz.underlying29 ?_)
  |(with_reducible refine lP #[s.log.from_,s.log.n,s.log.end_,s.log.safe,s.log.tail] H1.out.get0 Tryz.underlying31 ?_)
  |(go_at_call 34;(refine(HFO.out _ H1.out.below).mono ?_);rintro e w2 ⟨A2,c2,rfl,hr2,ht2,hb2⟩;have hgA:=show((w2.alloc (.cells #["s",(),false] 29)).alloc (.cells #[(),(),(),(),""] 31)).heap[w2.heap.size]? =some (.cells #["s",(),false] 29 (0,0))from blkOld (heap_alloc_new w2 _) (allocB _ _);have hgB:=show(((w2.alloc (.cells #["s",(),false] 29)).alloc (.cells #[(),(),(),(),""] 31)).setRow w2.heap.size #[.slice A2 d2.sectors.length c2,d2.left,d2.down]).heap[w2.heap.size+1]? =some (.cells #[(),(),(),(),""] 31 (0,0))from(heap_setRow_other _ _ #[.slice A2 d2.sectors.length c2,d2.left,d2.down] _ (by omega)).trans (by have:=heap_alloc_new (w2.alloc (.cells #["s",(),false] 29)) (.cells #[(),(),(),(),""] 31);simpa using this))
  |(with_reducible refine lS #[.slice A2 d2.sectors.length c2,d2.left,d2.down] hgA ?_)
  |(with_reducible refine lS #[l2.from_,l2.n,l2.end_,l2.safe,l2.tail] hgB ?_))
 have hr2':NewT 0 w2 9 A2:=ht2.elim (fun e=>by rw[e];exact HP.out.st.dt.below (H1.out.below.trans (hb2.mono H1.out.below.size))) (fun e=>e.mono (Nat.zero_le _))
 have hbz:Below w2.heap.size w2 ((((w2.alloc (.cells #["s",(),false] 29)).alloc (.cells #[(),(),(),(),""] 31)).setRow w2.heap.size #[.slice A2 d2.sectors.length c2,d2.left,d2.down]).setRow (w2.heap.size+1) #[l2.from_,l2.n,l2.end_,l2.safe,l2.tail]):=rowB (by omega) (rowB (Nat.le_refl _) (joinB (allocB w2 (.cells #["s",(),false] 29)) (allocB _ (.cells #[(),(),(),(),""] 31))) #[.slice A2 d2.sectors.length c2,d2.left,d2.down]) #[l2.from_,l2.n,l2.end_,l2.safe,l2.tail]
 have H3:=Hq (H1.out.step (joinB hb2 hbz))
 have HG3:=Hq (blkOld HG.out (joinB hb2 hbz))
 have HG8:=Hq (setRow_heap _ _ _ #[l2.from_,l2.n,l2.end_,l2.safe,l2.tail] _ _ hgB)
 have HG7:=Hq ((heap_setRow_other _ (w2.heap.size+1) #[l2.from_,l2.n,l2.end_,l2.safe,l2.tail] w2.heap.size (by omega)).trans (setRow_heap _ _ _ #[.slice A2 d2.sectors.length c2,d2.left,d2.down] _ _ hgA))
 have HP3:=Hq (HP.out.disk (H3.out.below) l2 (hr2.below hbz) (hr2'.below hbz))
 have hlt7:g<w2.heap.size:=by have:=heapLt HG.out;have:=hb2.size;omega
 obtain⟨g7,hg7⟩:=ex w2.heap.size
 rw[← hg7]at H3 HG3 HG7 HG8 HP3 hlt7
 rw[← hg7]
 generalize (((w2.alloc (.cells #["s",(),false] 29)).alloc (.cells #[(),(),(),(),""] 31)).setRow g7 #[.slice A2 d2.sectors.length c2,d2.left,d2.down]).setRow (g7+1) #[l2.from_,l2.n,l2.end_,l2.safe,l2.tail]=w3 at H3 HG3 HG7 HG8 HP3 ⊢
 clear hg7 hgA hgB hbz hr2 hr2' ht2 hb2 H1 HG HFO
 try simp only[Act.put]
 go_cut [2] (fun x wc=>x= .pointer (some ⟨w.heap.size,0,none⟩)∧BxL w.heap.size w [((stA {s with disk:=d2,log:=l2} {p with A:=A2,c:=c2}),37),(#[(),(),(),"s",(),false,(),(),(),(),"","s",(),"s",()],37)] wc∧wc.heap[g]? =some (.cells (frA f) 81 (0,0))∧wc.heap[g7]? =some (.cells #[.slice A2 d2.sectors.length c2,d2.left,d2.down] 29 (0,0))∧PoolR wc {s with disk:=d2,log:=l2} {p with A:=A2,c:=c2} fs)
 case first=>
  have H9:=H3.out.drew
  have hP9:=HP3.out.below (Below.refl _ w3).drew
  have hSn:w3.drew.heap[g7]? =some (.cells #[.slice A2 d2.sectors.length c2,d2.left,d2.down] 29 (0,0))∧w3.drew.heap[g7+1]? =some (.cells #[l2.from_,l2.n,l2.end_,l2.safe,l2.tail] 31 (0,0))∧w3.drew.heap[g]? =some (.cells (frA f) 81 (0,0)):=⟨HG7.out,HG8.out,HG3.out⟩
  refine rgH (S:=(fun u=>u.heap[g7]? =some (.cells #[.slice A2 d2.sectors.length c2,d2.left,d2.down] 29 (0,0))∧u.heap[g7+1]? =some (.cells #[l2.from_,l2.n,l2.end_,l2.safe,l2.tail] 31 (0,0))∧u.heap[g]? =some (.cells (frA f) 81 (0,0)))) (fun hHeld=>?_)
  generalize w3.drew=w9 at hSn H9 hP9 ⊢
  refine tkL 0 Tryz.underlying29 ?_
  refine tkV 1 (some 26) (v:=.agg #[l2.from_,l2.n,l2.end_,l2.safe,l2.tail]) rfl (yieldsIf_load_mid (by rfl) 31 (.tmp 8) rfl (g7+1) 0 (by rfl) #[.int .i64 l2.from_,.int .i64 l2.n,.int .i64 l2.end_,.int .i64 l2.safe,.string l2.tail].toList _ (fun u hu=>(by intro j v hj;rw[Nat.zero_add,blkCell hu.2.1];simpa using hj)) Tryz.underlying31 Kr Kr) ?_
  try simp only[Act.put,pS]
  refine tkP 2 ?_
  refine rdP 3 fun K hK=>?_
  refine wantedIf (by rfl) ?_
  refine wpPut 29 (.tmp 27) (.tmp 25) rfl w.heap.size 3 #[.slice A2 d2.sectors.length c2,d2.left,d2.down] (stA s p) (stA {s with disk:=d2} {p with A:=A2,c:=c2}) _ rfl rfl H9.get0 rfl Kr Kr Kr ?_
  have hSm:=And.intro ((heap_setRow_other _ _ (stA {s with disk:=d2} {p with A:=A2,c:=c2}) _ (show g7≠w.heap.size by omega)).trans hSn.1) (And.intro ((heap_setRow_other _ _ (stA {s with disk:=d2} {p with A:=A2,c:=c2}) _ (show g7+1≠w.heap.size by omega)).trans hSn.2.1) ((heap_setRow_other _ _ (stA {s with disk:=d2} {p with A:=A2,c:=c2}) _ (show g≠w.heap.size by omega)).trans hSn.2.2))
  have hPm:=hP9.other (t:=37) H9.get0 (by decide) (by decide) (by decide) (stA {s with disk:=d2} {p with A:=A2,c:=c2})
  have Hm:=H9.row 0 (stA {s with disk:=d2} {p with A:=A2,c:=c2}) _ rfl
  clear hSn hP9 H9
  have hSn:=hSm
  have hP9:=hPm
  have H9:=Hm
  clear hSm hPm Hm
  refine hKo hK (fun hHeld=>?_)
  clear hK K
  refine tkP 4 ?_
  refine rdP 5 fun K hK=>?_
  refine wantedIf (by rfl) ?_
  refine wpPut 31 (.tmp 28) (.tmp 26) rfl w.heap.size 6 #[l2.from_,l2.n,l2.end_,l2.safe,l2.tail] (stA {s with disk:=d2} {p with A:=A2,c:=c2}) (stA {s with disk:=d2,log:=l2} {p with A:=A2,c:=c2}) _ rfl rfl H9.get0 rfl Kr Kr Kr ?_
  have hSm:=And.intro ((heap_setRow_other _ _ (stA {s with disk:=d2,log:=l2} {p with A:=A2,c:=c2}) _ (show g7≠w.heap.size by omega)).trans hSn.1) (And.intro ((heap_setRow_other _ _ (stA {s with disk:=d2,log:=l2} {p with A:=A2,c:=c2}) _ (show g7+1≠w.heap.size by omega)).trans hSn.2.1) ((heap_setRow_other _ _ (stA {s with disk:=d2,log:=l2} {p with A:=A2,c:=c2}) _ (show g≠w.heap.size by omega)).trans hSn.2.2))
  have hPm:=hP9.other (t:=37) H9.get0 (by decide) (by decide) (by decide) (stA {s with disk:=d2,log:=l2} {p with A:=A2,c:=c2})
  have Hm:=H9.row 0 (stA {s with disk:=d2,log:=l2} {p with A:=A2,c:=c2}) _ rfl
  clear hSn hP9 H9
  have hSn:=hSm
  have hP9:=hPm
  have H9:=Hm
  clear hSm hPm Hm
  refine hKo hK (fun hHeld=>?_)
  clear hK K
  refine wpAnyH_done Kr ?_ _
  clear hHeld
  go_wp2_with fail
  go_meet
  case rel=>exact⟨rfl,H9,hSn.2.2,hSn.1,hP9⟩
 case rest=>
  obtain⟨rfl,h4,hg4,hg74,hp4⟩:=hcut
  obtain⟨w4,rfl⟩:=ex wc
  have H4:=Hq h4
  have HG4:=Hq hg4
  have HG74:=Hq hg74
  have HP4:=Hq hp4
  clear h4 hg4 hg74 hp4 H3 HG3 HG7 HG8 HP3
  by_cases hx2:e2=0
  ·have hx2b:(e2 != 0)=false:=by rw[hx2];rfl
   clear hx2
   go_upto_region 6 with fail
   have H9:=H4.out.drew
   have hP9:=HP4.out.below (Below.refl _ w4).drew
   have hSn:w4.drew.heap[w.heap.size]? =some (.cells (stA {s with disk:=d2,log:=l2} {p with A:=A2,c:=c2}) 37 (0,0))∧w4.drew.heap[g]? =some (.cells (frA f) 81 (0,0)):=⟨H9.get0,HG4.out⟩
   have hG9:w4.drew.heap[g7]? =some (.cells #[.slice A2 d2.sectors.length c2,d2.left,d2.down] 29 (0,0)):=HG74.out
   have Hy:=Hq (fun(u:World) (hSu:u.heap[w.heap.size]? =some (.cells (stA {s with disk:=d2,log:=l2} {p with A:=A2,c:=c2}) 37 (0,0))∧u.heap[g]? =some (.cells (frA f) 81 (0,0)))=>(And.intro (show u.cell? ⟨g,0,none⟩=some (.int .i64 f.page)from by rw[blkCell hSu.2];rfl) (show u.cell? ⟨g,1,none⟩=some (.string f.bytes)from by rw[blkCell hSu.2];rfl)))
   refine rgH (S:=(fun u=>u.heap[w.heap.size]? =some (.cells (stA {s with disk:=d2,log:=l2} {p with A:=A2,c:=c2}) 37 (0,0))∧u.heap[g]? =some (.cells (frA f) 81 (0,0)))) (fun hHeld=>?_)
   generalize w4.drew=w9 at hSn H9 hP9 hG9 ⊢
   refine tkP 0 ?_
   refine tkV 1 (some 35) (v:=.agg #[.slice A2 d2.sectors.length c2,d2.left,d2.down]) rfl (yieldsIf_load_mid (by rfl) 29 (.tmp 34) rfl w.heap.size 3 (by rfl) [.slice A2 d2.sectors.length c2,.int .i64 d2.left,.bool d2.down] _ (fun u hu j v hj=>by rw[blkCell hu.1];rcases j with _|_|_|j<;>simp at hj ⊢<;>exact hj) Tryz.underlying29 Kr Kr) ?_
   try simp only[Act.put,pS]
   refine tkL 2 Tryz.underlying37 ?_
   refine tkP 3 ?_;refine tkP 4 ?_;refine tkP 6 ?_;refine tkP 7 ?_
   refine rdP 5 fun K hK=>?_
   go_simp
   (refine(rsector_at {s with disk:=d2,log:=l2} {p with A:=A2,c:=c2} f.page (by have:=HZ.out;constructor<;>simp only<;>omega) (by omega) _).mono ?_);rintro e u1 ⟨rfl,hb1⟩;have hSm:=And.intro (blkOld hSn.1 hb1) (blkOld hSn.2 hb1);have hGm:=blkOld hG9 hb1;have hPm:=hP9.below hb1;have Hm:=H9.step hb1;clear hSn hG9 hP9 H9;have hSn:=hSm;have hG9:=hGm;have hP9:=hPm;have H9:=Hm;clear hSm hGm hPm Hm
   refine hKo hK (fun hHeld=>?_)
   clear hK K
   refine rdP 8 fun K hK=>?_
   go_simp
   (refine(prseal_any f.bytes (by omega) _).mono ?_);rintro e u2 ⟨rfl,hb2⟩;have hSm:=And.intro (blkOld hSn.1 hb2) (blkOld hSn.2 hb2);have hGm:=blkOld hG9 hb2;have hPm:=hP9.below hb2;have Hm:=H9.step hb2;clear hSn hG9 hP9 H9;have hSn:=hSm;have hG9:=hGm;have hP9:=hPm;have H9:=Hm;clear hSm hGm hPm Hm
   refine hKo hK (fun hHeld=>?_)
   clear hK K
   refine rdP 9 fun K hK=>?_
   go_simp
   (refine(rwritepage_any d2 HDF.out.1 A2 c2 (1+s.zlog+4*f.page) (by have:=HZ.out;omega) (sealB f.bytes) _ hP9.st.dk hP9.st.dt).mono ?_);rintro e u3 ⟨d3,x3,A3,c3,rfl,hr3,ht3,hd3,hl3,hb3⟩;have hPd:=hP9.disk hb3 l2 hr3 ht3;have HLN:=Hq hl3;clear hl3;have hSm:=And.intro (blkOld hSn.1 hb3) (blkOld hSn.2 hb3);have hGm:=blkOld hG9 hb3;have hPm:=hP9.below hb3;have Hm:=H9.step hb3;clear hSn hG9 hP9 H9;have hSn:=hSm;have hG9:=hGm;have hP9:=hPm;have H9:=Hm;clear hSm hGm hPm Hm;clear hP9;have hP9:=hPd;clear hPd
   refine hKo hK (fun hHeld=>?_)
   clear hK K
   refine tkP 10 ?_;refine tkP 11 ?_;refine tkP 12 ?_
   refine rdP 13 fun K hK=>?_
   refine wantedIf (by rfl) ?_
   refine sW #[.slice A3 d3.sectors.length c3,d3.left,d3.down] hG9 ?_
   have hSm:=And.intro ((heap_setRow_other _ _ #[.slice A3 d3.sectors.length c3,d3.left,d3.down] _ (show w.heap.size≠g7 by omega)).trans hSn.1) ((heap_setRow_other _ _ #[.slice A3 d3.sectors.length c3,d3.left,d3.down] _ (show g≠g7 by omega)).trans hSn.2)
   have hPm:=hP9.other (t:=29) hG9 (by decide) (by decide) (by decide) #[.slice A3 d3.sectors.length c3,d3.left,d3.down]
   have Hm:=H9.under (M:=g7) (by simp;omega) (rowB (g:=g7) (Nat.le_refl g7) (show Below g7 u3 u3 from⟨rfl,rfl,rfl,Nat.le_refl _,fun _ _=>rfl⟩) #[.slice A3 d3.sectors.length c3,d3.left,d3.down])
   have hGm:=setRow_heap _ _ _ #[.slice A3 d3.sectors.length c3,d3.left,d3.down] _ _ hG9
   clear hSn hP9 H9 hG9
   have hSn:=hSm
   have hP9:=hPm
   have H9:=Hm
   have hG9:=hGm
   clear hSm hPm Hm hGm
   generalize u3.setRow g7 #[.slice A3 d3.sectors.length c3,d3.left,d3.down]=w12 at hSn hP9 H9 hG9 ⊢
   refine hKo hK (fun hHeld=>?_)
   clear hK K
   refine tkP 14 ?_
   refine wpAnyH_done Kr ?_ _
   clear hHeld
   have HG12:=Hq hG9
   have H12:=Hq H9
   have HF12:=Hq hSn.2
   have HP12:=Hq hP9
   clear hG9 H9 hSn hP9 H4 HG4 HG74 HP4
   go_upto_region 8 with(first
    |(with_reducible refine lL HG12.out Tryz.underlying29 ?_)
    |(with_reducible refine lU #[.slice A3 d3.sectors.length c3,d3.left,d3.down] (stA {s with disk:=d3,log:=l2} {p with A:=A3,c:=c3}) H12.out.get0 ?_))
   have H13:=Hq (show BxL w.heap.size w [((stA {s with disk:=d3,log:=l2} {p with A:=A3,c:=c3}),37),(#[(),(),(),"s",(),false,(),(),(),(),"","s",(),"s",()],37)] (w12.setRow w.heap.size (stA {s with disk:=d3,log:=l2} {p with A:=A3,c:=c3}))from H12.out.row 0 (stA {s with disk:=d3,log:=l2} {p with A:=A3,c:=c3}) _ rfl)
   have HP13:=Hq (HP12.out.other (t:=37) H12.out.get0 (by decide) (by decide) (by decide) (stA {s with disk:=d3,log:=l2} {p with A:=A3,c:=c3}))
   have HF13:=Hq ((heap_setRow_other _ _ (stA {s with disk:=d3,log:=l2} {p with A:=A3,c:=c3}) _ (show g≠w.heap.size by omega)).trans HF12.out)
   generalize w12.setRow w.heap.size (stA {s with disk:=d3,log:=l2} {p with A:=A3,c:=c3})=w13 at H13 HP13 HF13 ⊢
   clear HG12 H12 HF12 HP12
   by_cases hx3:x3=0
   ·have hx3b:(x3 != 0)=false:=by rw[hx3];rfl
    clear hx3
    have hcx:=show w13.cell? ⟨g,4,none⟩=some (.int .i64 f.rc)from by rw[blkCell HF13.out];rfl
    have hzx:=blkFrozen HF13.out 4
    have hltw:g<w13.heap.size:=heapLt HF13.out
    have HWI:=Hq (fun W (hp:PoolR W {s with disk:=d3,log:=l2} {p with A:=A3,c:=c3} fs)=>rpwith_any {s with disk:=d3,log:=l2} {p with A:=A3,c:=c3} fs hfl k hk {f with rc:=0} W hp)
    go_upto_region 11 with fail
    have HG14:=Hq (show(w13.setCell ⟨g,4,none⟩ (.int .i64 0)).heap[g]? =some (.cells (frA {f with rc:=0}) 81 (0,0))from by have:=blkSet 4 HF13.out (.int .i64 0);simpa using this)
    have H14:=Hq (H13.out.under (M:=g) (by simp;omega) ((Below.refl _ w13).setCell (p:=⟨g,4,none⟩) (Nat.le_refl _) (.int .i64 0)))
    have HP14:=Hq (HP13.out.own HF13.out (fun ad e=>by have e2:p.F=some ad:=e;rw[HPF.out]at e2;injection e2 with e2;subst e2;have:=HBL.out;show b≠g;omega) 4 (.int .i64 0))
    generalize w13.setCell ⟨g,4,none⟩ (.int .i64 0)=w14 at HG14 H14 HP14 ⊢
    clear hcx hzx H13 HP13 HF13
    go_wp2_with (first
     |(with_reducible refine lL H14.out.get0 Tryz.underlying37 ?_)
     |(with_reducible refine lL HG14.out Tryz.underlying81 ?_)
     |(go_at_call 62;(refine(HWI.out _ HP14.out).mono ?_);rintro e w15 ⟨q,rfl,hpq,hb15⟩;have H15:=Hq (H14.out.step hb15))
     |(with_reducible refine lS (stA {s with disk:=d3,log:=l2} q) H15.out.get1 ?_))
    refine bodyPost_ret (v:=.tuple #[.agg (stA {s with disk:=d3,log:=l2} q),()]) (results_cell2 rfl _ _ rfl (load_whole (setRow_heap _ _ _ _ _ _ H15.out.get1) Tryz.underlying37 Kr Kr) rfl) rfl ?_
    exact⟨d3,l2,q,_,0,rfl,hpq.other H15.out.get1 (by decide) (by decide) (by decide) _,FrK.set fs k hk {f with rc:=0} (by rw[← HFK.out]) (by rw[← HFK.out]),hd3,HLN.out.len.trans HDF.out.2,HLF.out.of rfl rfl (HLN.out.wr (fun d=>cl.P d l2) (fun _ i _ hi hq=>cl.wr _ _ i _ (by have:=HLF.out.n;have:=HZ.out;simp only at*;omega) hq) HLF.out.ev),(H15.out.row 1 (stA {s with disk:=d3,log:=l2} q) _ rfl).below⟩
   ·have hx3b:(x3 != 0)=true:=bne_iff_ne.2 hx3
    go_wp2_with (first|(with_reducible refine lL H13.out.get0 Tryz.underlying37 ?_)|(with_reducible refine lS (stA {s with disk:=d3,log:=l2} {p with A:=A3,c:=c3}) H13.out.get1 ?_))
    refine bodyPost_ret (v:=.tuple #[.agg (stA {s with disk:=d3,log:=l2} {p with A:=A3,c:=c3}),x3]) (results_cell2 rfl _ _ rfl (load_whole (setRow_heap _ _ _ _ _ _ H13.out.get1) Tryz.underlying37 Kr Kr) rfl) rfl ?_
    exact⟨d3,l2,{p with A:=A3,c:=c3},fs,x3,rfl,HP13.out.other H13.out.get1 (by decide) (by decide) (by decide) _,FrK.refl fs,hd3,HLN.out.len.trans HDF.out.2,HLF.out.of rfl rfl (HLN.out.wr (fun d=>cl.P d l2) (fun _ i _ hi hq=>cl.wr _ _ i _ (by have:=HLF.out.n;have:=HZ.out;simp only at*;omega) hq) HLF.out.ev),(H13.out.row 1 (stA {s with disk:=d3,log:=l2} {p with A:=A3,c:=c3}) _ rfl).below⟩
  ·have hx2b:(e2 != 0)=true:=bne_iff_ne.2 hx2
   go_wp2_with (first|(with_reducible refine lL H4.out.get0 Tryz.underlying37 ?_)|(with_reducible refine lS (stA {s with disk:=d2,log:=l2} {p with A:=A2,c:=c2}) H4.out.get1 ?_))
   refine bodyPost_ret (v:=.tuple #[.agg (stA {s with disk:=d2,log:=l2} {p with A:=A2,c:=c2}),e2]) (results_cell2 rfl _ _ rfl (load_whole (setRow_heap _ _ _ _ _ _ H4.out.get1) Tryz.underlying37 Kr Kr) rfl) rfl ?_
   exact⟨d2,l2,{p with A:=A2,c:=c2},fs,e2,rfl,HP4.out.other H4.out.get1 (by decide) (by decide) (by decide) _,FrK.refl fs,HDF.out.1,HDF.out.2,HLF.out,(H4.out.row 1 (stA {s with disk:=d2,log:=l2} {p with A:=A2,c:=c2}) _ rfl).below⟩
end Go.Proofs.YtilakddepaplhaaGreat
