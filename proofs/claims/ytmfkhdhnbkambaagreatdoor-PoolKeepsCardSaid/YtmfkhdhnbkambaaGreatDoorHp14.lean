import Derived.Test.YtmfkhdhnbkambaaGreatDoorHp00
import Derived.Test.YtmfkhdhnbkambaaGreatDoorHp13
import Derived.Test.YtmfkhdhnbkambaaGreatDoorHp12
import Derived.Test.YtmfkhdhnbkambaaGreatDoorHp01
import Derived.Test.YtmfkhdhnbkambaaGreatDoorHp09
import Derived.Test.YtmfkhdhnbkambaaGreatDoorHp04
set_option maxRecDepth 100000
set_option maxHeartbeats 16000000
set_option linter.unusedSimpArgs false
namespace Go.Proofs.YtmfkhdhnbkambaaGreatDoor
open Go.RowKit Sc
theorem pown_one {α:Type}{enc:α→List Value}{k:Nat}{e:TypeId}{B g c:Nat}{w:World}{l:List α}(hk:∀ x,(enc x).length=k)(ho:OwnL enc k e B w (.slice (some ⟨g,0,none⟩) l.length c) l)(i:Nat)(hi:i<l.length)(x:α)(j:Nat)(hj:j<k)(v:Value)(hx:∀ t,t<k→(enc x)[t]? =if t=j then some v else(enc l[i])[t]?):
 w.frozen? ⟨g,i*k+j,none⟩=false∧OwnL enc k e B (w.setCell ⟨g,i*k+j,none⟩ v) (.slice (some ⟨g,0,none⟩) (l.set i x).length c) (l.set i x)∧Below B w (w.setCell ⟨g,i*k+j,none⟩ v):=by
 obtain⟨cur,hB,hg,hh,hn,hc,hs,ht⟩:=own_blk ho
 have hle:i*k+k≤l.length*k:=by have:=Nat.mul_le_mul_right k (show i+1≤l.length from hi);rwa[Nat.add_mul,Nat.one_mul]at this
 have hlc:l.length*k≤c*k:=Nat.mul_le_mul_right _ hn
 refine⟨blkFrozen hh _,own_mk hk hB (blkSet (i*k+j) hh v) (by rw[List.length_set];exact hn) hc (by rw[Array.size_setIfInBounds];exact hs) (fun t h=>?_),(show Below B w w from⟨rfl,rfl,rfl,Nat.le_refl _,fun _ _=>rfl⟩).setCell (p:=⟨g,i*k+j,none⟩) hB v⟩
 rw[List.length_set]at h
 rw[flat_put hk l i hi x t,Array.getElem?_setIfInBounds]
 by_cases hin:i*k≤t∧t<i*k+k
 ·rw[if_pos hin]
  obtain⟨r,rfl⟩:∃ r,t=i*k+r:=⟨t-i*k,by omega⟩
  rw[Nat.add_sub_cancel_left,hx r (by omega)]
  by_cases hr:r=j
  ·subst hr;rw[if_pos rfl,if_pos (by omega),if_pos rfl]
  ·rw[if_neg (by omega),if_neg hr,ht _ h,flat_at hk l i r hi (by omega)]
 ·rw[if_neg hin,if_neg (by omega),ht t h]
def VcOut (s:Tx.St)(n:Nat)(o:Option (Nat×List Fr))(w:World)(e:Ending)(w':World):Prop:=
 (∃ (k:Nat) (fs':List Fr) (q:SP) (x:Int),o=some (k,fs')∧x=(((k+1)%n:Nat):Int)∧e= .returned (.tuple #[storeV {s with hand:=x} q,.int .i64 (k:Int)])∧PoolR w' {s with hand:=x} q fs'∧Below w.heap.size w w')∨
 (o=none∧∃ q:SP,e= .returned (.tuple #[storeV s q,.int .i64 (-1)])∧Below w.heap.size w w')
theorem vic_pin {n j a:Nat}{fs:List Fr}(ha:a<fs.length)(h:0<fs[a].pins):vicF n (j+1) a fs=vicF n j ((a+1)%n) fs:=by
 show(if 0<(frAt fs a).pins then _ else _)=_
 rw[frAt_eq ha,if_pos h]
theorem vic_mark {n j a:Nat}{fs:List Fr}(ha:a<fs.length)(h:¬ 0<fs[a].pins)(hm:fs[a].mark=true):vicF n (j+1) a fs=vicF n j ((a+1)%n) (fs.set a {fs[a]with mark:=false}):=by
 show(if 0<(frAt fs a).pins then _ else if(frAt fs a).mark=true then _ else _)=_
 rw[frAt_eq ha,if_neg h,if_pos hm]
theorem vic_hit {n j a:Nat}{fs:List Fr}(ha:a<fs.length)(h:¬ 0<fs[a].pins)(hm:fs[a].mark=false):vicF n (j+1) a fs=some (a,fs):=by
 show(if 0<(frAt fs a).pins then _ else if(frAt fs a).mark=true then _ else _)=_
 rw[frAt_eq ha,if_neg h,if_neg (by rw[hm];decide)]
theorem pfvictim_any (s:Tx.St)(p:SP)(fs:List Fr)(hnf:1≤fs.length∧fs.length≤64)(hhd:0≤s.hand∧s.hand≤64)(hpb:∀ i (hi:i<fs.length),0≤fs[i].pins∧fs[i].pins≤1000000)(w:World)(h:PoolR w s p fs):
 Calls Tryz.prog 147 #[storeV s p] w (VcOut s fs.length (vicF fs.length (2*fs.length) (s.hand.toNat%fs.length) fs) w):=by
 have HP:=Hq h
 have HFN:=Hq h.fn
 have HCL:=Hq (fun W (hb:Below w.heap.size w W)=>fclone_any fs (by omega) p.F p.fc W (h.fr.below hb))
 obtain⟨V,hV⟩:=ex (vicF fs.length (2*fs.length) (s.hand.toNat%fs.length) fs)
 rw[← hV]
 have HOK:=Hq (fun(k:Nat) (fs':List Fr) (q:SP) w' (hv:V=some (k,fs')) (hp:PoolR w' {s with hand:=(((k+1)%fs.length:Nat):Int)} q fs') (hb:Below w.heap.size w w')=>show VcOut s fs.length V w (.returned (.tuple #[storeV {s with hand:=(((k+1)%fs.length:Nat):Int)} q,.int .i64 (k:Int)])) w' from .inl ⟨k,fs',q,_,hv,rfl,rfl,hp,hb⟩)
 have HNO:=Hq (fun(q:SP) w' (hv:V=none) (hb:Below w.heap.size w w')=>show VcOut s fs.length V w (.returned (.tuple #[storeV s q,.int .i64 (-1)])) w' from .inr ⟨hv,q,rfl,hb⟩)
 have HV:=Hq hV.symm
 clear hV
 generalize VcOut s fs.length V w=Q at HOK HNO ⊢
 have HPB:=Hq hpb
 clear h hpb
 have hn0:((fs.length:Int)==0)=false:=beq_eq_false_iff_ne.2 (by omega)
 have hnz:(fs.length:Int)≠0:=by omega
 have h0i:(0:Int)<(fs.length:Int):=by omega
 obtain⟨m,hm⟩:=ex (Int.tmod s.hand (fs.length:Int))
 have hm1:0≤m∧m<(fs.length:Int):=by rw[hm];exact⟨Int.tmod_nonneg _ hhd.1,Int.tmod_lt_of_pos _ h0i⟩
 have hmI:Int.tmod s.hand (fs.length:Int)=m:=hm.symm
 have hw0:IntKind.i64.wrap m=m:=IntWalk.i64_in _ (by omega)
 have hw1:IntKind.i64.wrap (m+(fs.length:Int))=m+(fs.length:Int):=IntWalk.i64_in _ (by omega)
 obtain⟨a,ha⟩:=ex (s.hand.toNat%fs.length:Nat)
 have hal:a<fs.length:=by rw[ha];exact Nat.mod_lt _ (by omega)
 have ha2:(a:Int)<(fs.length:Int):=by omega
 have haI:Int.tmod (m+(fs.length:Int)) (fs.length:Int)=(a:Int):=by
  rw[hm,Int.tmod_eq_emod_of_nonneg hhd.1,Int.tmod_eq_emod_of_nonneg (by have:=Int.emod_nonneg s.hand hnz;omega),Int.add_emod_right,Int.emod_emod_of_dvd _ (Int.dvd_refl _),ha,Int.natCast_emod,Int.toNat_of_nonneg hhd.1]
 have hwa:IntKind.i64.wrap (a:Int)=(a:Int):=IntWalk.i64_in _ (by omega)
 have hw2:IntKind.i64.wrap (2*(fs.length:Int))=2*(fs.length:Int):=IntWalk.i64_in _ (by omega)
 have HV0:=HV
 rw[← ha]at HV0
 clear hm ha HV
 go_enter Tryz.func147,Tryz.ntmps147
 go_upto_region 1 with fail
 have H0:=nW2 w (stA s p) 36 #[(),(),(),"s",(),false,(),(),(),(),"","s",(),"s",()] 36
 obtain⟨W0,hW0⟩:=exW H0
 rw[← hW0]at H0 ⊢
 clear hW0
 have hc:=show W0.cell? ⟨w.heap.size,11,none⟩=some (.slice p.F fs.length p.fc)from by rw[blkCell H0.out.get0,← HFN.out];rfl
 go_upto_region 3 with(go_at_call 124;(refine(HCL.out _ H0.out.below).mono ?_);rintro e w1 ⟨v,rfl,ho,hb1⟩;obtain⟨g,c2,rfl,hgB⟩:=ownSome ho (by omega);have H1:=Hq (H0.out.step hb1);have hcx:=show w1.cell? ⟨w.heap.size,11,none⟩=some (.slice p.F fs.length p.fc)from(by rw[blkCell H1.out.get0,← HFN.out];rfl);have hzx:=blkFrozen H1.out.get0 11)
 have hlt:w.heap.size<W0.heap.size:=by have:=H0.out.lt (i:=0) (by simp);omega
 have hM:w.heap.size+2≤W0.heap.size:=H0.out.lt (i:=1) (by simp)
 have H2:=Hq (show BxL w.heap.size w [((stA s {p with F:=some ⟨g,0,none⟩,fn:=fs.length,fc:=c2}),36),(#[(),(),(),"s",(),false,(),(),(),(),"","s",(),"s",()],36)] (w1.setCell ⟨w.heap.size,11,none⟩ (.slice (some ⟨g,0,none⟩) fs.length c2))from by have h:=H1.out.set 0 11 (.slice (some ⟨g,0,none⟩) fs.length c2) _ rfl;simpa using h)
 have HO2:=Hq (ownSet ho ⟨w.heap.size,11,none⟩ (.slice (some ⟨g,0,none⟩) fs.length c2) hlt)
 generalize w1.setCell ⟨w.heap.size,11,none⟩ (.slice (some ⟨g,0,none⟩) fs.length c2)=w2 at H2 HO2 ⊢
 have hch:=show w2.cell? ⟨w.heap.size,12,none⟩=some (.int .i64 s.hand)from by rw[blkCell H2.out.get0];rfl
 clear hc hcx hzx H1 H0 HCL ho hb1
 generalize W0.heap.size=B at HO2 hgB hlt hM
 try simp only[Act.put]
 go_wp2_with fail
 go_loopw [34,5] (fun i x wr=>∃ (j a':Nat) (fs':List Fr),j≤2*fs.length∧i= .int .i64 (j:Int)∧x= .int .i64 (a':Int)∧a'<fs.length∧fs'.length=fs.length∧(∀ t (ht:t<fs'.length),0≤fs'[t].pins∧fs'[t].pins≤1000000)∧vicF fs.length (2*fs.length-j) a' fs'=V∧BxL w.heap.size w [((stA s {p with F:=some ⟨g,0,none⟩,fn:=fs.length,fc:=c2}),36),(#[(),(),(),"s",(),false,(),(),(),(),"","s",(),"s",()],36)] wr∧wr.ownsRow B 108 5 (.slice (some ⟨g,0,none⟩) fs.length c2) fs.length (fs'.flatMap frL)) (fun i _ _=>2*fs.length-(intOf i).toNat)
 case atStart=>exact⟨0,a,fs,Nat.zero_le _,rfl,rfl,hal,rfl,HPB.out,by rw[Nat.sub_zero];exact HV0.out,H2.out,HO2.out⟩
 case round=>
  clear HPB HV0 H2 HO2
  obtain⟨k,q,fs',hk,rfl,rfl,hqf,hl,hpins,hvic,hbx,how⟩:=hrel
  have hk0:(0:Int)≤(k:Int):=by omega
  by_cases hlt2:k<2*fs.length
  ·obtain⟨j2,hj2⟩:∃ j2,2*fs.length-k=j2+1:=⟨2*fs.length-k-1,by omega⟩
   have hj3:2*fs.length-(k+1)=j2:=by omega
   rw[hj2]at hvic
   have hki:(k:Int)<2*(fs.length:Int):=by omega
   have hwk:IntKind.i64.wrap ((k:Int)+1)=(k:Int)+1:=IntWalk.i64_in _ (by omega)
   have hq:q<fs'.length:=by omega
   have ho2:OwnL frL 5 108 B wr (.slice (some ⟨g,0,none⟩) fs'.length c2) fs':=by unfold OwnL;rw[hl];exact how
   have HBX:=Hq hbx
   have HO:=Hq ho2
   have HPS:=Hq hpins
   have hpin:=hpins q hq
   have hq2:(q+1)%fs.length<fs.length:=Nat.mod_lt _ (by omega)
   have htm:Int.tmod ((q:Int)+1) (fs.length:Int)=(((q+1)%fs.length:Nat):Int):=Int.tmod_eq_emod_of_nonneg (by omega)
   have HV1:=Hq (fun(h:0<fs'[q].pins)=>(vic_pin (n:=fs.length) (j:=j2) hq h).symm.trans hvic)
   have HV2:=Hq (fun(h:¬ 0<fs'[q].pins) (h2:fs'[q].mark=true)=>(vic_mark (n:=fs.length) (j:=j2) hq h h2).symm.trans hvic)
   have HV3:=Hq (fun(h:¬ 0<fs'[q].pins) (h2:fs'[q].mark=false)=>hvic.symm.trans (vic_hit (n:=fs.length) (j:=j2) hq h h2))
   obtain⟨n2,hne⟩:=ex ((q+1)%fs.length)
   rw[← hne]at htm hq2 HV1 HV2
   have HNE:=Hq hne
   clear hne hvic
   obtain⟨b,off,hbe,hca,hbl,hcell⟩:=read_at frL_len (own_reads ho2) hq
   injection hbe with hbe
   injection hbe with hb1 hb2 _
   subst hb1 hb2
   rw[Nat.zero_add]at hcell
   have HCE:=Hq (show wr.rangeAt g (q*5) (frL fs'[q])from hcell)
   obtain⟨f,hfe⟩:=ex (fs'[q])
   rw[← hfe]at HCE hpin HV1 HV2 HV3
   have HFE:=Hq hfe
   have HL:=Hq hl
   have hqi0:(0:Int)≤(q:Int):=by omega
   have hqi:(q:Int)<(fs.length:Int):=by omega
   have hwq:IntKind.i64.wrap ((q:Int)+1)=(q:Int)+1:=IntWalk.i64_in _ (by omega)
   have hwn:IntKind.i64.wrap (n2:Int)=(n2:Int):=IntWalk.i64_in _ (by omega)
   have HN2:=Hq (show(0:Int)≤(n2:Int)∧(n2:Int)≤64 from by omega)
   have HJ:=Hq hj3
   clear hbx how ho2 hcell hca hfe hl hbl hpins hj2 hj3 hlt2
   go_upto_region 9 with(first
    |(refine listWants Kr fun K hK=>wp_load_mid 108 (.tmp 38) rfl g (q*5) rfl (frL f) _ HCE.out Tryz.underlying108 Kr Kr (hK _ _ ?_))
    |(with_reducible refine sN (frA f) ?_))
   have H5:=Hq (HBX.out.step (allocB wr (.cells (frA f) 108)))
   have HG5:=Hq (heap_alloc_new wr (.cells (frA f) 108))
   have HO5:=Hq (ownBelow HO.out (allocB wr (.cells (frA f) 108)))
   obtain⟨g6,hg⟩:=ex wr.heap.size
   obtain⟨w5,hw5⟩:=ex (wr.alloc (.cells (frA f) 108))
   rw[← hg,← hw5]at HG5
   rw[← hw5]at H5 HO5
   rw[← hw5,← hg]
   clear hw5 hg HBX HCE HO
   try simp only[Act.put]
   have hcp:=show w5.cell? ⟨g6,2,none⟩=some (.int .i64 f.pins)from by rw[blkCell HG5.out];rfl
   by_cases hp0:0<f.pins
   ·have hp1:¬ f.pins≤0:=by omega
    have HP0:=Hq (HV1.out hp0)
    clear hp0 hpin HV1 HV2 HV3
    go_wp2_with fail
    go_roundw
    case rel=>
     have h6:=HO5.out
     have hl:=HL.out
     unfold OwnL at h6
     rw[hl]at h6
     exact⟨k+1,n2,fs',by omega,by go_num,rfl,hq2,hl,HPS.out,by rw[HJ.out];exact HP0.out,H5.out,h6⟩
    case measure=>simp[intOf];omega
   ·have hp1:f.pins≤0:=by omega
    cases hmk:f.mark with
    |false=>
     have hcm:=show w5.cell? ⟨g6,3,none⟩=some (.bool false)from by rw[blkCell HG5.out,← hmk];rfl
     have hcx:=show w5.cell? ⟨w.heap.size,12,none⟩=some (.int .i64 s.hand)from by rw[blkCell H5.out.get0];rfl
     have hzx:=blkFrozen H5.out.get0 12
     have HVH:=Hq (HV3.out hp0 hmk)
     clear hmk hpin hp0 HV1 HV2 HV3
     go_upto_region 12 with fail
     have H6:=Hq (show BxL w.heap.size w [((stA {s with hand:=((n2:Nat):Int)} {p with F:=some ⟨g,0,none⟩,fn:=fs.length,fc:=c2}),36),(#[(),(),(),"s",(),false,(),(),(),(),"","s",(),"s",()],36)] (w5.setCell ⟨w.heap.size,12,none⟩ (.int .i64 (n2:Int)))from by have h:=H5.out.set 0 12 (.int .i64 (n2:Int)) _ rfl;simpa using h)
     have HO6:=Hq (ownSet HO5.out ⟨w.heap.size,12,none⟩ (.int .i64 (n2:Int)) hlt)
     generalize w5.setCell ⟨w.heap.size,12,none⟩ (.int .i64 (n2:Int))=w6 at H6 HO6 ⊢
     clear hcp hcm hcx hzx
     go_wp2_with (first|(with_reducible refine lL H6.out.get0 Tryz.underlying36 ?_)|(with_reducible refine lS (stA {s with hand:=((n2:Nat):Int)} {p with F:=some ⟨g,0,none⟩,fn:=fs.length,fc:=c2}) H6.out.get1 ?_))
     refine bodyPost_ret (v:=.tuple #[.agg (stA {s with hand:=((n2:Nat):Int)} {p with F:=some ⟨g,0,none⟩,fn:=fs.length,fc:=c2}),.int .i64 (q:Int)]) (results_cell2 rfl _ _ rfl (load_whole (setRow_heap _ _ _ _ _ _ H6.out.get1) Tryz.underlying36 Kr Kr) rfl) rfl ?_
     have HB:=(H6.out.row 1 (stA {s with hand:=((n2:Nat):Int)} {p with F:=some ⟨g,0,none⟩,fn:=fs.length,fc:=c2}) _ rfl).below
     have hq3:=HP.out.below HB
     have hO4:=ownRowOff HO6.out (w.heap.size+1) (stA {s with hand:=((n2:Nat):Int)} {p with F:=some ⟨g,0,none⟩,fn:=fs.length,fc:=c2}) (by omega)
     have hl:=HL.out
     have hok:=HOK.out q fs' {p with F:=some ⟨g,0,none⟩,fn:=fs.length,fc:=c2} (w6.setRow (w.heap.size+1) (stA {s with hand:=((n2:Nat):Int)} {p with F:=some ⟨g,0,none⟩,fn:=fs.length,fc:=c2})) HVH.out
     rw[← HNE.out]at hok
     refine hok ⟨⟨hq3.st.dk,hq3.st.dt,hq3.st.tx,hq3.st.tt⟩,hl.symm,?_,(NewT.own hO4).mono (Nat.zero_le _)⟩ HB
     rw[hl]
     rw[hl]at hO4
     exact own_reads hO4
    |true=>
     have hcm:=show w5.cell? ⟨g6,3,none⟩=some (.bool true)from by rw[blkCell HG5.out,← hmk];rfl
     obtain⟨hzx,hop,hbp⟩:=pown_one frL_len HO5.out q hq {fs'[q]with mark:=false} 3 (by decide) (.bool false) (by
      intro t ht
      have:t=0∨t=1∨t=2∨t=3∨t=4:=by omega
      rcases this with rfl|rfl|rfl|rfl|rfl<;>rfl)
     have hcx:w5.cell? ⟨g,q*5+3,none⟩=some (.bool true):=by
      obtain⟨b,off,hbe,_,_,hcell⟩:=read_at frL_len (own_reads HO5.out) hq
      injection hbe with hbe
      injection hbe with hb1 hb2 _
      subst hb1 hb2
      have h3:=hcell 3 (.bool true) (by rw[← HFE.out,← hmk];rfl)
      rw[Nat.zero_add]at h3
      exact h3
     have HVM:=Hq (HV2.out hp0 hmk)
     clear hmk hpin hp0 HV1 HV2 HV3
     go_upto_region 15 with fail
     have H6:=Hq (H5.out.under (M:=B) (by simp;omega) hbp)
     have HO6:=Hq hop
     generalize w5.setCell ⟨g,q*5+3,none⟩ (.bool false)=w6 at H6 HO6 ⊢
     clear hcp hcm hcx hzx hop hbp
     try simp only[Act.put]
     go_wp2_with fail
     go_roundw
     case rel=>
      have h6:=HO6.out
      have hv:=HVM.out
      have hps:=HPS.out
      have hl:=HL.out
      rw[HFE.out]at hv
      generalize hF:fs'.set q {fs'[q]with mark:=false}=F2 at hv h6
      have hl2:F2.length=fs.length:=by rw[← hF,List.length_set];exact hl
      unfold OwnL at h6
      rw[hl2]at h6
      refine⟨k+1,n2,F2,by omega,by go_num,rfl,hq2,hl2,fun t ht=>?_,by rw[HJ.out];exact hv,H6.out,h6⟩
      subst hF
      rcases set_at fs' q {fs'[q]with mark:=false} t ht with⟨_,e⟩|⟨_,h9,e⟩
      ·rw[e];exact hps q hq
      ·rw[e];exact hps t h9
     case measure=>simp[intOf];omega
  ·obtain rfl:k=2*fs.length:=by omega
   have HBX:=Hq hbx
   rw[Nat.sub_self]at hvic
   have HVN:=Hq (show V=none from hvic.symm)
   have hki:¬ (((2*fs.length:Nat):Int)<2*(fs.length:Int)):=by omega
   clear hbx how hpins hvic hlt2 hl
   go_wp2_with (first|(with_reducible refine lL HBX.out.get0 Tryz.underlying36 ?_)|(with_reducible refine lS (stA s {p with F:=some ⟨g,0,none⟩,fn:=fs.length,fc:=c2}) HBX.out.get1 ?_))
   refine bodyPost_ret (v:=.tuple #[.agg (stA s {p with F:=some ⟨g,0,none⟩,fn:=fs.length,fc:=c2}),.int .i64 (-1)]) (results_cell2 rfl _ _ rfl (load_whole (setRow_heap _ _ _ _ _ _ HBX.out.get1) Tryz.underlying36 Kr Kr) rfl) rfl ?_
   exact HNO.out {p with F:=some ⟨g,0,none⟩,fn:=fs.length,fc:=c2} _ HVN.out (HBX.out.row 1 (stA s {p with F:=some ⟨g,0,none⟩,fn:=fs.length,fc:=c2}) _ rfl).below
def PwOut (x:Lg.Dk×Int)(w:World)(e:Ending)(w':World):Prop:=∃ (A:Option Addr) (c:Nat),e= .returned (.tuple #[diskV x.1 A c,x.2])∧DiskR w' x.1 A c∧NewT 0 w' 9 A∧Below w.heap.size w w'
theorem pfwrite_any {M:Nat}(d:Lg.Dk)(hd:DkW M d)(A:Option Addr)(c:Nat)(a:Nat)(ha2:a+4≤M)(hM:M≤100000)(b:ByteArray)(hb:b.size=512)(w:World)(h:DiskR w d A c)(hT:NewT 0 w 9 A):
 Calls Tryz.prog 130 #[diskV d A c,.int .i64 (a:Int),b] w (PwOut (wrK d a b 4) w):=by
 have hlen:=hd.len
 have HFI:=Hq (fun W=>fits_any d A c a (by omega) h.small W)
 have HWR:=Hq (fun(k:Nat) (B:Option Addr) (cc:Nat) W (hr:DiskR W (wrK d a b k).1 B cc)=>show Calls Tryz.prog 179 #[diskV (wrK d a b k).1 B cc,.int .i64 ((a:Int)+(k:Int)),.string (sec4 b k)] W (WriteOut (Lg.writeD (wrK d a b k).1 ((a:Int)+(k:Int)) (sec4 b k)) B W)from dwrite_any (wrK d a b k).1 (hd.wrK a b k).lb B cc ((a:Int)+(k:Int)) (sec4 b k) W hr)
 have HEX:=Hq (fun(k:Nat)=>sec4_at (b:=b) k)
 have HR:=Hq (show DiskR w (wrK d a b 0).1 A c from h)
 have HT:=Hq hT
 dsimp only[diskV]at HFI
 have HW2:=HWR
 dsimp only[diskV]at HW2
 have HST:=Hq (fun(k:Nat) (hk:k<4) (h0:(wrK d a b k).2=0)=>show wrK d a b (k+1)=Lg.writeD (wrK d a b k).1 ((a:Int)+(k:Int)) (sec4 b k)from wrK_step h0)
 have HSK:=Hq (fun(k:Nat) (hk:k≤4) (h0:¬ (wrK d a b k).2=0)=>show wrK d a b 4=wrK d a b k from by have:=wrK_stuck h0 (4-k);rwa[show k+(4-k)=4 by omega]at this)
 have HLE:=Hq (fun k=>(hd.wrK a b k).len)
 have HDN:=Hq (fun(hdn:d.down=true)=>show wrK d a b 4=(d,20)from by
  have e1:wrK d a b 1=(d,20):=by
   rw[wrK_step (k:=0) rfl]
   show Lg.writeD d _ _=_
   unfold Lg.writeD
   rw[if_pos hdn]
  have h1:=wrK_stuck (d:=d) (a:=a) (b:=b) (k:=1) (by rw[e1];exact(by decide:¬ (20:Int)=0)) 3
  rw[h1]
  exact e1)
 have ha3:a≤100000:=by omega
 show Calls Tryz.prog 130 #[.agg #[.slice A (wrK d a b 0).1.sectors.length c,.int .i64 (wrK d a b 0).1.left,.bool (wrK d a b 0).1.down],.int .i64 (a:Int),b] w _
 have HF0:=Hq (fun W=>show Calls Tryz.prog 180 #[.agg #[.slice A (wrK d a b 0).1.sectors.length c,.int .i64 (wrK d a b 0).1.left,.bool (wrK d a b 0).1.down],.int .i64 (a:Int)] W fun e w'=>e= .returned (.bool true)∧Below W.heap.size W w' from HFI.out W)
 have H00:=Hq (show(wrK d a b 0).2=0 from rfl)
 have HD0:=Hq (show(wrK d a b 0).1=d from rfl)
 clear HFI HWR h hT hd ha2 hlen
 generalize hD:wrK d a b=D at HR HW2 HF0 HST HSK HLE H00 HDN HD0 ⊢
 clear hD
 have HQ:=Hq (fun(A2:Option Addr) (c2:Nat) (w':World) (h1:DiskR w' (D 4).1 A2 c2) (h2:NewT 0 w' 9 A2) (h3:Below w.heap.size w w')=>show PwOut (D 4) w (.returned (.tuple #[diskV (D 4).1 A2 c2,.int .i64 (D 4).2])) w' from⟨A2,c2,rfl,h1,h2,h3⟩)
 generalize PwOut (D 4) w=Q at HQ ⊢
 go_enter Tryz.func130,Tryz.ntmps130
 go_upto_region 1 with fail
 have H0:=nW2 w #[.slice A (D 0).1.sectors.length c,.int .i64 (D 0).1.left,.bool (D 0).1.down] 28 #["s",(),false] 28
 obtain⟨W0,hW0⟩:=exW H0
 rw[← hW0]at H0 ⊢
 clear hW0
 have hz:(D 0).1.down=true∨(D 0).1.down=false:=by cases (D 0).1.down<;>simp
 rcases hz with hz|hz
 ·have hc:=show W0.cell? ⟨w.heap.size,2,none⟩=some (.bool true)from by rw[blkCell H0.out.get0,← hz];rfl
  have h4:=HDN.out (by rw[← HD0.out];exact hz)
  have HZ:=Hq h4
  clear hz h4
  go_wp2_with (first|(with_reducible refine lL H0.out.get0 Tryz.underlying28 ?_)|(with_reducible refine lS #[.slice A (D 0).1.sectors.length c,.int .i64 (D 0).1.left,.bool (D 0).1.down] H0.out.get1 ?_))
  refine bodyPost_ret (v:=.tuple #[.agg #[.slice A (D 0).1.sectors.length c,.int .i64 (D 0).1.left,.bool (D 0).1.down],.int .i64 20]) (results_cell2 rfl _ _ rfl (load_whole (setRow_heap _ _ _ _ _ _ H0.out.get1) Tryz.underlying28 Kr Kr) rfl) rfl ?_
  have hq:=HQ.out A c (W0.setRow (w.heap.size+1) #[.slice A (D 0).1.sectors.length c,.int .i64 (D 0).1.left,.bool (D 0).1.down])
  rw[HZ.out,← HD0.out]at hq
  exact hq ⟨(HT.out.below H0.out.below).readsRow (HR.out.below H0.out.below).secs H0.out.get1 (by decide) _,(HR.out.below H0.out.below).small⟩ ((HT.out.below H0.out.below).row _ _) (H0.out.row 1 #[.slice A (D 0).1.sectors.length c,.int .i64 (D 0).1.left,.bool (D 0).1.down] _ rfl).below
 ·have hc:=show W0.cell? ⟨w.heap.size,2,none⟩=some (.bool false)from by rw[blkCell H0.out.get0,← hz];rfl
  have h1i:((b.size:Int) != 512)=false:=by rw[hb];rfl
  clear hz HDN
  go_upto_region 5 with(first|(with_reducible refine lL H0.out.get0 Tryz.underlying28 ?_)|(go_at_call 180;(with_reducible refine(HF0.out _).mono ?_);rintro e w1 ⟨rfl,hb1⟩))
  have H1:=Hq (H0.out.step hb1)
  have HR1:=Hq (HR.out.below H1.out.below)
  have HT1:=Hq (HT.out.below H1.out.below)
  clear hc h1i HF0 H0 hb1
  go_wp2_with fail
  go_loopw [26] (fun i wr=>∃ (k:Nat) (A2:Option Addr) (c2:Nat),k≤4∧i= .int .i64 (k:Int)∧(D k).2=0∧BxL w.heap.size w [(#[.slice A2 (D k).1.sectors.length c2,.int .i64 (D k).1.left,.bool (D k).1.down],28),(#["s",(),false],28)] wr∧DiskR wr (D k).1 A2 c2∧NewT 0 wr 9 A2) (fun i _=>4-(intOf i).toNat)
  case atStart=>exact⟨0,A,c,by omega,rfl,H00.out,H1.out,HR1.out,HT1.out⟩
  case round=>
   clear HR1 HT1 H1 HR HT H00 HD0
   obtain⟨k,A2,c2,hk,rfl,hk2,hbx,hdr,hdt⟩:=hrel
   have HBX:=Hq hbx
   have HDR:=Hq hdr
   have HDT:=Hq hdt
   have HK2:=Hq hk2
   clear hbx hdr hdt hk2
   have hk0:(0:Int)≤(k:Int):=by omega
   by_cases hlt:k<4
   ·have hki:(k:Int)<4:=by omega
    have hwk:IntKind.i64.wrap ((k:Int)+1)=(k:Int)+1:=IntWalk.i64_in _ (by omega)
    have hwa:IntKind.i64.wrap ((a:Int)+(k:Int))=(a:Int)+(k:Int):=IntWalk.i64_in _ (by omega)
    have hw1:IntKind.i64.wrap ((k:Int)*128)=(k:Int)*128:=IntWalk.i64_in _ (by omega)
    have hw2:IntKind.i64.wrap (((k:Int)+1)*128)=((k:Int)+1)*128:=IntWalk.i64_in _ (by omega)
    have hs0:(0:Int)≤(k:Int)*128:=by omega
    have hs1:(k:Int)*128≤((k:Int)+1)*128:=by omega
    have hs2:((k:Int)+1)*128≤(b.size:Int):=by omega
    have hs3:(0:Int)≤((k:Int)+1)*128:=by omega
    have hs5:(k:Int)≤(k:Int)+1:=by omega
    have hs4:((k:Int)+1)*128≤512:=by omega
    have hx1:((k:Int)*128).toNat=k*128:=by omega
    have hx2:(((k:Int)+1)*128).toNat=(k+1)*128:=by omega
    have hex:=HEX.out k
    have hbs:(b.size:Int)=512:=by omega
    have HWK2:=Hq (show ∀ W,Below wr.heap.size wr W→Calls Tryz.prog 179 #[.agg #[.slice A2 (D k).1.sectors.length c2,.int .i64 (D k).1.left,.bool (D k).1.down],.int .i64 ((a:Int)+(k:Int)),.string (sec4 b k)] W (WriteOut (Lg.writeD (D k).1 ((a:Int)+(k:Int)) (sec4 b k)) A2 W)from fun W hb=>HW2.out k A2 c2 W (HDR.out.below hb))
    have HS1:=Hq (HST.out k hlt HK2.out)
    have HSS:=Hq (HSK.out (k+1) hlt)
    have HL4:=Hq (HLE.out (k+1))
    rw[HS1.out]at HSS HL4
    clear HW2 HLE HST HSK
    generalize Lg.writeD (D k).1 ((a:Int)+(k:Int)) (sec4 b k)=x at HWK2 HS1 HSS HL4
    obtain⟨d3,e3⟩:=x
    simp only at HWK2 HSS HL4
    clear hlt
    go_upto_region 8 with fail
    go_cut [9,10] (fun x y wc=>∃ (gt:Nat) (A3:Option Addr) (c3:Nat),x= .pointer (some ⟨gt,0,none⟩)∧y= .int .i64 e3∧wc.heap[gt]? =some (.cells #[.slice A3 d3.sectors.length c3,d3.left,d3.down] 28 (0,0))∧DiskR wc d3 A3 c3∧NewT 0 wc 9 A3∧Below wr.heap.size wr wc)
    case first=>
     have Z0:Below wr.heap.size wr wr.drew:=(Below.refl _ wr).drew
     refine rgH (S:=(fun u=>Below wr.heap.size wr u)) (fun hHeld=>?_)
     refine tkV 0 (some 30) (v:=.agg #[.slice A2 (D k).1.sectors.length c2,.int .i64 (D k).1.left,.bool (D k).1.down]) rfl (yieldsIf_load_mid (by rfl) 28 (.tmp 3) rfl w.heap.size 0 (by rfl) #[.slice A2 (D k).1.sectors.length c2,.int .i64 (D k).1.left,.bool (D k).1.down].toList _ (fun u hu=>(by intro j v hj;rw[Nat.zero_add,blkCell (blkOld HBX.out.get0 hu)];simpa using hj)) Tryz.underlying28 Kr Kr) ?_
     try simp only[Act.put,pS]
     refine tkP 1 ?_;refine tkP 2 ?_;refine tkP 3 ?_;refine tkP 4 ?_;refine tkP 5 ?_;refine tkP 6 ?_;refine tkP 7 ?_;refine tkP 8 ?_;refine tkP 9 ?_;refine tkP 10 ?_
     refine wpAnyH_ready (rs:=[11,15]) Kr (by simp) ?_
     refine(AllReadyH.cons (o:={dst:=some 41,op:=_,type:=_,pos:=_,after:=_,guard:=_}) rfl (fun K hK=>?_) (AllReadyH.cons (o:={dst:=some 9,op:=_,type:=_,pos:=_,after:=_,guard:=_}) rfl (fun K hK=>?_) AllReadyH.nil))
     ·
      go_simp
      refine(HWK2.out _ Z0).mono ?_;rintro e w5 ⟨A3,c3,rfl,hr5,hn5,hb5⟩;have hq5:NewT 0 w5 9 A3:=hn5.elim (fun e=>by rw[e];exact HDT.out.below (joinB Z0 hb5)) (fun e=>e.mono (Nat.zero_le _));have Z2:=joinB Z0 hb5;try clear hSn
      have hSn:=Z2
      refine hKo hK (fun hHeld=>?_)
      clear hK K
      refine tkP 12 ?_;refine tkP 13 ?_;refine tkP 14 ?_
      refine rdP 15 fun K hK=>?_
      go_simp
      have HG:=heap_alloc_new w5 (.cells #["s",(),false] 28);have Z3:=joinB Z2 (allocB w5 (.cells #["s",(),false] 28));have hr6:=hr5.below (allocB w5 (.cells #["s",(),false] 28));have hn6:=hq5.below (allocB w5 (.cells #["s",(),false] 28));clear hSn;have hSn:=Z3
      refine hKo hK (fun hHeld=>?_)
      clear hK K
      refine rdP 16 fun K hK=>?_
      refine wantedIf (by rfl) ?_
      refine sW #[.slice A3 d3.sectors.length c3,d3.left,d3.down] HG ?_
      have Z4:=rowB (g:=w5.heap.size) (by have:=Z2.size;omega) Z3 #[.slice A3 d3.sectors.length c3,d3.left,d3.down]
      have HG4:=setRow_heap _ _ _ #[.slice A3 d3.sectors.length c3,d3.left,d3.down] _ _ HG
      have hr7:DiskR _ d3 A3 c3:=⟨hn6.readsRow hr6.secs HG (by decide) #[.slice A3 d3.sectors.length c3,d3.left,d3.down],hr6.small⟩
      have hn7:=hn6.row w5.heap.size #[.slice A3 d3.sectors.length c3,d3.left,d3.down]
      clear hSn
      have hSn:=Z4
      refine hKo hK (fun hHeld=>?_)
      clear hK K
      refine tkP 17 ?_
      refine wpAnyH_done Kr ?_ _
      clear hHeld hSn
      go_wp2_with fail
      go_meet
      case rel=>exact⟨_,A3,c3,rfl,rfl,HG4,hr7,hn7,Z4⟩
     ·
      go_simp
      have Z1:=joinB Z0 (allocB wr.drew (.cells #["s",(),false] 28));have hSn:=Z1
      refine hKo hK (fun hHeld=>?_)
      clear hK K
      refine rdP 11 fun K hK=>?_
      go_simp
      refine(HWK2.out _ Z1).mono ?_;rintro e w5 ⟨A3,c3,rfl,hr5,hn5,hb5⟩;have hq5:NewT 0 w5 9 A3:=hn5.elim (fun e=>by rw[e];exact HDT.out.below (joinB Z1 hb5)) (fun e=>e.mono (Nat.zero_le _));have Z2:=joinB Z1 hb5;try clear hSn
      have hSn:=Z2
      have HG:=blkNew hb5
      refine hKo hK (fun hHeld=>?_)
      clear hK K
      refine tkP 12 ?_;refine tkP 13 ?_;refine tkP 14 ?_
      refine rdP 16 fun K hK=>?_
      refine wantedIf (by rfl) ?_
      refine sW #[.slice A3 d3.sectors.length c3,d3.left,d3.down] HG ?_
      have Z4:=rowB (g:=wr.drew.heap.size) (by show wr.heap.size≤wr.heap.size;omega) Z2 #[.slice A3 d3.sectors.length c3,d3.left,d3.down]
      have HG4:=setRow_heap _ _ _ #[.slice A3 d3.sectors.length c3,d3.left,d3.down] _ _ HG
      have hr7:DiskR _ d3 A3 c3:=⟨hq5.readsRow hr5.secs HG (by decide) #[.slice A3 d3.sectors.length c3,d3.left,d3.down],hr5.small⟩
      have hn7:=hq5.row wr.drew.heap.size #[.slice A3 d3.sectors.length c3,d3.left,d3.down]
      clear hSn
      have hSn:=Z4
      refine hKo hK (fun hHeld=>?_)
      clear hK K
      refine tkP 17 ?_
      refine wpAnyH_done Kr ?_ _
      clear hHeld hSn
      go_wp2_with fail
      go_meet
      case rel=>exact⟨_,A3,c3,rfl,rfl,HG4,hr7,hn7,Z4⟩
    case rest=>
     obtain⟨gt,A3,c3,rfl,rfl,hg3,hr3,hn3,hb3⟩:=hcut
     obtain⟨w3,rfl⟩:=ex wc
     have HG3:=Hq hg3
     have HR3:=Hq hr3
     have HN3:=Hq hn3
     have HB3:=Hq (HBX.out.step hb3)
     clear hg3 hr3 hn3 hb3 HWK2
     by_cases he:e3=0
     ·have heb:(e3 != 0)=false:=by rw[he];rfl
      have HE:=Hq he
      clear he HSS
      go_wp2_with (first|(with_reducible refine lL HG3.out Tryz.underlying28 ?_)|(with_reducible refine lS #[.slice A3 d3.sectors.length c3,d3.left,d3.down] HB3.out.get0 ?_))
      go_roundw
      case rel=>
       have hs1:=HS1.out
       have he:=HE.out
       subst he
       refine⟨k+1,A3,c3,by omega,by go_num,by rw[hs1],?_⟩
       rw[hs1]
       exact⟨HB3.out.row 0 #[.slice A3 d3.sectors.length c3,d3.left,d3.down] _ rfl,⟨HN3.out.readsRow HR3.out.secs HB3.out.get0 (by decide) _,HR3.out.small⟩,HN3.out.row _ _⟩
      case measure=>simp[intOf];omega
     ·have heb:(e3 != 0)=true:=by rw[bne_iff_ne];exact he
      have HE:=Hq (HSS.out he)
      clear he HSS
      go_upto_region 10 with(first|(with_reducible refine lL HG3.out Tryz.underlying28 ?_)|(with_reducible refine lS #[.slice A3 d3.sectors.length c3,d3.left,d3.down] HB3.out.get0 ?_))
      have HB4:=Hq (HB3.out.row 0 #[.slice A3 d3.sectors.length c3,d3.left,d3.down] _ rfl)
      have HR4:=Hq (show DiskR _ d3 A3 c3 from⟨HN3.out.readsRow HR3.out.secs HB3.out.get0 (by decide) #[.slice A3 d3.sectors.length c3,d3.left,d3.down],HR3.out.small⟩)
      have HN4:=Hq (HN3.out.row w.heap.size #[.slice A3 d3.sectors.length c3,d3.left,d3.down])
      generalize w3.setRow w.heap.size #[.slice A3 d3.sectors.length c3,d3.left,d3.down]=w4 at HB4 HR4 HN4 ⊢
      clear HB3 HR3 HN3 HG3
      go_wp2_with (first|(with_reducible refine lL HB4.out.get0 Tryz.underlying28 ?_)|(with_reducible refine lS #[.slice A3 d3.sectors.length c3,d3.left,d3.down] HB4.out.get1 ?_))
      refine bodyPost_ret (v:=.tuple #[.agg #[.slice A3 d3.sectors.length c3,d3.left,d3.down],e3]) (results_cell2 rfl _ _ rfl (load_whole (setRow_heap _ _ _ _ _ _ HB4.out.get1) Tryz.underlying28 Kr Kr) rfl) rfl ?_
      have hq:=HQ.out A3 c3 (w4.setRow (w.heap.size+1) #[.slice A3 d3.sectors.length c3,d3.left,d3.down])
      rw[HE.out]at hq
      exact hq ⟨HN4.out.readsRow HR4.out.secs HB4.out.get1 (by decide) _,HR4.out.small⟩ (HN4.out.row _ _) (HB4.out.row 1 #[.slice A3 d3.sectors.length c3,d3.left,d3.down] _ rfl).below
   ·obtain rfl:k=4:=by omega
    go_wp2_with (first|(with_reducible refine lL HBX.out.get0 Tryz.underlying28 ?_)|(with_reducible refine lS #[.slice A2 (D 4).1.sectors.length c2,.int .i64 (D 4).1.left,.bool (D 4).1.down] HBX.out.get1 ?_))
    refine bodyPost_ret (v:=.tuple #[.agg #[.slice A2 (D 4).1.sectors.length c2,.int .i64 (D 4).1.left,.bool (D 4).1.down],()]) (results_cell2 rfl _ _ rfl (load_whole (setRow_heap _ _ _ _ _ _ HBX.out.get1) Tryz.underlying28 Kr Kr) rfl) rfl ?_
    have hq:=HQ.out A2 c2 (wr.setRow (w.heap.size+1) #[.slice A2 (D 4).1.sectors.length c2,.int .i64 (D 4).1.left,.bool (D 4).1.down])
    rw[HK2.out]at hq
    exact hq ⟨HDT.out.readsRow HDR.out.secs HBX.out.get1 (by decide) _,HDR.out.small⟩ (HDT.out.row _ _) (HBX.out.row 1 #[.slice A2 (D 4).1.sectors.length c2,.int .i64 (D 4).1.left,.bool (D 4).1.down] _ rfl).below
def StOut (x:Px)(w:World)(e:Ending)(w':World):Prop:=∃ q:SP,e= .returned (.tuple #[storeV x.s q,x.e])∧PoolR w' x.s q x.fs∧Below w.heap.size w w'
theorem pfflush_0 (s:Tx.St)(p:SP)(fs:List Fr)(k:Nat)(hk:k<fs.length)(_hfl:fs.length≤100)(hrc:fs[k].rc=0)(w:World)(h:PoolR w s p fs):
 Calls Tryz.prog 82 #[storeV s p,.int .i64 (k:Int)] w (StOut (flushF s fs k) w):=by
 have e0:flushF s fs k=⟨s,fs,0⟩:=by unfold flushF;rw[frAt_eq hk,if_pos hrc]
 rw[e0]
 have HSM:=Hq (fun W (hb1:Below w.heap.size w W)=>show StOut ⟨s,fs,0⟩ w (.returned (.tuple #[storeV s p,()])) W from⟨p,rfl,h.below hb1,hb1⟩)
 generalize StOut ⟨s,fs,0⟩ w=Q at HSM ⊢
 have HFN:=Hq h.fn
 obtain⟨b,off,hpF,hcc,hbl,hcell⟩:=read_at frL_len h.fr hk
 generalize hfe:fs[k]=f at hcell hrc
 have HCE:=Hq (fun u (hu:Below w.heap.size w u)=>show u.rangeAt b (off+k*5) (frL f)from fun i v hv=>by rw[hu.cell (p:=⟨b,off+k*5+i,none⟩) hbl];exact hcell i v hv)
 have HPF:=Hq hpF
 have hki0:(0:Int)≤(k:Int):=by omega
 have hki:(k:Int)<(fs.length:Int):=by omega
 have hrb:(f.rc==0)=true:=by rw[hrc];rfl
 clear h hfe hcell hcc hbl hpF e0 hrc
 go_enter Tryz.func82,Tryz.ntmps82
 go_upto_region 1 with fail
 have H0:=nW2 w (stA s p) 36 #[(),(),(),"s",(),false,(),(),(),(),"","s",(),"s",()] 36
 obtain⟨W0,hW0⟩:=exW H0
 rw[← hW0]at H0 ⊢
 clear hW0
 have hc:=show W0.cell? ⟨w.heap.size,11,none⟩=some (.slice (some ⟨b,off,none⟩) fs.length p.fc)from by rw[blkCell H0.out.get0,← HPF.out,← HFN.out];rfl
 have HC0:=Hq (show W0.rangeAt b (off+k*5) (frL f)from HCE.out W0 H0.out.below)
 go_upto_region 2 with(first
  |(refine listWants Kr fun K hK=>wp_load_mid 108 (.tmp 12) rfl b (off+k*5) rfl (frL f) _ HC0.out Tryz.underlying108 Kr Kr (hK _ _ ?_))
  |(with_reducible refine sN (frA f) ?_))
 have H1:=Hq (H0.out.step (allocB W0 (.cells (frA f) 108)))
 have hcg:=show(W0.alloc (.cells (frA f) 108)).cell? ⟨W0.heap.size,4,none⟩=some (.int .i64 f.rc)from by rw[blkCell (heap_alloc_new W0 (.cells (frA f) 108))];rfl
 generalize W0.alloc (.cells (frA f) 108)=w1 at H1 hcg ⊢
 generalize W0.heap.size=g at hcg ⊢
 clear H0 HC0 hc HCE
 try simp only[Act.put]
 go_wp2_with (first|(with_reducible refine lL H1.out.get0 Tryz.underlying36 ?_)|(with_reducible refine lS (stA s p) H1.out.get1 ?_))
 refine bodyPost_ret (v:=.tuple #[.agg (stA s p),()]) (results_cell2 rfl _ _ rfl (load_whole (setRow_heap _ _ _ _ _ _ H1.out.get1) Tryz.underlying36 Kr Kr) rfl) rfl ?_
 exact HSM.out _ (H1.out.row 1 (stA s p) _ rfl).below
theorem pfflush_1 {N n B:Nat}(s:Tx.St)(p:SP)(fs:List Fr)(hW:Wf N n B s fs)(k:Nat)(hk:k<fs.length)(hrc:¬ fs[k].rc=0)(w:World)(h:PoolR w s p fs):
 Calls Tryz.prog 82 #[storeV s p,.int .i64 (k:Int)] w (StOut (flushF s fs k) w):=by
 have HP:=Hq h
 have HFN:=Hq h.fn
 have hfl:fs.length≤100:=by have:=hW.nf;omega
 have hn1:=hW.n1
 have hF:=hW.fr k hk
 have hpis:=hF.is (hF.rz hrc)
 have hsz:=(sealB_is hpis).2.2.2
 obtain⟨pg,hpp⟩:∃ pg:Nat,fs[k].page=(pg:Int):=⟨fs[k].page.toNat,by have:=hF.pg;omega⟩
 have hpn:pg<n:=by have:=hF.pg;omega
 have hlo:=hW.low
 have HFO:=Hq (fun W (hb1:Below w.heap.size w W)=>force_any s.disk hW.dk.lb p.A p.c s.log hlo.e0 (by have:=hlo.ef;omega) (by have:=hlo.n;omega) (by have:=hlo.n;omega) (by have:=hlo.f;omega) (by have:=hlo.f;omega) (by have:=hlo.t0;have:=hlo.ef;omega) hlo.t0 hlo.t1 W (h.st.dk.below hb1))
 have hd2:=hW.dk.force s.log
 have hse:secOf s (pg:Int)=1+N+4*pg:=by unfold secOf;rw[hW.zl];omega
 have hFe:flushF s fs k=if ¬ (Lg.forceD s.disk s.log).2.2=0 then⟨{s with disk:=(Lg.forceD s.disk s.log).1,log:=(Lg.forceD s.disk s.log).2.1},fs,(Lg.forceD s.disk s.log).2.2⟩else
  if ¬ (wrK (Lg.forceD s.disk s.log).1 (1+N+4*pg) (sealB fs[k].bytes) 4).2=0 then⟨{s with disk:=(wrK (Lg.forceD s.disk s.log).1 (1+N+4*pg) (sealB fs[k].bytes) 4).1,log:=(Lg.forceD s.disk s.log).2.1},fs,(wrK (Lg.forceD s.disk s.log).1 (1+N+4*pg) (sealB fs[k].bytes) 4).2⟩
  else⟨{s with disk:=(wrK (Lg.forceD s.disk s.log).1 (1+N+4*pg) (sealB fs[k].bytes) 4).1,log:=(Lg.forceD s.disk s.log).2.1},fs.set k {fs[k]with rc:=0},0⟩:=by
  unfold flushF
  rw[frAt_eq hk,if_neg hrc,hpp,hse]
 rw[hFe]
 generalize Lg.forceD s.disk s.log=y at HFO hd2 hFe ⊢
 obtain⟨d2,l2,e2⟩:=y
 simp only at HFO hd2 ⊢
 have HSA:=Hq (fun A c W=>psector_any {s with disk:=d2,log:=l2} {p with A:=A,c:=c} N pg hW.zl hn1.2.2 (by omega) W)
 have HSL:=Hq (fun W=>pseal_any fs[k].bytes (by have:=hF.sz;omega) W)
 have HWP:=Hq (fun A c W (hr:DiskR W d2 A c) (ht:NewT 0 W 9 A)=>pfwrite_any d2 hd2 A c (1+N+4*pg) (by omega) (by omega) (sealB fs[k].bytes) hsz W hr ht)
 generalize sealB fs[k].bytes=z at HSL HWP ⊢
 generalize 1+N+4*pg=at_ at HSA HWP ⊢
 generalize wrK d2 at_ z 4=y at HWP ⊢
 obtain⟨d3,e3⟩:=y
 simp only at HWP ⊢
 generalize hX:(if ¬ e2=0 then(⟨{s with disk:=d2,log:=l2},fs,e2⟩:Px)else if ¬ e3=0 then⟨{s with disk:=d3,log:=l2},fs,e3⟩else⟨{s with disk:=d3,log:=l2},fs.set k {fs[k]with rc:=0},0⟩)=X
 have HQ1:=Hq (fun(h2:¬ e2=0) (w':World) (q:SP) (hp:PoolR w' {s with disk:=d2,log:=l2} q fs) (hb1:Below w.heap.size w w')=>show StOut X w (.returned (.tuple #[storeV {s with disk:=d2,log:=l2} q,e2])) w' from by rw[← hX,if_pos h2];exact⟨q,rfl,hp,hb1⟩)
 have HQ2:=Hq (fun(h2:e2=0) (h3:¬ e3=0) (w':World) (q:SP) (hp:PoolR w' {s with disk:=d3,log:=l2} q fs) (hb1:Below w.heap.size w w')=>show StOut X w (.returned (.tuple #[storeV {s with disk:=d3,log:=l2} q,e3])) w' from by rw[← hX,if_neg (fun hn=>hn h2),if_pos h3];exact⟨q,rfl,hp,hb1⟩)
 have HQ3:=Hq (fun(h2:e2=0) (h3:e3=0) (w':World) (q:SP) (hp:PoolR w' {s with disk:=d3,log:=l2} q (fs.set k {fs[k]with rc:=0})) (hb1:Below w.heap.size w w')=>show StOut X w (.returned (.tuple #[storeV {s with disk:=d3,log:=l2} q,()])) w' from by rw[← hX,if_neg (fun hn=>hn h2),if_neg (fun hn=>hn h3)];exact⟨q,rfl,hp,hb1⟩)
 generalize StOut X w=Q at HQ1 HQ2 HQ3 ⊢
 obtain⟨b,off,hpF,hcc,hbl,hcell⟩:=read_at frL_len h.fr hk
 clear hX hFe hlo hd2 hF hpis hsz
 generalize hfe:fs[k]=f at hcell HQ3 HSL hpp hrc
 have HBL:=Hq hbl
 have HCE:=Hq (fun u (hu:Below w.heap.size w u)=>show u.rangeAt b (off+k*5) (frL f)from fun i v hv=>by rw[hu.cell (p:=⟨b,off+k*5+i,none⟩) hbl];exact hcell i v hv)
 have HPF:=Hq hpF
 have hki0:(0:Int)≤(k:Int):=by omega
 have hki:(k:Int)<(fs.length:Int):=by omega
 have HFP:=Hq hpp
 have hrb:(f.rc==0)=false:=beq_eq_false_iff_ne.2 hrc
 clear h hW hse hfe hcell hcc hbl hpF hpn hpp hn1 hrc
 go_enter Tryz.func82,Tryz.ntmps82
 go_upto_region 1 with fail
 have H0:=nW2 w (stA s p) 36 #[(),(),(),"s",(),false,(),(),(),(),"","s",(),"s",()] 36
 obtain⟨W0,hW0⟩:=exW H0
 rw[← hW0]at H0 ⊢
 clear hW0
 have hc:=show W0.cell? ⟨w.heap.size,11,none⟩=some (.slice (some ⟨b,off,none⟩) fs.length p.fc)from by rw[blkCell H0.out.get0,← HPF.out,← HFN.out];rfl
 have HC0:=Hq (show W0.rangeAt b (off+k*5) (frL f)from HCE.out W0 H0.out.below)
 go_upto_region 2 with(first
  |(refine listWants Kr fun K hK=>wp_load_mid 108 (.tmp 12) rfl b (off+k*5) rfl (frL f) _ HC0.out Tryz.underlying108 Kr Kr (hK _ _ ?_))
  |(with_reducible refine sN (frA f) ?_))
 have H1:=Hq (H0.out.step (allocB W0 (.cells (frA f) 108)))
 have HG:=Hq (heap_alloc_new W0 (.cells (frA f) 108))
 have hlt:w.heap.size+1<W0.heap.size:=H0.out.lt (i:=1) (by simp)
 obtain⟨g,hg⟩:=ex W0.heap.size
 obtain⟨w1,hw1⟩:=ex (W0.alloc (.cells (frA f) 108))
 rw[← hg,← hw1]at HG
 rw[← hw1]at H1
 rw[← hw1,← hg]
 rw[← hg]at hlt
 clear hw1 hg H0 HC0 hc HCE
 try simp only[Act.put]
 have hcg:=show w1.cell? ⟨g,4,none⟩=some (.int .i64 f.rc)from by rw[blkCell HG.out];rfl
 go_upto_region 6 with(first
  |(with_reducible refine lP #[.slice p.A s.disk.sectors.length p.c,s.disk.left,s.disk.down] H1.out.get0 Tryz.underlying28 ?_)
  |(with_reducible refine lP #[s.log.from_,s.log.n,s.log.end_,s.log.safe,s.log.tail] H1.out.get0 Tryz.underlying30 ?_)
  |(go_at_call 129;(refine(HFO.out _ H1.out.below).mono ?_);rintro e w2 ⟨A2,c2,rfl,hr2,ht2,hb2⟩;have H2:=Hq (H1.out.step hb2);have H3:=Hq (show BxL w.heap.size w [((stA {s with disk:=d2} {p with A:=A2,c:=c2}),36),(#[(),(),(),"s",(),false,(),(),(),(),"","s",(),"s",()],36)] (w2.setRow w.heap.size (stA {s with disk:=d2} {p with A:=A2,c:=c2}))from H2.out.row 0 (stA {s with disk:=d2} {p with A:=A2,c:=c2}) _ rfl))
  |(with_reducible refine lU #[.slice A2 d2.sectors.length c2,d2.left,d2.down] (stA {s with disk:=d2} {p with A:=A2,c:=c2}) H2.out.get0 ?_)
  |(with_reducible refine lU #[l2.from_,l2.n,l2.end_,l2.safe,l2.tail] (stA {s with disk:=d2,log:=l2} {p with A:=A2,c:=c2}) H3.out.get0 ?_))
 have hr2':NewT 0 w2 9 A2:=ht2.elim (fun e=>by rw[e];exact HP.out.st.dt.below H2.out.below) (fun e=>e.mono (Nat.zero_le _))
 have hbz:Below w.heap.size w2 ((w2.setRow w.heap.size (stA {s with disk:=d2} {p with A:=A2,c:=c2})).setRow w.heap.size (stA {s with disk:=d2,log:=l2} {p with A:=A2,c:=c2})):=rowB (Nat.le_refl _) (rowB (Nat.le_refl _) (show Below w.heap.size w2 w2 from⟨rfl,rfl,rfl,Nat.le_refl _,fun _ _=>rfl⟩) (stA {s with disk:=d2} {p with A:=A2,c:=c2})) (stA {s with disk:=d2,log:=l2} {p with A:=A2,c:=c2})
 have H4:=Hq (show BxL w.heap.size w [((stA {s with disk:=d2,log:=l2} {p with A:=A2,c:=c2}),36),(#[(),(),(),"s",(),false,(),(),(),(),"","s",(),"s",()],36)] ((w2.setRow w.heap.size (stA {s with disk:=d2} {p with A:=A2,c:=c2})).setRow w.heap.size (stA {s with disk:=d2,log:=l2} {p with A:=A2,c:=c2}))from H3.out.row 0 (stA {s with disk:=d2,log:=l2} {p with A:=A2,c:=c2}) _ rfl)
 have HG4:=Hq ((heap_setRow_other _ _ (stA {s with disk:=d2,log:=l2} {p with A:=A2,c:=c2}) _ (show g≠w.heap.size by omega)).trans ((heap_setRow_other _ _ (stA {s with disk:=d2} {p with A:=A2,c:=c2}) _ (show g≠w.heap.size by omega)).trans (blkOld HG.out hb2)))
 have HP2:=Hq ((HP.out.below H1.out.below).disk hb2 l2 hr2 hr2')
 have HP4:=Hq (((HP2.out.other (t:=36) H2.out.get0 (by decide) (by decide) (by decide) (stA {s with disk:=d2} {p with A:=A2,c:=c2}))).other (t:=36) H3.out.get0 (by decide) (by decide) (by decide) (stA {s with disk:=d2,log:=l2} {p with A:=A2,c:=c2}))
 generalize (w2.setRow w.heap.size (stA {s with disk:=d2} {p with A:=A2,c:=c2})).setRow w.heap.size (stA {s with disk:=d2,log:=l2} {p with A:=A2,c:=c2})=w3 at H4 HG4 HP4 hbz ⊢
 clear hr2 ht2 hr2' hbz hb2 H1 H2 H3 HG HFO HP HP2 hcg hrb
 try simp only[Act.put]
 by_cases he2:e2=0
 ·have heb:(e2 != 0)=false:=by rw[he2];rfl
  have HE2:=Hq he2
  clear he2 HQ1
  go_upto_region 8 with fail
  go_cut [7] (fun x wc=>x= .int .i64 e3∧∃ (A3:Option Addr) (c3:Nat),BxL w.heap.size w [((stA {s with disk:=d3,log:=l2} {p with A:=A3,c:=c3}),36),(#[(),(),(),"s",(),false,(),(),(),(),"","s",(),"s",()],36)] wc∧wc.heap[g]? =some (.cells (frA f) 108 (0,0))∧PoolR wc {s with disk:=d3,log:=l2} {p with A:=A3,c:=c3} fs)
  case first=>
   have HS8:=Hq (fun(u:World) (hu:Below w3.heap.size w3 u)=>show u.heap[w.heap.size]? =some (.cells (stA {s with disk:=d2,log:=l2} {p with A:=A2,c:=c2}) 36 (0,0))∧u.heap[g]? =some (.cells (frA f) 108 (0,0))from⟨blkOld H4.out.get0 hu,blkOld HG4.out hu⟩)
   have hQ:Below w3.heap.size w3 w3.drew:=(Below.refl _ w3).drew
   have hSn:=HS8.out _ hQ
   refine wp_region_Z (S:=(fun u=>u.heap[w.heap.size]? =some (.cells (stA {s with disk:=d2,log:=l2} {p with A:=A2,c:=c2}) 36 (0,0))∧u.heap[g]? =some (.cells (frA f) 108 (0,0)))) 14 Kr ?_ (fun hHeld=>?_)
   ·exact hSn
   generalize w3.drew=w8 at hQ hSn ⊢
   refine wpAnyZ_take (i:=0) (oi:={dst:=some 34,op:=_,type:=_,pos:=_,after:=_,guard:=_}) (v:=?_) (p:=[14]) rfl Kr Kr Kr Kr Kr Kr (fun _ _ _ h=>h) (Or.inl ⟨by rfl,?_⟩) (by assumption) ?_
   rotate_left
   ·intro u hSu;have hcl0:=show u.cell? ⟨g,0,none⟩=some (.int .i64 (pg:Int))from(by rw[blkCell hSu.2,← HFP.out];rfl);have hcl1:=show u.cell? ⟨g,1,none⟩=some (.string f.bytes)from(by rw[blkCell hSu.2];rfl)
    clear hSu;go_simp;(try with_reducible rfl)
   try simp only[Act.put,pS]
   refine wpAnyZ_take (i:=1) (oi:={dst:=some 35,op:=_,type:=_,pos:=_,after:=_,guard:=_}) (v:=.agg #[.slice A2 d2.sectors.length c2,d2.left,d2.down]) (p:=[14]) rfl Kr Kr Kr Kr Kr Kr (fun _ _ _ h=>h) (yieldsIf_load_mid (by rfl) 28 (.tmp 34) rfl w.heap.size 3 (by rfl) [.slice A2 d2.sectors.length c2,.int .i64 d2.left,.bool d2.down] _ (fun u hu j v hj=>by rw[blkCell hu.1];rcases j with _|_|_|j<;>simp at hj ⊢<;>exact hj) Tryz.underlying28 Kr Kr) (by assumption) ?_
   try simp only[Act.put,pS]
   refine tzL 2 [14] Tryz.underlying36 ?_
   refine wpAnyZ_take (i:=3) (oi:={dst:=some 37,op:=_,type:=_,pos:=_,after:=_,guard:=_}) (v:=?_) (p:=[14]) rfl Kr Kr Kr Kr Kr Kr (fun _ _ _ h=>h) (Or.inl ⟨by rfl,?_⟩) (by assumption) ?_
   rotate_left
   ·intro u hSu;have hcl0:=show u.cell? ⟨g,0,none⟩=some (.int .i64 (pg:Int))from(by rw[blkCell hSu.2,← HFP.out];rfl);have hcl1:=show u.cell? ⟨g,1,none⟩=some (.string f.bytes)from(by rw[blkCell hSu.2];rfl)
    clear hSu;go_simp;(try with_reducible rfl)
   try simp only[Act.put,pS]
   refine wpAnyZ_take (i:=4) (oi:={dst:=some 38,op:=_,type:=_,pos:=_,after:=_,guard:=_}) (v:=?_) (p:=[14]) rfl Kr Kr Kr Kr Kr Kr (fun _ _ _ h=>h) (Or.inl ⟨by rfl,?_⟩) (by assumption) ?_
   rotate_left
   ·intro u hSu;have hcl0:=show u.cell? ⟨g,0,none⟩=some (.int .i64 (pg:Int))from(by rw[blkCell hSu.2,← HFP.out];rfl);have hcl1:=show u.cell? ⟨g,1,none⟩=some (.string f.bytes)from(by rw[blkCell hSu.2];rfl)
    clear hSu;go_simp;(try with_reducible rfl)
   try simp only[Act.put,pS]
   refine wpAnyZ_take (i:=6) (oi:={dst:=some 40,op:=_,type:=_,pos:=_,after:=_,guard:=_}) (v:=?_) (p:=[14]) rfl Kr Kr Kr Kr Kr Kr (fun _ _ _ h=>h) (Or.inl ⟨by rfl,?_⟩) (by assumption) ?_
   rotate_left
   ·intro u hSu;have hcl0:=show u.cell? ⟨g,0,none⟩=some (.int .i64 (pg:Int))from(by rw[blkCell hSu.2,← HFP.out];rfl);have hcl1:=show u.cell? ⟨g,1,none⟩=some (.string f.bytes)from(by rw[blkCell hSu.2];rfl)
    clear hSu;go_simp;(try with_reducible rfl)
   try simp only[Act.put,pS]
   refine wpAnyZ_take (i:=7) (oi:={dst:=some 41,op:=_,type:=_,pos:=_,after:=_,guard:=_}) (v:=?_) (p:=[14]) rfl Kr Kr Kr Kr Kr Kr (fun _ _ _ h=>h) (Or.inl ⟨by rfl,?_⟩) (by assumption) ?_
   rotate_left
   ·intro u hSu;have hcl0:=show u.cell? ⟨g,0,none⟩=some (.int .i64 (pg:Int))from(by rw[blkCell hSu.2,← HFP.out];rfl);have hcl1:=show u.cell? ⟨g,1,none⟩=some (.string f.bytes)from(by rw[blkCell hSu.2];rfl)
    clear hSu;go_simp;(try with_reducible rfl)
   try simp only[Act.put,pS]
   refine wpAnyZ_ready (rs:=[5]) Kr (by simp) ?_
   refine(AllReadyZ.cons (o:={dst:=some 39,op:=_,type:=_,pos:=_,after:=_,guard:=_}) rfl (fun K hK=>?_) AllReadyZ.nil)
   go_simp
   (refine(HSA.out A2 c2 _).mono ?_);rintro e w9 ⟨rfl,hb9⟩;have hQ2:=joinB hQ hb9;clear hQ hSn hb9;have hQ:=hQ2;clear hQ2;have hSn:=HS8.out _ hQ
   refine hKo hK (fun hHeld=>?_)
   clear hK K
   refine wpAnyZ_ready (rs:=[8]) Kr (by simp) ?_
   refine(AllReadyZ.cons (o:={dst:=some 42,op:=_,type:=_,pos:=_,after:=_,guard:=_}) rfl (fun K hK=>?_) AllReadyZ.nil)
   go_simp
   (refine(HSL.out _).mono ?_);rintro e w9 ⟨rfl,hb9⟩;have hQ2:=joinB hQ hb9;clear hQ hSn hb9;have hQ:=hQ2;clear hQ2;have hSn:=HS8.out _ hQ
   refine hKo hK (fun hHeld=>?_)
   clear hK K
   refine wpAnyZ_ready (rs:=[9]) Kr (by simp) ?_
   refine(AllReadyZ.cons (o:={dst:=some 43,op:=_,type:=_,pos:=_,after:=_,guard:=_}) rfl (fun K hK=>?_) AllReadyZ.nil)
   go_simp
   (refine(HWP.out A2 c2 _ (HP4.out.below hQ).st.dk (HP4.out.below hQ).st.dt).mono ?_);rintro e w9 ⟨A3,c3,rfl,hr9,hn9,hb9⟩;have hp9:=(HP4.out.below hQ).disk hb9 l2 hr9 hn9;clear hr9 hn9;have hQ2:=joinB hQ hb9;clear hQ hSn hb9;have hQ:=hQ2;clear hQ2;have hSn:=HS8.out _ hQ
   refine hKo hK (fun hHeld=>?_)
   clear hK K
   refine wpAnyZ_take (i:=10) (oi:={dst:=some 33,op:=_,type:=_,pos:=_,after:=_,guard:=_}) (v:=?_) (p:=[14]) rfl Kr Kr Kr Kr Kr Kr (fun _ _ _ h=>h) (Or.inl ⟨by rfl,?_⟩) (by assumption) ?_
   rotate_left
   ·intro u hSu;have hcl0:=show u.cell? ⟨g,0,none⟩=some (.int .i64 (pg:Int))from(by rw[blkCell hSu.2,← HFP.out];rfl);have hcl1:=show u.cell? ⟨g,1,none⟩=some (.string f.bytes)from(by rw[blkCell hSu.2];rfl)
    clear hSu;go_simp;(try with_reducible rfl)
   try simp only[Act.put,pS]
   refine wpAnyZ_take (i:=11) (oi:={dst:=some 44,op:=_,type:=_,pos:=_,after:=_,guard:=_}) (v:=?_) (p:=[14]) rfl Kr Kr Kr Kr Kr Kr (fun _ _ _ h=>h) (Or.inl ⟨by rfl,?_⟩) (by assumption) ?_
   rotate_left
   ·intro u hSu;have hcl0:=show u.cell? ⟨g,0,none⟩=some (.int .i64 (pg:Int))from(by rw[blkCell hSu.2,← HFP.out];rfl);have hcl1:=show u.cell? ⟨g,1,none⟩=some (.string f.bytes)from(by rw[blkCell hSu.2];rfl)
    clear hSu;go_simp;(try with_reducible rfl)
   try simp only[Act.put,pS]
   refine wpAnyZ_takeP (i:=12) (oi:={dst:=some 45,op:=_,type:=_,pos:=_,after:=_,guard:=_}) (v:=?_) rfl Kr Kr Kr Kr (fun _ _ _ h=>h) (Or.inl ⟨by rfl,?_⟩) (fun _=>by assumption) ?_
   rotate_left
   ·intro u hSu;clear hSu;go_simp;(try with_reducible rfl)
   try simp only[Act.put,pS]
   refine wpAnyZ_take (i:=13) (oi:={dst:=some 46,op:=_,type:=_,pos:=_,after:=_,guard:=_}) (v:=?_) (p:=[14]) rfl Kr Kr Kr Kr Kr Kr (fun _ _ _ h=>h) (Or.inl ⟨by rfl,?_⟩) (by assumption) ?_
   rotate_left
   ·intro u hSu;have hcl0:=show u.cell? ⟨g,0,none⟩=some (.int .i64 (pg:Int))from(by rw[blkCell hSu.2,← HFP.out];rfl);have hcl1:=show u.cell? ⟨g,1,none⟩=some (.string f.bytes)from(by rw[blkCell hSu.2];rfl)
    clear hSu;go_simp;(try with_reducible rfl)
   try simp only[Act.put,pS]
   refine wpAnyZ_ready (rs:=[14]) Kr (by simp) ?_
   refine(AllReadyZ.last (o:={dst:=none,op:=_,type:=_,pos:=_,after:=_,guard:=_}) rfl Kr (fun K hK=>?_) AllReadyZ.nil)
   refine wantedIf (by rfl) ?_
   refine wpPut 28 (.tmp 46) (.tmp 44) rfl w.heap.size 3 #[.slice A3 d3.sectors.length c3,d3.left,d3.down] (stA {s with disk:=d2,log:=l2} {p with A:=A2,c:=c2}) (stA {s with disk:=d3,log:=l2} {p with A:=A3,c:=c3}) _ rfl rfl hSn.1 Kr Kr Kr Kr ?_
   refine hK.out _ _ ?_
   clear hK K
   try simp only[Act.put]
   refine wpAnyZ_takeP (i:=15) (oi:={dst:=some 7,op:=_,type:=_,pos:=_,after:=_,guard:=_}) (v:=?_) rfl Kr Kr Kr Kr (fun _ _ _ h=>h) (Or.inl ⟨by rfl,?_⟩) (fun h=>absurd h (by decide)) ?_
   rotate_left
   ·intro u hSu;clear hSu;go_simp;(try with_reducible rfl)
   try simp only[Act.put,pS]
   refine wpAnyZ_done Kr ?_ _
   go_wp2_with fail
   go_meet
   case rel=>exact⟨rfl,A3,c3,(H4.out.step hQ).row 0 (stA {s with disk:=d3,log:=l2} {p with A:=A3,c:=c3}) _ rfl,(heap_setRow_other _ _ (stA {s with disk:=d3,log:=l2} {p with A:=A3,c:=c3}) _ (show g≠w.heap.size by omega)).trans hSn.2,hp9.other (t:=36) hSn.1 (by decide) (by decide) (by decide) (stA {s with disk:=d3,log:=l2} {p with A:=A3,c:=c3})⟩
  case rest=>
   obtain⟨rfl,A3,c3,h12,hg12,hp12⟩:=hcut
   obtain⟨w13,rfl⟩:=ex wc
   have H13:=Hq h12
   have HF13:=Hq hg12
   have HP13:=Hq hp12
   clear h12 hg12 hp12 H4 HG4 HP4 HSL HWP HSA
   by_cases he3:e3=0
   ·have hec:(e3 != 0)=false:=by rw[he3];rfl
    have HE3:=Hq he3
    clear he3 HQ2
    have hcx:=show w13.cell? ⟨g,4,none⟩=some (.int .i64 f.rc)from by rw[blkCell HF13.out];rfl
    have hzx:=blkFrozen HF13.out 4
    have HWI:=Hq (fun W (hp:PoolR W {s with disk:=d3,log:=l2} {p with A:=A3,c:=c3} fs)=>pwith_any {s with disk:=d3,log:=l2} {p with A:=A3,c:=c3} fs hfl k hk {f with rc:=0} W hp)
    go_upto_region 12 with fail
    have HG14:=Hq (show(w13.setCell ⟨g,4,none⟩ (.int .i64 0)).heap[g]? =some (.cells (frA {f with rc:=0}) 108 (0,0))from by have:=blkSet 4 HF13.out (.int .i64 0);simpa using this)
    have H14:=Hq (H13.out.under (M:=g) (by simp;omega) ((Below.refl _ w13).setCell (p:=⟨g,4,none⟩) (Nat.le_refl _) (.int .i64 0)))
    have HP14:=Hq (HP13.out.own HF13.out (fun ad e=>by have e2:p.F=some ad:=e;rw[HPF.out]at e2;injection e2 with e2;subst e2;have:=HBL.out;show b≠g;omega) 4 (.int .i64 0))
    generalize w13.setCell ⟨g,4,none⟩ (.int .i64 0)=w14 at HG14 H14 HP14 ⊢
    clear hcx hzx H13 HP13 HF13
    go_wp2_with (first
     |(with_reducible refine lL H14.out.get0 Tryz.underlying36 ?_)
     |(with_reducible refine lL HG14.out Tryz.underlying108 ?_)
     |(go_at_call 74;(refine(HWI.out _ HP14.out).mono ?_);rintro e w15 ⟨q,rfl,hpq,hb15⟩;have H15:=Hq (H14.out.step hb15))
     |(with_reducible refine lS (stA {s with disk:=d3,log:=l2} q) H15.out.get1 ?_))
    refine bodyPost_ret (v:=.tuple #[.agg (stA {s with disk:=d3,log:=l2} q),()]) (results_cell2 rfl _ _ rfl (load_whole (setRow_heap _ _ _ _ _ _ H15.out.get1) Tryz.underlying36 Kr Kr) rfl) rfl ?_
    exact HQ3.out HE2.out HE3.out _ q (hpq.other H15.out.get1 (by decide) (by decide) (by decide) _) (H15.out.row 1 (stA {s with disk:=d3,log:=l2} q) _ rfl).below
   ·have hec:(e3 != 0)=true:=by rw[bne_iff_ne];exact he3
    have HE3:=Hq he3
    clear he3 HQ3
    go_wp2_with (first|(with_reducible refine lL H13.out.get0 Tryz.underlying36 ?_)|(with_reducible refine lS (stA {s with disk:=d3,log:=l2} {p with A:=A3,c:=c3}) H13.out.get1 ?_))
    refine bodyPost_ret (v:=.tuple #[.agg (stA {s with disk:=d3,log:=l2} {p with A:=A3,c:=c3}),e3]) (results_cell2 rfl _ _ rfl (load_whole (setRow_heap _ _ _ _ _ _ H13.out.get1) Tryz.underlying36 Kr Kr) rfl) rfl ?_
    exact HQ2.out HE2.out HE3.out _ {p with A:=A3,c:=c3} (HP13.out.other H13.out.get1 (by decide) (by decide) (by decide) _) (H13.out.row 1 (stA {s with disk:=d3,log:=l2} {p with A:=A3,c:=c3}) _ rfl).below
 ·have heb:(e2 != 0)=true:=by rw[bne_iff_ne];exact he2
  have HE2:=Hq he2
  clear he2 HQ2 HQ3
  go_wp2_with (first|(with_reducible refine lL H4.out.get0 Tryz.underlying36 ?_)|(with_reducible refine lS (stA {s with disk:=d2,log:=l2} {p with A:=A2,c:=c2}) H4.out.get1 ?_))
  refine bodyPost_ret (v:=.tuple #[.agg (stA {s with disk:=d2,log:=l2} {p with A:=A2,c:=c2}),e2]) (results_cell2 rfl _ _ rfl (load_whole (setRow_heap _ _ _ _ _ _ H4.out.get1) Tryz.underlying36 Kr Kr) rfl) rfl ?_
  exact HQ1.out HE2.out _ {p with A:=A2,c:=c2} (HP4.out.other H4.out.get1 (by decide) (by decide) (by decide) _) (H4.out.row 1 (stA {s with disk:=d2,log:=l2} {p with A:=A2,c:=c2}) _ rfl).below
theorem pfflush_any {N n B:Nat}(s:Tx.St)(p:SP)(fs:List Fr)(hW:Wf N n B s fs)(k:Nat)(hk:k<fs.length)(w:World)(h:PoolR w s p fs):
 Calls Tryz.prog 82 #[storeV s p,.int .i64 (k:Int)] w (StOut (flushF s fs k) w):=by
 by_cases hrc:fs[k].rc=0
 ·exact pfflush_0 s p fs k hk (by have:=hW.nf;omega) hrc w h
 ·exact pfflush_1 s p fs hW k hk hrc w h
def rdQ (d:Lg.Dk)(a:Nat):ByteArray×Int:=if d.down=true then(⟨#[]⟩,20)else(pgAt d a,0)
theorem creadpage_dn (d:Lg.Dk)(hdn:d.down=true)(A:Option Addr)(c:Nat)(a:Nat)(ha:a≤1000000)(w:World)(h:DiskR w d A c):
 Calls Tryz.prog 144 #[diskV d A c,.int .i64 (a:Int)] w fun e w'=>e= .returned (.tuple #["",.int .i64 20])∧Below w.heap.size w w':=by
 have HR:=Hq (fun W (hb:Below w.heap.size w W)=>show Calls Tryz.prog 186 #[diskV d A c,.int .i64 (a:Int)] W fun e w'=>e= .returned (.tuple #["",.int .i64 20])∧Below W.heap.size W w' from by
  have h9:=dread_any d A c (a:Int) W (h.below hb)
  have e:Lg.readD d (a:Int)=(⟨#[]⟩,20):=by unfold Lg.readD;rw[if_pos hdn]
  rw[e]at h9
  exact h9)
 obtain⟨L,left,down⟩:=d
 simp only at hdn
 subst hdn
 dsimp only[diskV]at HR ⊢
 clear h
 go_enter Tryz.func144,Tryz.ntmps144
 go_upto_region 1 with fail
 have HD0:=Hq (heap_alloc_new w (.cells #[.slice A L.length c,left,true] 28))
 have HB0:=Hq (allocB w (.cells #[.slice A L.length c,left,true] 28))
 obtain⟨W0,hW0⟩:=ex (w.alloc (.cells #[.slice A L.length c,left,true] 28))
 rw[← hW0]at HD0 HB0 ⊢
 clear hW0
 have hdn:=show W0.cell? ⟨w.heap.size,2,none⟩=some (.bool true)from by rw[blkCell HD0.out];rfl
 go_upto_region 4 with fail
 clear hdn
 have HD1:=Hq (blkOld HD0.out (allocB W0 (.cells #[.pointer none,"s"] 189)))
 have HB1:=Hq (joinB HB0.out (allocB W0 (.cells #[.pointer none,"s"] 189)))
 generalize W0.alloc (.cells #[.pointer none,"s"] 189)=W1 at HD1 HB1 ⊢
 clear HD0 HB0
 try simp only[Act.put]
 go_wp2_with fail
 go_loopw [19] (fun i wr=>i= .int .i64 0∧wr.heap[w.heap.size]? =some (.cells #[.slice A L.length c,left,true] 28 (0,0))∧Below w.heap.size w wr) (fun i _=>4-(intOf i).toNat)
 case atStart=>exact⟨rfl,HD1.out,HB1.out⟩
 case round=>
  obtain⟨rfl,hd2,hb2⟩:=hrel
  have HD2:=Hq hd2
  have HB2:=Hq hb2
  have HRD:=Hq (HR.out wr hb2)
  clear hd2 hb2 HR HD1 HB1
  have hwr:IntKind.i64.wrap ((a:Int)+0)=(a:Int):=IntWalk.i64_in _ (by omega)
  have hwz:IntKind.i64.wrap (a:Int)=(a:Int):=IntWalk.i64_in _ (by omega)
  have haz:(a:Int)+0=(a:Int):=by omega
  go_wp2_with (first
   |(with_reducible refine lL HD2.out Tryz.underlying28 ?_)
   |(go_at_call 186;(with_reducible refine HRD.out.mono ?_);rintro e w2 ⟨rfl,hb1⟩))
  go_ret2
  exact⟨rfl,joinB HB2.out hb1⟩
theorem pfreadpage_any {M:Nat}(d:Lg.Dk)(hd:DkW M d)(A:Option Addr)(c:Nat)(a:Nat)(ha:a+4≤M)(hM:M≤100000)(w:World)(h:DiskR w d A c):
 Calls Tryz.prog 144 #[diskV d A c,.int .i64 (a:Int)] w fun e w'=>e= .returned (.tuple #[.string (rdQ d a).1,.int .i64 (rdQ d a).2])∧Below w.heap.size w w':=by
 have hl:=hd.len
 unfold rdQ
 by_cases hz:d.down=true
 ·rw[if_pos hz]
  exact creadpage_dn d hz A c a (by omega) w h
 ·rw[if_neg hz]
  exact creadpage_any d (by simpa using hz) hd.sz A c a (by omega) w h
theorem pfread_any {N n B:Nat}(s:Tx.St)(p:SP)(fs:List Fr)(hW:Wf N n B s fs)(pg:Nat)(hp:pg<n)(w:World)(h:DiskR w s.disk p.A p.c):
 Calls Tryz.prog 102 #[storeV s p,.int .i64 (pg:Int)] w fun e w'=>e= .returned (.tuple #[.string (loadF s (pg:Int)).1,.int .i64 (loadF s (pg:Int)).2])∧Below w.heap.size w w':=by
 have hn1:=hW.n1
 have hse:secOf s (pg:Int)=1+N+4*pg:=by unfold secOf;rw[hW.zl];omega
 have HSE:=Hq (fun W=>psector_any s p N pg hW.zl hn1.2.2 (by omega) W)
 have HRP:=Hq (fun W (hb:Below w.heap.size w W)=>pfreadpage_any s.disk hW.dk p.A p.c (1+N+4*pg) (by omega) (by omega) W (h.below hb))
 have HSZ:(pgAt s.disk (1+N+4*pg)).size≤512:=by
  have h1:=Lg.flat_len (L:=(s.disk.sectors.drop (1+N+4*pg)).take 4) (fun x hx=>hW.dk.sz x (List.mem_of_mem_drop (List.mem_of_mem_take hx)))
  have h2:=List.length_take_le 4 (s.disk.sectors.drop (1+N+4*pg))
  show(Lg.flat _).toArray.size≤512
  rw[List.size_toArray]
  omega
 have HQ:(s.disk.down=true∧rdQ s.disk (1+N+4*pg)=(⟨#[]⟩,20)∧loadF s (pg:Int)=(⟨#[]⟩,20))∨(s.disk.down=false∧rdQ s.disk (1+N+4*pg)=(pgAt s.disk (1+N+4*pg),0)∧loadF s (pg:Int)=if pgAt s.disk (1+N+4*pg)=zeroP then(newB 0,0)else if sealedP (pgAt s.disk (1+N+4*pg))=true then(plB (pgAt s.disk (1+N+4*pg)),0)else(⟨#[]⟩,19)):=by
  unfold rdQ loadF
  rw[hse]
  cases hd:s.disk.down with
  |true=>exact .inl ⟨rfl,by rw[if_pos rfl],by rw[if_pos rfl]⟩
  |false=>exact .inr ⟨rfl,by rw[if_neg (by decide)],by rw[if_neg (by decide)]⟩
 generalize pgAt s.disk (1+N+4*pg)=b at HQ HSZ
 generalize rdQ s.disk (1+N+4*pg)=z at HRP HQ
 generalize loadF s (pg:Int)=q at HQ ⊢
 clear h hW hn1 hse
 generalize 1+N+4*pg=at_ at HSE HRP
 obtain⟨z1,z2⟩:=z
 simp only at HRP
 go_enter Tryz.func102,Tryz.ntmps102
 go_upto_region 1 with fail
 have H0:=nW1 w (stA s p) 36
 obtain⟨W0,hW0⟩:=exW H0
 rw[← hW0]at H0 ⊢
 clear hW0
 go_cut [6,7] (fun x y wc=>x= .string z1∧y= .int .i64 z2∧Below W0.heap.size W0 wc)
 case first=>
  have hSn:Below W0.heap.size W0 W0.drew:=(Below.refl _ W0).drew
  refine rgH (S:=(fun u=>Below W0.heap.size W0 u)) (fun hHeld=>?_)
  generalize W0.drew=w9 at hSn ⊢
  refine tkP 0 ?_
  refine tkV 1 (some 10) (v:=.agg #[.slice p.A s.disk.sectors.length p.c,s.disk.left,s.disk.down]) rfl (yieldsIf_load_mid (by rfl) 28 (.tmp 9) rfl w.heap.size 3 (by rfl) [.slice p.A s.disk.sectors.length p.c,.int .i64 s.disk.left,.bool s.disk.down] _ (fun u hu j v hj=>by rw[blkCell (blkOld H0.out.get0 hu)];rcases j with _|_|_|j<;>simp at hj ⊢<;>exact hj) Tryz.underlying28 Kr Kr) ?_
  try simp only[Act.put,pS]
  refine tkV 2 (some 11) (v:=.agg (stA s p)) rfl (yieldsIf_load_mid (by rfl) 36 (.tmp 2) rfl w.heap.size 0 (by rfl) (stA s p).toList _ (fun u hu=>(by intro j v hj;rw[Nat.zero_add,blkCell (blkOld H0.out.get0 hu)];simpa using hj)) Tryz.underlying36 Kr Kr) ?_
  try simp only[Act.put,pS]
  refine tkP 3 ?_
  refine rdP 4 fun K hK=>?_
  go_simp
  (refine(HSE.out _).mono ?_);rintro e w4 ⟨rfl,hb4⟩;have hSm:=joinB hSn hb4;clear hSn;have hSn:=hSm;clear hSm
  refine hKo hK (fun hHeld=>?_)
  clear hK K
  refine rdP 5 fun K hK=>?_
  go_simp
  (refine(HRP.out _ (H0.out.below.trans (hSn.mono H0.out.below.size))).mono ?_);rintro e w5 ⟨rfl,hb5⟩;have hSm:=joinB hSn hb5;clear hSn;have hSn:=hSm;clear hSm
  refine hKo hK (fun hHeld=>?_)
  clear hK K
  refine tkP 6 ?_;refine tkP 7 ?_;refine tkP 8 ?_;refine tkP 9 ?_;refine tkP 10 ?_
  refine wpAnyH_done Kr ?_ _
  clear hHeld
  go_wp2_with fail
  go_meet
  case rel=>exact⟨rfl,rfl,hSn⟩
 case rest=>
  obtain⟨rfl,rfl,hbc⟩:=hcut
  obtain⟨w1,rfl⟩:=ex wc
  have HB1:=Hq (H0.out.below.trans (hbc.mono H0.out.below.size))
  clear hbc H0 HSE HRP
  rcases HQ with⟨_,hz,hq⟩|⟨_,hz,hq⟩
  ·injection hz with hz1 hz2
   subst hz1 hz2
   subst hq
   clear HSZ
   go_wp2_with fail
   go_ret2
   exact⟨rfl,HB1.out⟩
  ·injection hz with hz1 hz2
   subst hz1 hz2
   have hmk:∀ W:World,(Instr.makeSlice 112 (.int .i64 512) (.int .i64 512)).run Tryz.prog W= .ok (.slice (some ⟨W.heap.size,0,none⟩) 512 512) (W.alloc (.cells (madeCells #[Value.int .u8 0] 512) 5)):=fun W=>pmake_zeros 512 (by omega) W
   have hcv:=pzeros_back 512
   rw[show(⟨(List.replicate 512 0).toArray⟩:ByteArray)=zeroP from rfl]at hcv
   have hb2:=allocB w1 (.cells (madeCells #[Value.int .u8 0] 512) 5)
   by_cases hb0:z1=zeroP
   ·rw[if_pos hb0]at hq
    subst hq
    have hqz:(z1.toList==zeroP.toList)=true:=by rw[hb0];exact beq_self_eq_true _
    have HNW:=Hq (fun W=>new_any 0 W)
    clear hb0
    go_wp2_with (go_at_call 145;(refine(HNW.out _).mono ?_);rintro e w2 ⟨rfl,hb3⟩)
    go_ret2
    exact⟨rfl,HB1.out.trans ((hb2.mono HB1.out.size).trans (hb3.mono (Nat.le_trans HB1.out.size hb2.size)))⟩
   ·rw[if_neg hb0]at hq
    have hqz:(z1.toList==zeroP.toList)=false:=by
     rw[beq_eq_false_iff_ne]
     intro h
     rw[ByteArray.toList_eq,ByteArray.toList_eq]at h
     exact hb0 (ByteArray.ext (Array.toList_inj.1 h))
    have HSD:=Hq (fun W=>sealed_any z1 (by omega) W)
    clear hb0
    cases hsd:sealedP z1 with
    |true=>
     rw[hsd,if_pos rfl]at hq
     rw[hsd]at HSD
     subst hq
     have HBA:=Hq (fun W=>pbare_any z1 (by omega) W)
     clear hsd HSZ
     go_wp2_with (first
      |(go_at_call 146;(refine(HSD.out _).mono ?_);rintro e w2 ⟨rfl,hb3⟩)
      |(go_at_call 137;(refine(HBA.out _).mono ?_);rintro e w3 ⟨rfl,hb4⟩))
     go_ret2
     exact⟨rfl,HB1.out.trans ((hb2.mono HB1.out.size).trans ((joinB hb3 hb4).mono (Nat.le_trans HB1.out.size hb2.size)))⟩
    |false=>
     rw[hsd,if_neg (by decide)]at hq
     rw[hsd]at HSD
     subst hq
     clear hsd HSZ
     go_wp2_with (go_at_call 146;(refine(HSD.out _).mono ?_);rintro e w2 ⟨rfl,hb3⟩)
     go_ret2
     exact⟨rfl,HB1.out.trans ((hb2.mono HB1.out.size).trans (hb3.mono (Nat.le_trans HB1.out.size hb2.size)))⟩
end Go.Proofs.YtmfkhdhnbkambaaGreatDoor
