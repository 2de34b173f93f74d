import Derived.Test.YtmfkhdhnbkambaaGreatDoorHp00
import Derived.Test.YtmfkhdhnbkambaaGreatDoorHp08
import Derived.Deep.RegionWith
set_option maxRecDepth 100000
set_option maxHeartbeats 16000000
set_option linter.unusedSimpArgs false
namespace Lg
theorem writeD_left {d:Dk}{a:Int}{b:ByteArray}(h: -9223372036854775808≤d.left∧d.left≤9223372036854775807): -9223372036854775808≤(writeD d a b).1.left∧(writeD d a b).1.left≤9223372036854775807:=by
 unfold writeD
 split
 ·exact h
 split
 ·exact h
 split
 ·exact h
 ·show _≤(if 0<d.left then d.left-1 else d.left)∧(if 0<d.left then d.left-1 else d.left)≤_
  split<;>omega
theorem writeD_len {d:Dk}{a:Int}{b:ByteArray}:(writeD d a b).1.sectors.length=d.sectors.length:=by
 unfold writeD
 split
 ·rfl
 split
 ·rfl
 split
 ·rfl
 ·simp
theorem putAll_go {base:Int}{all:List ByteArray}{k:Nat}{d d2:Dk}(hw:writeD d (base+(k:Int)) (all[k]?.getD ⟨#[]⟩)=(d2,0)):putAll base all (k+1) d=putAll base all k d2:=by
 conv=>lhs;unfold putAll
 rw[hw,if_pos rfl]
theorem putAll_stop {base:Int}{all:List ByteArray}{k:Nat}{d d2:Dk}{e:Int}(he:e≠0)(hw:writeD d (base+(k:Int)) (all[k]?.getD ⟨#[]⟩)=(d2,e)):putAll base all (k+1) d=(d2,e):=by
 unfold putAll
 rw[hw,if_neg he]
theorem force_same {d:Dk}{l:Lo}(h:l.safe=l.end_):forceD d l=(d,l,0):=by unfold forceD;rw[if_pos h]
theorem force_stop {d d2:Dk}{l:Lo}{e:Int}(h:¬ l.safe=l.end_)(he:e≠0)(hp:putAll (l.from_+firstS l) (allS l) (allS l).length d=(d2,e)):forceD d l=(d2,l,e):=by
 unfold forceD
 rw[if_neg h]
 simp only[hp]
 rw[if_neg he]
theorem force_all {d d2:Dk}{l:Lo}(h:¬ l.safe=l.end_)(hp:putAll (l.from_+firstS l) (allS l) (allS l).length d=(d2,0)):forceD d l=(d2,forcedL l,0):=by
 unfold forceD
 rw[if_neg h]
 simp only[hp]
 rw[if_pos trivial]
theorem allS_len (l:Lo):(allS l).length≤l.tail.size/128+2:=by
 unfold allS
 have:=cutB_length l.tail
 split
 ·rw[List.length_append,List.length_singleton];omega
 ·omega
end Lg
namespace Go.Proofs.YtmfkhdhnbkambaaGreatDoor
open Go.RowKit
def ForceOut (x:Lg.Dk×Lg.Lo×Int)(A:Option Addr)(w:World)(e:Ending)(w':World):Prop:=
 ∃ A' c',e= .returned (.tuple #[diskV x.1 A' c',logV x.2.1,x.2.2])∧DiskR w' x.1 A' c'∧(A'=A∨NewT w.heap.size w' 9 A')∧Below w.heap.size w w'
theorem force_none (L:List ByteArray)(left:Int)(down:Bool)(A:Option Addr)(c:Nat)(fr n en:Int)(tl:ByteArray)(o:Lg.Dk×Lg.Lo×Int)(ho:o=(⟨L,left,down⟩,⟨fr,n,en,en,tl⟩,0))(w:World)(h:DiskR w ⟨L,left,down⟩ A c):
 Calls Tryz.prog 129 #[.agg #[.slice A L.length c,left,down],.agg #[fr,n,en,en,tl]] w (ForceOut o A w):=by
 have HO:=Hq (fun w' (hb:Below w.heap.size w w')=>show ForceOut o A w (.returned (.tuple #[.agg #[.slice A L.length c,left,down],.agg #[fr,n,en,en,tl],()])) w' from by
  subst ho;exact⟨A,c,rfl,⟨h.secs.below hb,h.small⟩,.inl rfl,hb⟩)
 have hself:(en==en)=true:=by simp
 clear ho h
 go_enter Tryz.func129,Tryz.ntmps129
 go_upto_region 1 with fail
 have H0:=nW4 w #[.slice A L.length c,left,down] 28 #[fr,n,en,en,tl] 30 #["s",(),false] 28 #[(),(),(),(),""] 30
 have hs0:((((w.alloc (.cells #[.slice A L.length c,left,down] 28)).alloc (.cells #[fr,n,en,en,tl] 30)).alloc (.cells #["s",(),false] 28)).alloc (.cells #[(),(),(),(),""] 30)).heap.size=w.heap.size+4:=by simp
 obtain⟨W0,hW0⟩:=exW H0
 rw[← hW0]at H0 hs0 ⊢
 clear hW0
 have hc1:=blkCell H0.out.get1
 go_upto_region 2 with fail
 clear hc1 hself
 have HD:=Hq H0.out.drew
 refine rgH (S:=(fun u=>u.heap[w.heap.size]? =some (.cells #[.slice A L.length c,left,down] 28 (0,0))∧u.heap[w.heap.size+1]? =some (.cells #[fr,n,en,en,tl] 30 (0,0)))) (fun hHeld=>?_) ⟨(HD.out.get0),(HD.out.get1)⟩
 refine tkP 0 ?_;refine tkP 1 ?_
 refine rdP 2 fun K hK=>?_
 refine wantedIf (by rfl) ?_
 refine sW #[.slice A L.length c,left,down] HD.out.get2 ?_
 have HE:=Hq (HD.out.row 2 #[.slice A L.length c,left,down] _ rfl)
 have hSn:=And.intro (HE.out.get0) (HE.out.get1)
 refine hKo hK (fun hHeld=>?_)
 clear hK K
 try simp only[Act.put]
 refine rdP 3 fun K hK=>?_
 refine wantedIf (by rfl) ?_
 refine sW #[fr,n,en,en,tl] HE.out.g3 ?_
 have HG:=Hq (HE.out.row 3 #[fr,n,en,en,tl] _ rfl)
 clear hSn
 have hSn:=And.intro (HG.out.get0) (HG.out.get1)
 refine hKo hK (fun hHeld=>?_)
 clear hK K
 try simp only[Act.put]
 refine tkP 4 ?_
 refine wpAnyH_done Kr ?_ _
 clear hHeld hSn
 go_wp2_with fail
 refine bodyPost_ret (v:=.tuple #[.agg #[.slice A L.length c,left,down],.agg #[fr,n,en,en,tl],()]) (results_cells rfl _ _ rfl rfl (load_whole HG.out.get2 Tryz.underlying28 Kr Kr) (load_whole HG.out.g3 Tryz.underlying30 Kr Kr) rfl) rfl ?_
 exact HO.out _ HG.out.below
theorem force_go (d:Lg.Dk)(hlb: -9223372036854775808≤d.left∧d.left≤9223372036854775807)(A:Option Addr)(c:Nat)(fr n en sf:Int)(tl:ByteArray)(hse:¬ sf=en)(he0:0≤en)(he1:en≤1000000000)(_hn0: -1000000000≤n)(_hn1:n≤1000000000)(hf0: -1000000000≤fr)(hf1:fr≤1000000000)(ht:tl.size≤1000000)(hte:(tl.size:Int)≤en)(hmod:en%128≤(tl.size:Int))(w:World)(h:DiskR w d A c):
 Calls Tryz.prog 129 #[.agg #[.slice A d.sectors.length c,d.left,d.down],.agg #[fr,n,en,sf,tl]] w (ForceOut (Lg.forceD d ⟨fr,n,en,sf,tl⟩) A w):=by
 have HST:=Hq (fun d2 e (he:e≠0) hp=> @Lg.force_stop d d2 ⟨fr,n,en,sf,tl⟩ e hse he hp)
 have HAL:=Hq (fun d2 hp=> @Lg.force_all d d2 ⟨fr,n,en,sf,tl⟩ hse hp)
 have HO:=Hq (fun A' c' w' x (hx:Lg.forceD d ⟨fr,n,en,sf,tl⟩=x) (h1:DiskR w' x.1 A' c') (h2:A'=A∨NewT w.heap.size w' 9 A') (h3:Below w.heap.size w w')=>show ForceOut (Lg.forceD d ⟨fr,n,en,sf,tl⟩) A w (.returned (.tuple #[diskV x.1 A' c',logV x.2.1,x.2.2])) w' from⟨A',c',by rw[hx],by rw[hx];exact h1,h2,h3⟩)
 have hal:=Lg.allS_len ⟨fr,n,en,sf,tl⟩
 have hcb:=Lg.cutB_length tl
 have HCUT:=Hq (fun W=>cut_any tl ht W)
 obtain⟨C,hC⟩:=ex (Lg.cutB tl)
 obtain⟨all,hall⟩:=ex (Lg.allS ⟨fr,n,en,sf,tl⟩)
 have HDEF:=Hq (show all=if(en-(tl.size:Int))/128+(C.length:Int)<n then C++[Lg.zero128]else C from by rw[hall,hC];rfl)
 rw[← hall]at HST HAL hal
 rw[← hC]at HCUT hcb
 have hbase:Lg.firstS ⟨fr,n,en,sf,tl⟩=(en-(tl.size:Int))/128:=rfl
 rw[hbase]at HST HAL
 generalize Lg.forceD d ⟨fr,n,en,sf,tl⟩=o at HST HAL HO ⊢
 generalize ForceOut o A w=Q at HO ⊢
 have HREP:Hid (∀ W,Calls Tryz.prog 177 #[.string ⟨#[0]⟩,.int .i64 128] W fun e w'=>e= .returned (.string Lg.zero128)∧Below W.heap.size W w'):=Hq (fun W=>by
  have h1:=Tryz.strings_Repeat ⟨#[0]⟩ 128 W (by omega) (by show 1*128≤_;omega)
  have e:(⟨(Lib.repeatL (⟨#[0]⟩:ByteArray).data.toList 128).toArray⟩:ByteArray)=Lg.zero128:=Lg.repeat_zero 128
  rw[e]at h1
  exact h1)
 have hzs:=Lg.zero128_size
 have hcs:∀ b∈all,b.size=128:=by
  rw[HDEF.out,hC]
  intro b hb
  split at hb
  ·rcases List.mem_append.1 hb with h1|h1
   ·exact Lg.cutB_size tl b h1
   ·rw[List.mem_singleton.1 h1];exact hzs
  ·exact Lg.cutB_size tl b hb
 have HSZ:=Hq hcs
 generalize Lg.zero128=z at HREP HDEF hzs
 have HR:=Hq h
 have hne1:(sf==en)=false:=by simpa using hse
 have hcl:C.length≤10000:=by omega
 have hall2:all.length≤10000:=by simp only at hal;omega
 have HLB:=Hq hlb
 obtain⟨F,hF⟩:=ex ((en-(tl.size:Int))/128:Int)
 have hF0:0≤F:=by omega
 have hF1:F≤10000000:=by omega
 have hq0:0≤en-(tl.size:Int):=by omega
 have hwq:IntKind.i64.wrap (en-(tl.size:Int))=en-(tl.size:Int):=IntWalk.i64_in _ (by omega)
 have HFE:=Hq hF
 rw[← hF]at HST HAL HDEF
 clear h hse hC hall hal hcb hbase hcs hzs hlb
 go_enter Tryz.func129,Tryz.ntmps129
 go_upto_region 1 with fail
 have H0:=nW4 w #[.slice A d.sectors.length c,d.left,d.down] 28 #[fr,n,en,sf,tl] 30 #["s",(),false] 28 #[(),(),(),(),""] 30
 have hs0:((((w.alloc (.cells #[.slice A d.sectors.length c,d.left,d.down] 28)).alloc (.cells #[fr,n,en,sf,tl] 30)).alloc (.cells #["s",(),false] 28)).alloc (.cells #[(),(),(),(),""] 30)).heap.size=w.heap.size+4:=by simp
 obtain⟨W0,hW0⟩:=exW H0
 rw[← hW0]at H0 hs0 ⊢
 clear hW0
 have hc1:=blkCell H0.out.get1
 go_upto_region 4 with fail
 rw[← HFE.out]
 clear hF hq0 hwq hne1
 go_upto_region 5 with(go_at_call 178;(with_reducible refine(HCUT.out _).mono ?_);rintro e w1 ⟨v8,rfl,ho8,hb1⟩;obtain⟨A8,c8,rfl⟩:=ownLen ho8;have hc1:=blkCell ((H0.out.step hb1).get 1 _ rfl))
 have H1:=Hq (H0.out.step hb1)
 have HO8:=Hq (ownMono ho8 (show w.heap.size+4≤W0.heap.size by omega))
 have hs1:w.heap.size+4≤w1.heap.size:=by have:=hb1.size;omega
 clear ho8 hb1 HCUT H0 hs0
 have hwf:IntKind.i64.wrap (F+(C.length:Int))=F+(C.length:Int):=IntWalk.i64_in _ (by omega)
 go_upto_if 35 with fail
 go_cut [8] (fun s8 wc=>∃ A8 c8,s8= .slice A8 all.length c8∧OwnL strC 1 9 (w.heap.size+4) wc (.slice A8 all.length c8) all∧BxL w.heap.size w [(#[.slice A d.sectors.length c,d.left,d.down],28),(#[fr,n,en,sf,tl],30),(#["s",(),false],28),(#[(),(),(),(),""],30)] wc)
 case first=>
  by_cases hfit:F+(C.length:Int)<n
  ·have hAL:all=C++[z]:=by rw[HDEF.out,if_pos hfit]
   have HALL:=Hq hAL
   clear hAL
   go_wp2_with (first
    |(go_at_call 177;(with_reducible refine(HREP.out _).mono ?_);rintro e w2 ⟨rfl,hb2⟩;have H2:=Hq (H1.out.step hb2);have HO2:=Hq (ownBelow HO8.out hb2);have HB2:=Hq hb2;clear hb2)
    |(at_builtin;refine wpList_push Kr (.tmp 36) (.tmp 38) 26 9 Tryz.underlying26 info_string rfl (by omega) (by omega) rfl (w.heap.size+4) _ C.length (C.flatMap strC) rfl (ownBelow HO2.out (allocB _ _)) w2.heap.size (strC z) 9 rfl (heap_alloc_new w2 _) rfl (by simp[strC,Value.oneCell']) (by omega) (by have:=HB2.out.size;simp;omega) ?_;intro v7 w7 ho hg hb;obtain⟨A7,c7,rfl⟩:=ownLen ho;have H7:=Hq ((H2.out.step (allocB w2 (.cells #[z] 9))).under (M:=w.heap.size+4) (Nat.le_refl _) hb);have HO7:=Hq (OwnL.push (enc:=strC) (x:=z) ho);have HG7:=Hq hg;clear ho hg hb))
   go_meet
   case rel=>
    refine⟨A7,c7,?_,?_,H7.out⟩
    ·rw[HALL.out,List.length_append];rfl
    ·have h7:=HO7.out
     have e7:(C++[z]).length=C.length+1:=by simp
     rw[HALL.out,e7]
     exact h7
  ·have hAL:all=C:=by rw[HDEF.out,if_neg hfit]
   have HALL:=Hq hAL
   clear hAL
   go_wp2_with fail
   go_meet
   case rel=>
    refine⟨A8,c8,?_,?_,H1.out⟩
    ·rw[HALL.out]
    ·rw[HALL.out];exact HO8.out
 case rest=>
  obtain⟨A8,c8,rfl,ho8,hbx⟩:=hcut
  obtain⟨wa,rfl⟩:=ex wc
  have HOA:=Hq ho8
  have HBA:=Hq hbx
  clear ho8 hbx HO8 H1 HDEF HREP hs1 hwf hcl
  have hwl:IntKind.i64.wrap ((all.length:Int)-1)=(all.length:Int)-1:=IntWalk.i64_in _ (by omega)
  go_wp2_with fail
  go_loopw [9] (fun i wr=>∃ (x:Int) (d2:Lg.Dk) (A2:Option Addr) (c2:Nat),i= .int .i64 x∧-1≤x∧x<all.length∧Lg.putAll (fr+F) all all.length d=Lg.putAll (fr+F) all (x+1).toNat d2∧BxL w.heap.size w [(#[.slice A2 d2.sectors.length c2,d2.left,d2.down],28),(#[fr,n,en,sf,tl],30),(#["s",(),false],28),(#[(),(),(),(),""],30)] wr∧DiskR wr d2 A2 c2∧(A2=A∨NewT (w.heap.size+4) wr 9 A2)∧(-9223372036854775808≤d2.left∧d2.left≤9223372036854775807)∧d2.sectors.length=d.sectors.length∧OwnL strC 1 9 (w.heap.size+4) wr (.slice A8 all.length c8) all) (fun i _=>(intOf i+1).toNat)
  case atStart=>exact⟨(all.length:Int)-1,d,A,c,rfl,by omega,by omega,by rw[show((all.length:Int)-1+1).toNat=all.length by omega],HBA.out,⟨HR.out.secs.below HBA.out.below,HR.out.small⟩,.inl rfl,HLB.out,rfl,HOA.out⟩
  case round=>
   obtain⟨x,d2,A2,c2,rfl,hx1,hx2,hput,hbx,hdr,haw,hlb2,hle2,hown⟩:=hrel
   have HPUT:=Hq hput
   have HBX:=Hq hbx
   have HDR:=Hq hdr
   have HAW:=Hq haw
   have HOW:=Hq hown
   have HLE:=Hq hle2
   have HLB2:=Hq hlb2
   have HFAR:=Hq (show 0<d2.sectors.length→∀ ad,A2=some ad→ad.block<w.heap.size∨w.heap.size+4≤ad.block from fun h0 ad e=>by
    rcases HAW.out with h1|h1
    ·rw[h1]at e
     exact .inl (HR.out.secs.old (by rw[← HLE.out];exact h0) ad e)
    ·exact .inr (h1 ad e).1)
   clear hput hbx hdr haw hown hle2 hlb2 HBA HOA
   by_cases h0:x= -1
   ·subst h0
    have HFIN:=Hq (HAL.out d2 (HPUT.out.trans rfl))
    clear hx1 hx2 hwl
    obtain⟨m,hm⟩:=Int.eq_ofNat_of_zero_le (show 0≤en%128 by omega)
    have hm2:(m:Int)≤(tl.size:Int):=by omega
    have hwm:IntKind.i64.wrap ((tl.size:Int)-(m:Int))=(tl.size:Int)-(m:Int):=IntWalk.i64_in _ (by omega)
    have hm3:(0:Int)≤(tl.size:Int)-(m:Int):=by omega
    have hm4:(tl.size:Int)-(m:Int)≤(tl.size:Int):=by omega
    have hm5:((tl.size:Int)-(m:Int)).toNat=tl.size-m:=by omega
    have HTL:=Hq (show Lg.forcedL ⟨fr,n,en,sf,tl⟩=⟨fr,n,en,en,tl.extract (tl.size-m) tl.size⟩from by
     unfold Lg.forcedL
     simp only[hm,Int.toNat_natCast])
    have hc1:=blkCell HBX.out.get1
    have hz1:=blkFrozen HBX.out.get1
    go_upto_region 15 with fail
    have HB2:=Hq (show BxL w.heap.size w [(#[.slice A2 d2.sectors.length c2,d2.left,d2.down],28),(#[fr,n,en,en,tl],30),(#["s",(),false],28),(#[(),(),(),(),""],30)] (wr.setCell ⟨w.heap.size+1,3,none⟩ (.int .i64 en))from by have h:=HBX.out.set 1 3 (.int .i64 en) _ rfl;simpa using h)
    have HAP2:=Hq ((Apart.refl w.heap.size (w.heap.size+4) wr).cell (w.heap.size+1) 3 (.int .i64 en) (by omega) (by omega))
    obtain⟨W2,hW2⟩:=ex (wr.setCell ⟨w.heap.size+1,3,none⟩ (.int .i64 en))
    rw[← hW2]at HB2 HAP2 ⊢
    clear hW2 hc1 hz1
    have hc1:=blkCell HB2.out.get1
    have hz1:=blkFrozen HB2.out.get1
    go_upto_region 16 with fail
    have HB3:=Hq (show BxL w.heap.size w [(#[.slice A2 d2.sectors.length c2,d2.left,d2.down],28),(#[fr,n,en,en,.string (tl.extract (tl.size-m) tl.size)],30),(#["s",(),false],28),(#[(),(),(),(),""],30)] (W2.setCell ⟨w.heap.size+1,4,none⟩ (.string (tl.extract (tl.size-m) tl.size)))from by have h:=HB2.out.set 1 4 (.string (tl.extract (tl.size-m) tl.size)) _ rfl;simpa using h)
    have HAP3:=Hq (HAP2.out.cell (w.heap.size+1) 4 (.string (tl.extract (tl.size-m) tl.size)) (by omega) (by omega))
    obtain⟨W3,hW3⟩:=ex (W2.setCell ⟨w.heap.size+1,4,none⟩ (.string (tl.extract (tl.size-m) tl.size)))
    rw[← hW3]at HB3 HAP3 ⊢
    clear hW3 hc1 hz1 hm2 hwm hm3 hm4 hm5 hm HB2 HAP2
    obtain⟨tl2,htl2⟩:=ex (tl.extract (tl.size-m) tl.size)
    rw[← htl2]at HB3 HTL
    clear htl2 hmod
    have HD:=Hq HB3.out.drew
    refine rgH (S:=(fun u=>u.heap[w.heap.size]? =some (.cells #[.slice A2 d2.sectors.length c2,d2.left,d2.down] 28 (0,0))∧u.heap[w.heap.size+1]? =some (.cells #[fr,n,en,en,tl2] 30 (0,0)))) (fun hHeld=>?_) ⟨(HD.out.get0),(HD.out.get1)⟩
    refine tkP 0 ?_;refine tkP 1 ?_
    refine rdP 2 fun K hK=>?_
    refine wantedIf (by rfl) ?_
    refine sW #[.slice A2 d2.sectors.length c2,d2.left,d2.down] HD.out.get2 ?_
    have HE:=Hq (HD.out.row 2 #[.slice A2 d2.sectors.length c2,d2.left,d2.down] _ rfl)
    have hSn:=And.intro (HE.out.get0) (HE.out.get1)
    refine hKo hK (fun hHeld=>?_)
    clear hK K
    try simp only[Act.put]
    refine rdP 3 fun K hK=>?_
    refine wantedIf (by rfl) ?_
    refine sW #[fr,n,en,en,tl2] HE.out.g3 ?_
    have HG:=Hq (HE.out.row 3 #[fr,n,en,en,tl2] _ rfl)
    clear hSn
    have hSn:=And.intro (HG.out.get0) (HG.out.get1)
    refine hKo hK (fun hHeld=>?_)
    clear hK K
    try simp only[Act.put]
    refine tkP 4 ?_
    refine wpAnyH_done Kr ?_ _
    clear hHeld hSn
    go_wp2_with fail
    refine bodyPost_ret (v:=.tuple #[.agg #[.slice A2 d2.sectors.length c2,d2.left,d2.down],.agg #[fr,n,en,en,tl2],()]) (results_cells rfl _ _ rfl rfl (load_whole HG.out.get2 Tryz.underlying28 Kr Kr) (load_whole HG.out.g3 Tryz.underlying30 Kr Kr) rfl) rfl ?_
    exact HO.out A2 c2 _ (d2,⟨fr,n,en,en,tl2⟩,0) (HFIN.out.trans (by rw[HTL.out])) ⟨HDR.out.secs.apart (((HAP3.out.drew).row _ _ (by omega) (by omega)).row _ _ (by omega) (by omega)) HFAR.out,HDR.out.small⟩ (HAW.out.imp id (fun h=>(h.apart (lo:=w.heap.size) (hi:=w.heap.size+4) (((HAP3.out.drew).row _ _ (by omega) (by omega)).row _ _ (by omega) (by omega)) (Nat.le_refl _)).mono (by omega))) HG.out.below
   ·obtain⟨k,rfl⟩:=Int.eq_ofNat_of_zero_le (show 0≤x by omega)
    have hkl:k<all.length:=by omega
    have hkI:(k:Int)<(all.length:Int):=by omega
    have hk0:(0:Int)≤(k:Int):=by omega
    obtain⟨g8,cap,hv,hg8,hgl,hcap,hcell,-,-⟩:=ownAt HOW.out hkl
    injection hv with hv1 hv2 hv3
    subst hv1 hv3
    rw[strC_map,List.getElem?_map,List.getElem?_eq_getElem hkl]at hcell
    simp only[Option.map_some]at hcell
    have hys:=HSZ.out all[k] (List.getElem_mem hkl)
    have HY:=Hq (show all[k]?.getD ⟨#[]⟩=all[k] by rw[List.getElem?_eq_getElem hkl];rfl)
    generalize all[k]=y at hcell hys HY
    have HCELL:=Hq hcell
    rw[show((k:Int)+1).toNat=k+1 by omega]at HPUT
    have HWR:=Hq (fun W hW=>dwrite_any d2 HLB2.out A2 c2 (fr+F+(k:Int)) y W hW)
    have hwl2:= @Lg.writeD_left d2 (fr+F+(k:Int)) y HLB2.out
    have hwn:= @Lg.writeD_len d2 (fr+F+(k:Int)) y
    rcases hx:Lg.writeD d2 (fr+F+(k:Int)) y with⟨d3,e3⟩
    have HGO:=Hq (fun(he:e3=0)=>Lg.putAll_go (base:=fr+F) (all:=all) (k:=k) (d:=d2) (d2:=d3) (by rw[HY.out,hx,he]))
    have HSTP:=Hq (fun(he:e3≠0)=>Lg.putAll_stop (base:=fr+F) (all:=all) (k:=k) (d:=d2) (d2:=d3) he (by rw[HY.out,hx]))
    rw[hx]at HWR hwl2 hwn
    simp only at hwl2 hwn
    have HWN:=Hq (hwn.trans HLE.out)
    have HWL:=Hq hwl2
    clear hx hwl2 hwn hcell hys h0 hwl
    have hs1:IntKind.i64.wrap (fr+F)=fr+F:=IntWalk.i64_in _ (by omega)
    have hs2:IntKind.i64.wrap (fr+F+(k:Int))=fr+F+(k:Int):=IntWalk.i64_in _ (by omega)
    go_upto_region 10 with fail
    go_cut [10,11] (fun p q wc=>∃ (g:Nat) (A3:Option Addr) (c3:Nat),p= .pointer (some ⟨g,0,none⟩)∧q= .int .i64 e3∧BxL w.heap.size w [(#[.slice A2 d2.sectors.length c2,d2.left,d2.down],28),(#[fr,n,en,sf,tl],30),(#["s",(),false],28),(#[(),(),(),(),""],30)] wc∧w.heap.size+4≤g∧wc.heap[g]? =some (.cells #[.slice A3 d3.sectors.length c3,d3.left,d3.down] 28 (0,0))∧DiskR wc d3 A3 c3∧(A3=A∨NewT (w.heap.size+4) wc 9 A3)∧OwnL strC 1 9 (w.heap.size+4) wc (.slice (some ⟨g8,0,none⟩) all.length c8) all)
    case first=>
     have HBd:=Hq HBX.out.drew
     have HOd:=Hq (ownBelow HOW.out (Below.refl _ wr).drew)
     have HRd:=Hq (HDR.out.below (Below.refl _ wr).drew)
     have hsz:=HBX.out.lt (i:=3) (by simp)
     have hsd:wr.heap.size≤wr.drew.heap.size:=Nat.le_refl _
     refine rgH (S:=(fun u=>u.heap[w.heap.size]? =some (.cells #[.slice A2 d2.sectors.length c2,d2.left,d2.down] 28 (0,0))∧u.heap[w.heap.size+1]? =some (.cells #[fr,n,en,sf,tl] 30 (0,0))∧u.cell? ⟨g8,k,none⟩=some (.string y))) (fun hHeld=>?_) (by first|exact hSn|exact⟨HBd.out.get0,HBd.out.get1,HCELL.out⟩)
     refine tkW 0 (some 48) (v:=?_) rfl ?_ (tkW 1 (some 49) (v:=?_) rfl ?_ (tkW 2 (some 50) (v:=?_) rfl ?_ (tkW 3 (some 51) (v:=?_) rfl ?_ (tkW 4 (some 52) (v:=?_) rfl ?_ (tkW 5 (some 53) (v:=?_) rfl ?_ (tkW 6 (some 54) (v:=?_) rfl ?_ (tkW 7 (some 55) (v:=?_) rfl ?_ (tkW 8 (some 56) (v:=?_) rfl ?_ (tkW 9 (some 57) (v:=?_) rfl ?_ (tkW 10 (some 58) (v:=?_) rfl ?_ ?_))))))))))
     iterate 11 (rotate_left;focus(intro u hSu;obtain⟨hSa,hSb,hSc⟩:=hSu;have hSa:=blkCell hSa;have hSb:=blkCell hSb;go_simp;(try with_reducible rfl)))
     try simp only[Act.put,pS]
     refine wpAnyH_ready (rs:=[11,15]) Kr (by simp) ?_
     refine(AllReadyH.cons (o:={dst:=some 59,op:=_,type:=_,pos:=_,after:=_,guard:=_}) rfl (fun K hK=>?_) (AllReadyH.cons (o:={dst:=some 10,op:=_,type:=_,pos:=_,after:=_,guard:=_}) rfl (fun K hK=>?_) AllReadyH.nil))
     ·
      go_simp
      refine(HWR.out _ HRd.out).mono ?_;rintro e w5 ⟨A3,c3,rfl,hd3,ha3,hb5⟩;have HB5:=Hq (HBd.out.step hb5);have HO5:=Hq (ownBelow HOd.out hb5);have hCb:=(hb5.cell (p:=⟨g8,k,none⟩) (by first|exact hgl|(simp;omega))).trans HCELL.out;have hSn:=And.intro HB5.out.get0 (And.intro HB5.out.get1 hCb)
      refine hKo hK (fun hHeld=>?_) (by first|exact hSn|exact⟨HBd.out.get0,HBd.out.get1,HCELL.out⟩)
      clear hK K
      refine tkW 12 (some 47) (v:=?_) rfl ?_ (tkW 13 (some 60) (v:=?_) rfl ?_ (tkW 14 (some 61) (v:=?_) rfl ?_ ?_))
      iterate 3 (rotate_left;focus(intro u hSu;obtain⟨hSa,hSb,hSc⟩:=hSu;have hSa:=blkCell hSa;have hSb:=blkCell hSb;go_simp;(try with_reducible rfl)))
      try simp only[Act.put,pS]
      refine rdP 15 fun K hK=>?_
      go_simp
      have HB6:=Hq (HB5.out.step (allocB w5 (.cells #["s",(),false] 28)));have HO6:=Hq (ownBelow HO5.out (allocB w5 (.cells #["s",(),false] 28)));have hd6:=hd3.below (allocB w5 (.cells #["s",(),false] 28));have hCc:=((allocB w5 (.cells #["s",(),false] 28)).cell (p:=⟨g8,k,none⟩) (Nat.lt_of_lt_of_le hgl hb5.size)).trans hCb;have HG5:=heap_alloc_new w5 (.cells #["s",(),false] 28);clear hSn;have hSn:=And.intro HB6.out.get0 (And.intro HB6.out.get1 hCc)
      refine hKo hK (fun hHeld=>?_) (by first|exact hSn|exact⟨HBd.out.get0,HBd.out.get1,HCELL.out⟩)
      clear hK K
      refine rdP 16 fun K hK=>?_
      refine wantedIf (by rfl) ?_
      refine sW #[.slice A3 d3.sectors.length c3,d3.left,d3.down] HG5 ?_
      have hg4:w.heap.size+4≤w5.heap.size:=(by have:=hb5.size;omega)
      have HAP:=Hq ((Apart.refl w5.heap.size (w5.heap.size+1) (w5.alloc (.cells #["s",(),false] 28))).row w5.heap.size #[.slice A3 d3.sectors.length c3,d3.left,d3.down] (Nat.le_refl _) (Nat.lt_succ_self _))
      have HB7:=Hq (HB6.out.under (M:=w5.heap.size) (by show w.heap.size+4≤_;exact hg4) (show Below w5.heap.size (w5.alloc (.cells #["s",(),false] 28)) ((w5.alloc (.cells #["s",(),false] 28)).setRow w5.heap.size #[.slice A3 d3.sectors.length c3,d3.left,d3.down])from⟨rfl,rfl,rfl,HAP.out.size,fun j hj=>heap_setRow_other (w5.alloc (.cells #["s",(),false] 28)) w5.heap.size #[.slice A3 d3.sectors.length c3,d3.left,d3.down] j (by omega)⟩))
      have hd7:DiskR ((w5.alloc (.cells #["s",(),false] 28)).setRow w5.heap.size #[.slice A3 d3.sectors.length c3,d3.left,d3.down]) d3 A3 c3:=⟨hd6.secs.apart HAP.out (fun h0 ad e=>.inl (hd3.secs.old h0 ad e)),hd6.small⟩
      have HG7:((w5.alloc (.cells #["s",(),false] 28)).setRow w5.heap.size #[.slice A3 d3.sectors.length c3,d3.left,d3.down]).heap[w5.heap.size]? =some (.cells #[.slice A3 d3.sectors.length c3,d3.left,d3.down] 28 (0,0)):=setRow_heap _ _ _ _ _ _ HG5
      have HO7:=ownOther HO6.out HG5 (by decide) #[.slice A3 d3.sectors.length c3,d3.left,d3.down]
      have hC7:=(cellOther (cs:=#[.slice A3 d3.sectors.length c3,d3.left,d3.down]) hCc HG5 (ownCell HO6.out HG5 (by decide)))
      clear hSn
      have hSn:=And.intro HB7.out.get0 (And.intro HB7.out.get1 hC7)
      refine hKo hK (fun hHeld=>?_) (by first|exact hSn|exact⟨HBd.out.get0,HBd.out.get1,HCELL.out⟩)
      clear hK K
      try simp only[Act.put]
      refine tkP 17 ?_ (hy:=by intro u hSu;obtain⟨hSa,hSb,hSc⟩:=hSu;have hSa:=blkCell hSa;have hSb:=blkCell hSb;go_simp;(try with_reducible rfl))
      refine wpAnyH_done Kr ?_ _
      clear hHeld hSn
      go_wp2_with fail
      go_meet
      case rel=>exact⟨_,A3,c3,rfl,rfl,HB7.out,hg4,HG7,hd7,(ha3.elim (fun h1=>by rw[h1];exact HAW.out.imp id (fun h2=>(((h2.below (Below.refl _ wr).drew).below hb5).below (allocB w5 (.cells #["s",(),false] 28))).row _ _)) (fun h1=>.inr (((h1.below (allocB w5 (.cells #["s",(),false] 28))).row _ _).mono (by first|(simp;omega)|omega)))),HO7⟩
     ·
      go_simp
      have HBa:=Hq (HBd.out.step (allocB wr.drew (.cells #["s",(),false] 28)));have HOa:=Hq (ownBelow HOd.out (allocB wr.drew (.cells #["s",(),false] 28)));have HRa:=Hq (HRd.out.below (allocB wr.drew (.cells #["s",(),false] 28)));have HCa:=Hq (((allocB wr.drew (.cells #["s",(),false] 28)).cell (p:=⟨g8,k,none⟩) hgl).trans HCELL.out);have hSn:=And.intro HBa.out.get0 (And.intro HBa.out.get1 HCa.out)
      refine hKo hK (fun hHeld=>?_) (by first|exact hSn|exact⟨HBd.out.get0,HBd.out.get1,HCELL.out⟩)
      clear hK K
      refine rdP 11 fun K hK=>?_
      go_simp
      refine(HWR.out _ HRa.out).mono ?_;rintro e w5 ⟨A3,c3,rfl,hd3,ha3,hb5⟩;have HB5:=Hq (HBa.out.step hb5);have HO5:=Hq (ownBelow HOa.out hb5);have hCb:=(hb5.cell (p:=⟨g8,k,none⟩) (by first|exact hgl|(simp;omega))).trans HCa.out;have hSn:=And.intro HB5.out.get0 (And.intro HB5.out.get1 hCb);have HG5:=blkNew hb5
      refine hKo hK (fun hHeld=>?_) (by first|exact hSn|exact⟨HBd.out.get0,HBd.out.get1,HCELL.out⟩)
      clear hK K
      refine tkW 12 (some 47) (v:=?_) rfl ?_ (tkW 13 (some 60) (v:=?_) rfl ?_ (tkW 14 (some 61) (v:=?_) rfl ?_ ?_))
      iterate 3 (rotate_left;focus(intro u hSu;obtain⟨hSa,hSb,hSc⟩:=hSu;have hSa:=blkCell hSa;have hSb:=blkCell hSb;go_simp;(try with_reducible rfl)))
      try simp only[Act.put,pS]
      refine rdP 16 fun K hK=>?_
      refine wantedIf (by rfl) ?_
      refine sW #[.slice A3 d3.sectors.length c3,d3.left,d3.down] HG5 ?_
      have hg4:w.heap.size+4≤wr.drew.heap.size:=(by omega)
      have HAP:=Hq ((Apart.refl wr.drew.heap.size (wr.drew.heap.size+1) w5).row wr.drew.heap.size #[.slice A3 d3.sectors.length c3,d3.left,d3.down] (Nat.le_refl _) (Nat.lt_succ_self _))
      have HB7:=Hq (HB5.out.under (M:=wr.drew.heap.size) (by show w.heap.size+4≤_;exact hg4) (show Below wr.drew.heap.size w5 (w5.setRow wr.drew.heap.size #[.slice A3 d3.sectors.length c3,d3.left,d3.down])from⟨rfl,rfl,rfl,HAP.out.size,fun j hj=>heap_setRow_other w5 wr.drew.heap.size #[.slice A3 d3.sectors.length c3,d3.left,d3.down] j (by omega)⟩))
      have hd7:DiskR (w5.setRow wr.drew.heap.size #[.slice A3 d3.sectors.length c3,d3.left,d3.down]) d3 A3 c3:=⟨hd3.secs.apart HAP.out (fun h0 ad e=>ha3.elim (fun h1=>by rw[h1]at e;have:=HDR.out.secs.old (by rw[HLE.out,← HWN.out];exact h0) ad e;left;exact this) (fun h1=>by have:=h1 ad e;right;have:=this.1;simp at this ⊢;omega)),hd3.small⟩
      have HG7:(w5.setRow wr.drew.heap.size #[.slice A3 d3.sectors.length c3,d3.left,d3.down]).heap[wr.drew.heap.size]? =some (.cells #[.slice A3 d3.sectors.length c3,d3.left,d3.down] 28 (0,0)):=setRow_heap _ _ _ _ _ _ HG5
      have HO7:=ownOther HO5.out HG5 (by decide) #[.slice A3 d3.sectors.length c3,d3.left,d3.down]
      have hC7:=(cellOther (cs:=#[.slice A3 d3.sectors.length c3,d3.left,d3.down]) hCb HG5 (ownCell HO5.out HG5 (by decide)))
      clear hSn
      have hSn:=And.intro HB7.out.get0 (And.intro HB7.out.get1 hC7)
      refine hKo hK (fun hHeld=>?_) (by first|exact hSn|exact⟨HBd.out.get0,HBd.out.get1,HCELL.out⟩)
      clear hK K
      try simp only[Act.put]
      refine tkP 17 ?_ (hy:=by intro u hSu;obtain⟨hSa,hSb,hSc⟩:=hSu;have hSa:=blkCell hSa;have hSb:=blkCell hSb;go_simp;(try with_reducible rfl))
      refine wpAnyH_done Kr ?_ _
      clear hHeld hSn
      go_wp2_with fail
      go_meet
      case rel=>exact⟨_,A3,c3,rfl,rfl,HB7.out,hg4,HG7,hd7,(ha3.elim (fun h1=>by rw[h1];exact HAW.out.imp id (fun h2=>(((h2.below (Below.refl _ wr).drew).below (allocB wr.drew (.cells #["s",(),false] 28))).below hb5).row _ _)) (fun h1=>.inr ((h1.row _ _).mono (by first|(simp;omega)|omega)))),HO7⟩
    case rest=>
     obtain⟨g,A3,c3,rfl,rfl,hb3,hg4,hg3,hd3,ha3,ho3⟩:=hcut
     obtain⟨wb,rfl⟩:=ex wc
     have HB3:=Hq hb3
     have HG3:=Hq hg3
     have HD3:=Hq hd3
     have HO3:=Hq ho3
     have HA3:=Hq ha3
     have HFR:=Hq (show 0<d3.sectors.length→∀ ad,A3=some ad→ad.block<w.heap.size∨w.heap.size+4≤ad.block from fun h0 ad e=>HA3.out.elim (fun h1=>by rw[h1]at e;exact .inl (HR.out.secs.old (by rw[← HWN.out];exact h0) ad e)) (fun h1=>.inr (h1 ad e).1))
     clear hb3 hg3 hd3 ho3 ha3 HBX HOW HDR HAW HFAR HWR HCELL hs1 hs2
     go_upto_region 12 with(first
      |(with_reducible refine lL HG3.out Tryz.underlying28 ?_)
      |(with_reducible refine lS #[.slice A3 d3.sectors.length c3,d3.left,d3.down] HB3.out.get0 ?_))
     have HB4:=Hq (show BxL w.heap.size w [(#[.slice A3 d3.sectors.length c3,d3.left,d3.down],28),(#[fr,n,en,sf,tl],30),(#["s",(),false],28),(#[(),(),(),(),""],30)] (wb.setRow w.heap.size #[.slice A3 d3.sectors.length c3,d3.left,d3.down])from by have h:=HB3.out.row 0 #[.slice A3 d3.sectors.length c3,d3.left,d3.down] _ rfl;simpa using h)
     have HAP4:=Hq ((Apart.refl w.heap.size (w.heap.size+4) wb).row w.heap.size #[.slice A3 d3.sectors.length c3,d3.left,d3.down] (Nat.le_refl _) (by omega))
     have HO4:=Hq (rowApart HO3.out (Nat.le_refl _) HAP4.out)
     have HD4:=Hq (show DiskR (wb.setRow w.heap.size #[.slice A3 d3.sectors.length c3,d3.left,d3.down]) d3 A3 c3 from⟨HD3.out.secs.apart HAP4.out HFR.out,HD3.out.small⟩)
     have HA4:=Hq (HA3.out.imp id (fun h=>h.row w.heap.size #[.slice A3 d3.sectors.length c3,d3.left,d3.down]))
     obtain⟨W4,hW4⟩:=ex (wb.setRow w.heap.size #[.slice A3 d3.sectors.length c3,d3.left,d3.down])
     rw[← hW4]at HB4 HAP4 HO4 HD4 HA4 ⊢
     clear hW4 HB3 HG3 HD3 HO3 HAP4
     by_cases he:e3=0
     ·have HG:=Hq (HPUT.out.trans (HGO.out he))
      subst he
      clear HGO HSTP
      have hwk:IntKind.i64.wrap ((k:Int)-1)=(k:Int)-1:=IntWalk.i64_in _ (by omega)
      go_wp2_with fail
      go_roundw
      case rel=>exact⟨(k:Int)-1,d3,A3,c3,rfl,by omega,by omega,by rw[show((k:Int)-1+1).toNat=k by omega];exact HG.out,HB4.out,HD4.out,HA4.out,HWL.out,HWN.out,HO4.out⟩
      case measure=>first|(simp[intOf];done)|(simp[intOf];omega)
     ·have HFIN:=Hq (HST.out d3 e3 he (HPUT.out.trans (HSTP.out he)))
      have he1:(e3==0)=false:=by simpa using he
      have he2:(e3 != 0)=true:=by simpa using he
      clear HGO HSTP he
      go_upto_region 13 with fail
      have HD:=Hq HB4.out.drew
      refine rgH (S:=(fun u=>u.heap[w.heap.size]? =some (.cells #[.slice A3 d3.sectors.length c3,d3.left,d3.down] 28 (0,0))∧u.heap[w.heap.size+1]? =some (.cells #[fr,n,en,sf,tl] 30 (0,0)))) (fun hHeld=>?_) ⟨(HD.out.get0),(HD.out.get1)⟩
      refine tkP 0 ?_;refine tkP 1 ?_;refine tkP 2 ?_
      refine rdP 3 fun K hK=>?_
      refine wantedIf (by rfl) ?_
      refine sW #[.slice A3 d3.sectors.length c3,d3.left,d3.down] HD.out.get2 ?_
      have HE:=Hq (HD.out.row 2 #[.slice A3 d3.sectors.length c3,d3.left,d3.down] _ rfl)
      have hSn:=And.intro (HE.out.get0) (HE.out.get1)
      refine hKo hK (fun hHeld=>?_)
      clear hK K
      try simp only[Act.put]
      refine rdP 4 fun K hK=>?_
      refine wantedIf (by rfl) ?_
      refine sW #[fr,n,en,sf,tl] HE.out.g3 ?_
      have HG:=Hq (HE.out.row 3 #[fr,n,en,sf,tl] _ rfl)
      clear hSn
      have hSn:=And.intro (HG.out.get0) (HG.out.get1)
      refine hKo hK (fun hHeld=>?_)
      clear hK K
      try simp only[Act.put]
      refine tkP 5 ?_
      refine wpAnyH_done Kr ?_ _
      clear hHeld hSn
      go_wp2_with fail
      refine bodyPost_ret (v:=.tuple #[.agg #[.slice A3 d3.sectors.length c3,d3.left,d3.down],.agg #[fr,n,en,sf,tl],e3]) (results_cells rfl _ _ rfl rfl (load_whole HG.out.get2 Tryz.underlying28 Kr Kr) (load_whole HG.out.g3 Tryz.underlying30 Kr Kr) rfl) rfl ?_
      exact HO.out A3 c3 _ (d3,⟨fr,n,en,sf,tl⟩,e3) HFIN.out ⟨HD4.out.secs.apart (((Apart.refl _ _ _).drew.row _ _ (by omega) (by omega)).row _ _ (by omega) (by omega)) HFR.out,HD4.out.small⟩ (HA4.out.imp id (fun h=>(h.apart (lo:=w.heap.size) (hi:=w.heap.size+4) (((Apart.refl _ _ _).drew.row _ _ (by omega) (by omega)).row _ _ (by omega) (by omega)) (Nat.le_refl _)).mono (by omega))) HG.out.below
theorem force_any (d:Lg.Dk)(hlb: -9223372036854775808≤d.left∧d.left≤9223372036854775807)(A:Option Addr)(c:Nat)(l:Lg.Lo)(he0:0≤l.end_)(he1:l.end_≤1000000000)(hn0: -1000000000≤l.n)(hn1:l.n≤1000000000)(hf0: -1000000000≤l.from_)(hf1:l.from_≤1000000000)(ht:l.tail.size≤1000000)(hte:(l.tail.size:Int)≤l.end_)(hmod:l.end_%128≤(l.tail.size:Int))(w:World)(h:DiskR w d A c):
 Calls Tryz.prog 129 #[diskV d A c,logV l] w (ForceOut (Lg.forceD d l) A w):=by
 obtain⟨fr,n,en,sf,tl⟩:=l
 by_cases hse:sf=en
 ·subst hse
  exact force_none d.sectors d.left d.down A c fr n sf tl _ (Lg.force_same rfl) w h
 ·exact force_go d hlb A c fr n en sf tl hse he0 he1 hn0 hn1 hf0 hf1 ht hte hmod w h
end Go.Proofs.YtmfkhdhnbkambaaGreatDoor
