import Derived.Test.YtmfkhdhnbkambaaGreatDoorHp00
import Derived.Test.YtmfkhdhnbkambaaGreatDoorHp12
import Derived.Test.YtmfkhdhnbkambaaGreatDoorHp02
import Derived.Laws.MakeOwn
import Derived.Test.YtmfkhdhnbkambaaGreatDoorHp08
import Derived.Test.YtmfkhdhnbkambaaGreatDoorHp15
set_option maxRecDepth 100000
set_option maxHeartbeats 16000000
set_option linter.unusedSimpArgs false
namespace Go.Proofs.YtmfkhdhnbkambaaGreatDoor
open Go.RowKit Go.Sort Go.Shelf
def Grew (w w':World):Prop:=∃ (q:Nat) (os:Array Obj),w'=Go.Sort.grow (w.drewN q) os
theorem Grew.refl (w:World):Grew w w:=⟨0,#[],by rw[Go.Sort.grow_empty];rfl⟩
theorem Grew.trans {u v w:World}(h:Grew u v)(k:Grew v w):Grew u w:=by
 obtain⟨q,os,rfl⟩:=h
 obtain⟨q',os',rfl⟩:=k
 refine⟨q+q',os++os',?_⟩
 show Go.Sort.grow (Go.Sort.grow ((u.drewN q).drewN q') os) os'=_
 rw[Go.Sort.grow_grow,World.drewN_drewN]
theorem Grew.alloc {u v:World}(h:Grew u v)(o:Obj):Grew u (v.alloc o):=h.trans ⟨0,#[o],by rw[Go.Sort.alloc_eq_grow];rfl⟩
section
variable {α : Type} {enc : α → List Value} {k : Nat} {e : TypeId} {B g c : Nat} {w : World} {l : List α} [Inhabited α]
theorem flat_get (hk:∀ x,(enc x).length=k)(l:List α)(t:Nat)(ht:t<l.length*k):(l.flatMap enc)[t]? =some (flatK enc k l.toArray)[t]! :=by
 have hk0:0<k:=by rcases Nat.eq_zero_or_pos k with h|h;(· subst h;omega);(· exact h)
 have hd:t/k<l.length:=by rw[Nat.div_lt_iff_lt_mul hk0];exact ht
 have hm:t%k<k:=Nat.mod_lt _ hk0
 rw[get_flatK enc k l.toArray t (by simpa using ht)]
 have e1:t=t/k*k+t%k:=by rw[Nat.mul_comm];exact(Nat.div_add_mod t k).symm
 conv=>lhs;rw[e1,flat_at hk l (t/k) (t%k) hd hm]
 have e2:l.toArray[t/k]! =l[t/k]:=by simp[hd]
 rw[e2,List.getElem!_eq_getElem?_getD,List.getElem?_eq_getElem (by rw[hk];exact hm)]
 rfl
theorem own_holds (hk:∀ x,(enc x).length=k)(ho:OwnL enc k e B w (.slice (some ⟨g,0,none⟩) l.length c) l):HoldsK enc k w g 0 l.toArray:=by
 obtain⟨cur,hB,hg,hh,hn,hc,hs,ht⟩:=own_blk ho
 intro j hj
 rw[size_flatK,List.size_toArray]at hj
 refine⟨?_,blkFrozen hh _⟩
 rw[blkCell hh,Nat.zero_add,ht j hj,flat_get hk l j hj]
 rfl
theorem own_sorted (hk:∀ x,(enc x).length=k)(ho:OwnL enc k e B w (.slice (some ⟨g,0,none⟩) l.length c) l)(l':List α)(hl:l'.length=l.length)(n:Nat)(os:Array Obj):
 OwnL enc k e B (sortWorldK enc k w g 0 n l'.toArray os) (.slice (some ⟨g,0,none⟩) l.length c) l'∧Below B w (sortWorldK enc k w g 0 n l'.toArray os):=by
 obtain⟨cur,hB,hg,hh,hn,hc,hs,ht⟩:=own_blk ho
 have hlc:l.length*k≤c*k:=Nat.mul_le_mul_right _ hn
 have hblk:(sortWorldK enc k w g 0 n l'.toArray os).heap[g]? =some (.cells (putCells id 0 (flatK enc k l'.toArray) cur) e (0,0)):=by
  show(w.heap.modify g _++os)[g]? =_
  rw[Array.getElem?_append_left (by rw[Array.size_modify];exact hg),Array.getElem?_modify,if_pos rfl,hh]
  rfl
 refine⟨?_,⟨rfl,rfl,rfl,?_,fun j hj=>?_⟩⟩
 ·rw[← hl]
  refine own_mk hk hB hblk (by rw[hl];exact hn) hc (by unfold putCells;rw[Array.size_mapIdx];exact hs) (fun t h=>?_)
  rw[hl]at h
  unfold putCells
  rw[Array.getElem?_mapIdx,Array.getElem?_eq_getElem (by omega),Option.map_some,size_flatK,List.size_toArray,if_pos ⟨Nat.zero_le _,by rw[hl];omega⟩,flat_get hk l' t (by rw[hl];exact h)]
  rfl
 ·show w.heap.size≤(w.heap.modify g _++os).size
  rw[Array.size_append,Array.size_modify];omega
 ·show(w.heap.modify g _++os)[j]? =_
  rw[Array.getElem?_append_left (by rw[Array.size_modify];omega),Array.getElem?_modify,if_neg (by omega)]
end
theorem tot_swo {α:Type}{o:α→α→Int}(t:Sp.Tot o):SWO (ltOf o):=by
 refine⟨fun x=>by simp[ltOf,t.self],fun x y z h1 h2=>?_,fun x y z h1 h2=>?_⟩
 ·simp only[ltOf,decide_eq_true_eq]at*
  exact t.trans h1 h2
 ·simp only[ltOf,decide_eq_false_iff_not]at*
  have n1:=t.neg x y;have n2:=t.neg y z;have n3:=t.neg x z
  have:=t.le_trans (a:=z) (b:=y) (c:=x) (by omega) (by omega)
  omega
theorem tot_eq {α:Type}{o:α→α→Int}(t:Sp.Tot o)(x y:α)(h1:(ltOf o) x y=false)(h2:(ltOf o) y x=false):x=y:=by
 simp only[ltOf,decide_eq_false_iff_not]at*
 exact t.anti (by have:=t.neg x y;omega) (by have:=t.neg x y;omega)
theorem totI:Sp.Tot Lib.compareInt:=⟨Sp.ci_neg,fun h=>Sp.ci_zero.1 h,fun h k=>by rw[Sp.ci_lt]at*;omega⟩
def isD (f:Fr):Bool:=decide (f.bytes.size≠0)&&decide (f.rc≠0)
def dirtP (fs:List Fr):List Int:=(fs.filter isD).map (·.page)
def rcOf (fs:List Fr)(p:Int):Int:=((fs.find? (fun f=>isD f&&decide (f.page=p))).map (·.rc)).getD 0
def edC (rf:Int→Int)(p:Int):List Value:=[.int .i64 p,.int .i64 (rf p)]
theorem edC_len (rf:Int→Int)(p:Int):(edC rf p).length=2:=rfl
theorem edC_one (rf:Int→Int)(p:Int):∀ u∈edC rf p,u.oneCell'=true:=by
 intro u hu
 simp only[edC,List.mem_cons,List.not_mem_nil,or_false]at hu
 rcases hu with rfl|rfl<;>rfl
def dirL (fs:List Fr):List Rc.DirtyAt:=(Sp.sortO Lib.compareInt (dirtP fs)).map (fun p=>⟨p,rcOf fs p⟩)
theorem dirL_len (fs:List Fr):(dirL fs).length=(Sp.sortO Lib.compareInt (dirtP fs)).length:=by unfold dirL;rw[List.length_map]
theorem dirL_flat (fs:List Fr):(dirL fs).flatMap diC=(Sp.sortO Lib.compareInt (dirtP fs)).flatMap (edC (rcOf fs)):=by unfold dirL;rw[List.flatMap_map];rfl
theorem isD_iff {f:Fr}:isD f=true↔f.bytes≠⟨#[]⟩∧f.rc≠0:=by
 unfold isD
 rw[Bool.and_eq_true,decide_eq_true_iff,decide_eq_true_iff]
 constructor
 ·rintro⟨h1,h2⟩
  exact⟨fun h=>h1 (by rw[h];rfl),h2⟩
 ·rintro⟨h1,h2⟩
  exact⟨fun h=>h1 (ByteArray.ext (Array.eq_empty_of_size_eq_zero h)),h2⟩
theorem rc_at {fs:List Fr}(hds:∀ i j (hi:i<fs.length) (hj:j<fs.length),i≠j→Full fs[i]→Full fs[j]→fs[i].page≠fs[j].page)(i:Nat)(hi:i<fs.length)(hd:isD fs[i]=true):rcOf fs fs[i].page=fs[i].rc:=by
 unfold rcOf
 cases hf:fs.find? (fun f=>isD f&&decide (f.page=fs[i].page))with
 |none=>
  have h1:=List.find?_eq_none.1 hf fs[i] (List.getElem_mem hi)
  rw[hd]at h1
  simp at h1
 |some x=>
  have h1:=List.find?_some hf
  have h2:=List.mem_of_find?_eq_some hf
  rw[Bool.and_eq_true,decide_eq_true_iff]at h1
  obtain⟨j,hj,rfl⟩:=List.getElem_of_mem h2
  by_cases hij:i=j
  ·subst hij;rfl
  ·exact absurd h1.2.symm (hds i j hi hj hij (isD_iff.1 hd).1 (isD_iff.1 h1.1).1)
theorem dirtP_take (fs:List Fr)(k:Nat)(hk:k<fs.length):(isD fs[k]=true→dirtP (fs.take (k+1))=dirtP (fs.take k)++[fs[k].page])∧(isD fs[k]=false→dirtP (fs.take (k+1))=dirtP (fs.take k)):=by
 unfold dirtP
 rw[List.take_succ_eq_append_getElem hk,List.filter_append,List.map_append]
 exact⟨fun h=>by rw[List.filter_cons_of_pos h];rfl,fun h=>by rw[List.filter_cons_of_neg (by rw[h];simp)];simp⟩
theorem dirtP_len (fs:List Fr)(k:Nat):(dirtP (fs.take k)).length≤k:=by
 unfold dirtP
 rw[List.length_map]
 exact Nat.le_trans (List.length_filter_le _ _) (by rw[List.length_take];omega)
def DiOut (fs:List Fr)(w:World)(e:Ending)(w':World):Prop:=∃ A c,e= .returned (.slice A (dirL fs).length c)∧DiR w' A c (dirL fs)∧NewT 0 w' 138 A∧Below w.heap.size w w'
theorem cpfree_any (f:Fr)(w:World):Calls Tryz.prog 47 #[.agg (frA f)] w fun e w'=>∃ q:Bool,e= .returned (.bool q)∧(q=true↔f.bytes=⟨#[]⟩)∧Below w.heap.size w w':=by
 by_cases hb:f.bytes=⟨#[]⟩
 ·have hbz:=str_nil
  go_enter Tryz.func47,Tryz.ntmps47
  go_upto_region 1 with fail
  have H0:=nW1 w (frA f) 108
  obtain⟨W0,hW0⟩:=exW H0
  rw[← hW0]at H0 ⊢
  clear hW0
  have hc:=show W0.cell? ⟨w.heap.size,1,none⟩=some (.string ⟨#[]⟩)from by rw[blkCell H0.out.get0,← hb];rfl
  have HB:=Hq hb
  clear hb
  go_wp2_with fail
  go_ret
  exact⟨true,by simp,⟨fun _=>HB.out,fun _=>rfl⟩,H0.out.below⟩
 ·obtain⟨h1,h2,h3⟩:=str_ne hb
  go_enter Tryz.func47,Tryz.ntmps47
  go_upto_region 1 with fail
  have H0:=nW1 w (frA f) 108
  obtain⟨W0,hW0⟩:=exW H0
  rw[← hW0]at H0 ⊢
  clear hW0
  have hc:=show W0.cell? ⟨w.heap.size,1,none⟩=some (.string f.bytes)from by rw[blkCell H0.out.get0];rfl
  go_wp2_with fail
  go_ret
  exact⟨false,by simp,⟨(fun h=>by cases h),fun h=>absurd h hb⟩,H0.out.below⟩
theorem dcmp_any (rf:Int→Int)(a b:Int)(w:World):Calls Tryz.prog 134 #[.agg (edC rf a).toArray,.agg (edC rf b).toArray] w fun e w'=>e= .returned (.int .i64 (Lib.compareInt a b))∧Grew w w':=by
 show Calls Tryz.prog 134 #[.agg #[a,.int .i64 (rf a)],.agg #[b,.int .i64 (rf b)]] w _
 have G0:=Hq (((Grew.refl w).alloc (.cells #[a,.int .i64 (rf a)] 138)).alloc (.cells #[b,.int .i64 (rf b)] 138))
 go_enter Tryz.func134,Tryz.ntmps134
 go_upto_region 1 with fail
 have H0:=nW2 w #[a,.int .i64 (rf a)] 138 #[b,.int .i64 (rf b)] 138
 obtain⟨W0,hW0⟩:=exW H0
 rw[← hW0]at H0 G0 ⊢
 clear hW0
 have hc0:=show W0.cell? ⟨w.heap.size,0,none⟩=some (.int .i64 a)from by rw[blkCell H0.out.get0];rfl
 have hc1:=show W0.cell? ⟨w.heap.size+1,0,none⟩=some (.int .i64 b)from by rw[blkCell H0.out.get1];rfl
 go_wp2_with (go_at_call 135;(with_reducible refine(Tryz.cmpI _ _ _).mono ?_);rintro e w2 ⟨rfl,rfl⟩)
 go_ret
 exact⟨by simp,G0.out⟩
theorem sortD_any (rf:Int→Int)(l:List Int)(hl:l.length≤1000000)(B:Nat)(v:Value)(w:World)(ho:OwnL (edC rf) 2 138 B w v l)(hB:B≤w.heap.size):
 Calls Tryz.prog 133 #[v,.func (.func 134) #[] #[]] w fun e w'=>e= .returned (.tuple #[])∧OwnL (edC rf) 2 138 B w' v (Sp.sortO Lib.compareInt l)∧Below B w w':=by
 have h2:=ho.2
 rcases h2 with⟨rfl,h0⟩|⟨g,cap,cur,rfl,_⟩
 ·have hl0:l=[]:=List.eq_nil_of_length_eq_zero h0
  subst hl0
  refine(AnyF.slices_SortFunc_none Tryz.sortD none 0 (.func (.func 134) #[] #[]) w).mono ?_
  rintro e w' ⟨rfl,rfl⟩
  exact⟨rfl,by simpa[Sp.sortO]using ho,Below.refl _ _⟩
 ·have hO:=own_holds (k:=2) (edC_len rf) ho
  obtain⟨cur',_,hg,hh,_⟩:=own_blk ho
  have h:=AnyQ.slices_SortFunc_total Tryz.sortD 2 Tryz.isAgg138 Tryz.sizeOf138 (edC rf) (edC_len rf) (edC_one rf) Lib.compareInt (tot_swo totI) 134 #[] g 0 cap l.toArray w (enters_of Tryz.func134 Kr rfl) (fun m os dk hs x y=>(dcmp_any rf x y _).mono (fun e w' h=>⟨h.1,h.2⟩)) hO hg (by simp;omega) (tot_eq totI)
  simp only[List.size_toArray]at h
  refine Calls.mono h ?_
  rintro e w' ⟨rfl,n,os,rfl⟩
  have hs:=own_sorted (edC_len rf) ho (Sp.sortO Lib.compareInt l) (Sp.sort_len _ _) n os
  refine⟨rfl,?_,hs.2⟩
  show World.ownsRow _ B 138 2 _ (Sp.sortO Lib.compareInt l).length _
  rw[Sp.sort_len]
  have h3:=hs.1
  unfold OwnL at h3
  rw[Sp.sort_len]at h3
  exact h3
theorem cpdirty_any (s:Tx.St)(p:SP)(fs:List Fr)(hds:∀ i j (hi:i<fs.length) (hj:j<fs.length),i≠j→Full fs[i]→Full fs[j]→fs[i].page≠fs[j].page)(hn64:fs.length≤64)(w:World)(h:PoolR w s p fs):
 Calls Tryz.prog 84 #[storeV s p] w (DiOut fs w):=by
 have HFN:=Hq h.fn
 have HR:=Hq h.fr
 have HLF:=Hq hn64
 have HDF:=Hq (dirL_flat fs)
 have HDL:=Hq (dirL_len fs)
 obtain⟨rf,hrf⟩:=ex (rcOf fs)
 have HRC:=Hq (show ∀ i (hi:i<fs.length),isD fs[i]=true→rf fs[i].page=fs[i].rc from fun i hi hd=>by rw[hrf];exact rc_at hds i hi hd)
 rw[← hrf]at HDF
 clear h hds hn64 hrf
 go_enter Tryz.func84,Tryz.ntmps84
 go_upto_region 1 with fail
 have H0:=nW1 w (stA s p) 36
 obtain⟨W0,hW0⟩:=exW H0
 rw[← hW0]at H0 ⊢
 clear hW0
 have hc:=show W0.cell? ⟨w.heap.size,11,none⟩=some (.slice p.F fs.length p.fc)from by rw[blkCell H0.out.get0,← HFN.out];rfl
 have HGE:=Hq (show w.heap.size<W0.heap.size from H0.out.lt (i:=0) (by simp))
 go_wp2_with fail
 clear hc
 go_loopw [3,10] (fun v i wr=>∃ k:Nat,k≤fs.length∧i= .int .i64 k∧OwnL (edC rf) 2 138 W0.heap.size wr v (dirtP (fs.take k))∧BxL w.heap.size w [((stA s p),36)] wr∧W0.heap.size≤wr.heap.size) (fun _ i _=>fs.length-(intOf i).toNat)
 case atStart=>exact⟨0,Nat.zero_le _,rfl,ownNil _ _ _ _,H0.out,Nat.le_refl _⟩
 case round=>
  clear H0
  obtain⟨k,hk,rfl,ho,hbx,hge⟩:=hrel
  have HO:=Hq ho
  have HBX:=Hq hbx
  have HGW:=Hq hge
  clear ho hbx hge
  have hk0:(0:Int)≤(k:Int):=by omega
  by_cases hlt:k<fs.length
  ·obtain⟨b,off,hpF,hcc,hbl,hcell⟩:=read_at frL_len (HR.out.below HBX.out.below) hlt
   have hki:(k:Int)<(fs.length:Int):=by omega
   have hwk:IntKind.i64.wrap ((k:Int)+1)=(k:Int)+1:=IntWalk.i64_in _ (by have:=HLF.out;omega)
   have HTK:=Hq (dirtP_take fs k hlt)
   have HRK:=Hq (HRC.out k hlt)
   have hsb:(dirtP (fs.take k)).length≤64:=by have:=HLF.out;have:=dirtP_len fs k;omega
   obtain⟨S2,hS2⟩:=ex (dirtP (fs.take (k+1)))
   rw[← hS2]at HTK
   have HS2:=Hq hS2
   clear hS2
   generalize dirtP (fs.take k)=S at HTK hsb HO ⊢
   generalize fs[k]=f at HTK HRK hcell
   have HC0:=Hq (show wr.rangeAt b (off+k*5) (frL f)from hcell)
   rw[hpF]
   clear hcell hcc hbl hpF
   obtain⟨OA,oc,rfl⟩:=ownLen HO.out
   go_upto_region 5 with(first
    |(refine listWants Kr fun K hK=>wp_load_mid 108 (.tmp 12) rfl b (off+k*5) rfl (frL f) _ HC0.out Tryz.underlying108 Kr Kr (hK _ _ ?_))
    |(with_reducible refine sN (frA f) ?_))
   have hb5:=allocB wr (.cells (frA f) 108)
   have H5:=Hq (HBX.out.step hb5)
   have HG5:=Hq (heap_alloc_new wr (.cells (frA f) 108))
   have HO5:=Hq (ownBelow HO.out hb5)
   have H5L:=Hq (Nat.le_trans HGW.out hb5.size)
   obtain⟨gf,hgf⟩:=ex wr.heap.size
   obtain⟨w5,hw5⟩:=ex (wr.alloc (.cells (frA f) 108))
   rw[← hgf,← hw5]at HG5
   rw[← hw5]at H5 HO5 H5L
   rw[← hw5,← hgf]
   clear hw5 hgf hb5 HBX HO HC0 HGW
   try simp only[Act.put]
   have HFE:=Hq (cpfree_any f w5)
   by_cases hd:isD f=true
   ·obtain⟨hd1,hd2⟩:=isD_iff.1 hd
    have hq4:(f.rc != 0)=true:=bne_iff_ne.2 hd2
    have HE:=Hq (HTK.out.1 hd)
    have HRF:=Hq (HRK.out hd)
    have HND:=Hq hd1
    clear HTK HRK hd hd1 hd2
    obtain⟨pg,hpg⟩:=ex f.page
    have HPG:=Hq hpg
    rw[← hpg]at HE HRF
    clear hpg
    go_upto_region 6 with(first
     |(with_reducible refine lL HG5.out Tryz.underlying108 ?_)
     |(go_at_call 47;(refine HFE.out.mono ?_);rintro e w6 ⟨q,rfl,hq,hb6⟩;obtain rfl:q=false:=(by cases q with|true=>exact absurd (hq.1 rfl) HND.out|false=>rfl);clear hq;have HG6:=Hq (blkOld HG5.out hb6);have H6:=Hq (H5.out.step hb6);have HO6:=Hq (ownBelow HO5.out hb6);have H6L:=Hq (Nat.le_trans H5L.out hb6.size);have hc4:=show w6.cell? ⟨gf,4,none⟩=some (.int .i64 f.rc)from(by rw[blkCell HG6.out];rfl)))
    clear hc4
    have hg0:=show w6.cell? ⟨gf,0,none⟩=some (.int .i64 pg)from by rw[blkCell HG6.out,HPG.out];rfl
    have hg4:=show w6.cell? ⟨gf,4,none⟩=some (.int .i64 (rf pg))from by rw[blkCell HG6.out,HRF.out];rfl
    go_wp2_with (at_builtin;refine wpList_push Kr (.tmp 22) (.tmp 28) 47 138 Tryz.underlying47 info_dirty rfl (by omega) (by omega) rfl W0.heap.size _ S.length (S.flatMap (edC rf)) rfl (ownBelow HO6.out (allocB _ _)) w6.heap.size (edC rf pg) 138 rfl (heap_alloc_new w6 _) rfl (edC_one rf pg) (by omega) (Nat.le_trans H6L.out (allocB w6 _).size) ?_;intro v7 w7 ho7 hg7 hb7)
    go_roundw
    case rel=>exact⟨k+1,by omega,by go_num,by rw[← HS2.out,HE.out];exact OwnL.push (enc:=edC rf) (x:=pg) ho7,(H6.out.step (allocB w6 _)).under (M:=W0.heap.size) (by have:=HGE.out;simp;omega) hb7,Nat.le_trans (Nat.le_trans H6L.out (allocB w6 (.cells #[pg,.int .i64 (rf pg)] 138)).size) hb7.size⟩
    case measure=>simp[intOf];omega
   ·have HE:=Hq (HTK.out.2 (Bool.eq_false_iff.2 hd))
    clear HTK HRK
    by_cases hb0:f.bytes=⟨#[]⟩
    ·have HB0:=Hq hb0
     clear hd hb0
     go_wp2_with (first
      |(with_reducible refine lL HG5.out Tryz.underlying108 ?_)
      |(go_at_call 47;(refine HFE.out.mono ?_);rintro e w6 ⟨q,rfl,hq,hb6⟩;obtain rfl:q=true:=hq.2 HB0.out;clear hq;have H6:=Hq (H5.out.step hb6);have HO6:=Hq (ownBelow HO5.out hb6);have H6L:=Hq (Nat.le_trans H5L.out hb6.size)))
     go_roundw
     case rel=>exact⟨k+1,by omega,by go_num,by rw[← HS2.out,HE.out];exact HO6.out,H6.out,H6L.out⟩
     case measure=>simp[intOf];omega
    ·have HR0:=Hq (show f.rc=0 from by
      by_cases hr:f.rc=0
      ·exact hr
      ·exact absurd (isD_iff.2 ⟨hb0,hr⟩) hd)
     have HB0:=Hq hb0
     clear hd hb0
     go_wp2_with (first
      |(with_reducible refine lL HG5.out Tryz.underlying108 ?_)
      |(go_at_call 47;(refine HFE.out.mono ?_);rintro e w6 ⟨q,rfl,hq,hb6⟩;obtain rfl:q=false:=(by cases q with|true=>exact absurd (hq.1 rfl) HB0.out|false=>rfl);clear hq;have H6:=Hq (H5.out.step hb6);have HO6:=Hq (ownBelow HO5.out hb6);have H6L:=Hq (Nat.le_trans H5L.out hb6.size);have HG6:=Hq (blkOld HG5.out hb6);have hc4:=show w6.cell? ⟨gf,4,none⟩=some (.int .i64 0)from(by rw[blkCell HG6.out,← HR0.out];rfl)))
     go_roundw
     case rel=>exact⟨k+1,by omega,by go_num,by rw[← HS2.out,HE.out];exact HO6.out,H6.out,H6L.out⟩
     case measure=>simp[intOf];omega
  ·obtain rfl:k=fs.length:=by omega
   have ho:=HO.out
   rw[List.take_length]at ho
   have hl4:(dirtP fs).length≤1000000:=by have:=dirtP_len fs fs.length;rw[List.take_length]at this;have:=HLF.out;omega
   go_wp2_with (go_at_call 133;(refine(sortD_any rf (dirtP fs) hl4 W0.heap.size _ _ ho HGW.out).mono ?_);rintro e w8 ⟨rfl,ho8,hb8⟩)
   go_ret
   obtain⟨A8,c8,rfl⟩:=ownLen ho8
   refine⟨A8,c8,by rw[HDL.out];rfl,?_,(NewT.own ho8).mono (Nat.zero_le _),(HBX.out.under (M:=W0.heap.size) (by have:=HGE.out;simp;omega) hb8).below⟩
   show Reads _ _ _ (dirL fs).length ((dirL fs).flatMap diC)
   rw[HDL.out,HDF.out]
   exact own_reads ho8
open Sc
noncomputable def allL (s0:Tx.St) (fs0:List Fr):List Int→Tx.St→List Fr→Px
 |[],s,fs=>⟨s,fs,0⟩
 |p::l,s,fs=>if(FlushF s fs p).e=0 then allL s0 fs0 l (FlushF s fs p).s (FlushF s fs p).fs else backF s0 fs0 (FlushF s fs p)
noncomputable def allF (s:Tx.St) (fs:List Fr):Px:=allL s fs ((dirL fs).map (·.page)) s fs
theorem Wf.allL {N n B:Nat}{s0:Tx.St}{fs0:List Fr}(h0:Wf N n B s0 fs0):∀ (l:List Int) (s:Tx.St) (fs:List Fr),Wf N n B s fs→fs.length=fs0.length→Wf N n B (allL s0 fs0 l s fs).s (allL s0 fs0 l s fs).fs∧(allL s0 fs0 l s fs).fs.length=fs0.length
 |[],_,_,h,hl=>⟨h,hl⟩
 |p::l,s,fs,h,hl=>by
  obtain⟨h1,h2⟩:=h.Flush p
  show Wf N n B (if _ then _ else _:Px).s (if _ then _ else _:Px).fs∧(if _ then _ else _:Px).fs.length=_
  split
  ·exact Wf.allL h0 l _ _ h1 (h2.trans hl)
  ·exact h0.back h1 (h2.trans hl)
theorem Wf.all {N n B:Nat}{s:Tx.St}{fs:List Fr}(h:Wf N n B s fs):Wf N n B (allF s fs).s (allF s fs).fs∧(allF s fs).fs.length=fs.length:=h.allL _ _ _ h rfl
theorem pfFlush_any {N n B:Nat}(s:Tx.St)(p:SP)(fs:List Fr)(hW:Wf N n B s fs)(pg:Int)(w:World)(h:PoolR w s p fs):
 Calls Tryz.prog 36 #[storeV s p,pg] w (StOut (FlushF s fs pg) w):=by
 have hnf:=hW.nf
 have hzp:=hW.zp
 have HHS:=Hq (fun W=>phas_any s p n hW.zp pg W)
 have HAT:=Hq (fun W (hb:Below w.heap.size w W)=>pat_any s p fs (by omega) pg W (h.below hb))
 have HFL:=Hq (fun k (hk:k<fs.length) W (hb:Below w.heap.size w W)=>pfflush_any s p fs hW k hk W (h.below hb))
 have HP:=Hq h
 obtain⟨X,hX⟩:=ex (FlushF s fs pg)
 rw[← hX]
 have HST:=Hq (fun W (hb:Below w.heap.size w W) (e:Int)=>show X=⟨s,fs,e⟩→StOut X w (.returned (.tuple #[storeV s p,e])) W from fun he=>by rw[he];exact⟨p,rfl,h.below hb,hb⟩)
 have HRT:=Hq (fun(Y:Px) (he:X=Y) w' (q:SP) (hp:PoolR w' Y.s q Y.fs) (hb:Below w.heap.size w w')=>show StOut X w (.returned (.tuple #[storeV Y.s q,Y.e])) w' from by rw[he];exact⟨q,rfl,hp,hb⟩)
 by_cases hpg:0≤pg∧pg<(n:Int)
 ·rw[decide_eq_true hpg]at HHS
  have hh:hasF s pg:=⟨hpg.1,by omega⟩
  have HNO:=Hq (fun(ha:atF fs pg=none)=>show X=⟨s,fs,0⟩from by rw[hX];unfold FlushF;rw[if_neg (fun hn=>hn hh),ha])
  have HYE:=Hq (fun k (ha:atF fs pg=some k)=>show X=backF s fs (flushF s fs k)from by rw[hX];unfold FlushF;rw[if_neg (fun hn=>hn hh),ha])
  clear hX hW hh h hnf hzp hpg
  generalize StOut X w=Q at HST HRT ⊢
  go_enter Tryz.func36,Tryz.ntmps36
  go_upto_region 1 with fail
  have H0:=nW2 w (stA s p) 36 #[(),(),(),"s",(),false,(),(),(),(),"","s",(),"s",()] 36
  obtain⟨W0,hW0⟩:=exW H0
  rw[← hW0]at H0 ⊢
  clear hW0
  go_upto_region 3 with(first|(with_reducible refine lL H0.out.get0 Tryz.underlying36 ?_)|(go_at_call 75;(refine(HHS.out _).mono ?_);rintro e w1 ⟨rfl,hb1⟩;have H1:=Hq (H0.out.step hb1)))
  go_upto_region 4 with(first|(with_reducible refine lL H1.out.get0 Tryz.underlying36 ?_)|(go_at_call 14;(refine(HAT.out _ H1.out.below).mono ?_);rintro e w2 ⟨kk,rfl,hq,hb2⟩;have H2:=Hq (H1.out.step hb2)))
  clear hb1 hb2 H0 H1 HHS HAT
  rcases hq with⟨rfl,hq⟩|⟨k,hk,rfl,hfk,hfj⟩
  ·have hm1:(-1:Int)<0:=by decide
   have HXF:=Hq (HNO.out (atF_none hq))
   clear hq HFL HYE HNO
   go_wp2_with (first|(with_reducible refine lL H2.out.get0 Tryz.underlying36 ?_)|(with_reducible refine lS (stA s p) H2.out.get1 ?_))
   refine bodyPost_ret (v:=.tuple #[.agg (stA s p),()]) (results_cell2 rfl _ _ rfl (load_whole (setRow_heap _ _ _ _ _ _ H2.out.get1) Tryz.underlying36 Kr Kr) rfl) rfl ?_
   exact HST.out _ (H2.out.row 1 (stA s p) _ rfl).below 0 HXF.out
  ·have hk0:¬ (k:Int)<0:=by omega
   have hki:(k:Int)<(fs.length:Int):=by omega
   have HX1:=Hq (HYE.out k (atF_some hk hfk fun j hj hjk=>hfj j hjk))
   have HFK:=Hq (fun W hb=>HFL.out k hk W hb)
   clear hfk hfj HYE HNO HFL
   generalize flushF s fs k=Y at HX1 HFK
   obtain⟨ys,yfs,ye⟩:=Y
   go_upto_region 7 with(first
    |(with_reducible refine lL H2.out.get0 Tryz.underlying36 ?_)
    |(go_at_call 82;(refine(HFK.out _ H2.out.below).mono ?_);rintro e w4 ⟨q,rfl,hp4,hb4⟩)
    |(with_reducible refine sN (stA ys q) ?_))
   have hb5:=hb4.trans ((allocB w4 (.cells (stA ys q) 36)).mono hb4.size)
   have H5:=Hq (H2.out.step hb5)
   have HG5:=Hq (heap_alloc_new w4 (.cells (stA ys q) 36))
   have HP5:=Hq (hp4.below (allocB w4 (.cells (stA ys q) 36)))
   obtain⟨g,hg⟩:=ex w4.heap.size
   obtain⟨w5,hw5⟩:=ex (w4.alloc (.cells (stA ys q) 36))
   rw[← hg,← hw5]at HG5
   rw[← hw5]at H5 HP5
   rw[← hw5,← hg]
   clear hw5 hg hb4 hb5 H2 HFK hp4
   try simp only[Act.put]
   by_cases hye:ye=0∨ye=20
   ·have HBA:=Hq (fun W=>show Calls Tryz.prog 83 #[storeV s p,storeV ys q,ye] W fun e w'=>e= .returned (storeV ys q)∧Below W.heap.size W w' from by
     have h0:=pfback_any s p ys q ye W
     rw[if_pos hye]at h0
     exact h0)
    have HXF:=Hq (show X=⟨ys,yfs,ye⟩from by rw[HX1.out];unfold backF;rw[if_pos hye])
    clear hye HX1
    go_wp2_with (first
     |(with_reducible refine lL H5.out.get0 Tryz.underlying36 ?_)
     |(with_reducible refine lL HG5.out Tryz.underlying36 ?_)
     |(go_at_call 83;(refine(HBA.out _).mono ?_);rintro e w6 ⟨rfl,hb6⟩;have H6:=Hq (H5.out.step hb6))
     |(with_reducible refine lS (stA ys q) H6.out.get1 ?_))
    refine bodyPost_ret (v:=.tuple #[.agg (stA ys q),ye]) (results_cell2 rfl _ _ rfl (load_whole (setRow_heap _ _ _ _ _ _ H6.out.get1) Tryz.underlying36 Kr Kr) rfl) rfl ?_
    exact HRT.out _ HXF.out _ q ((HP5.out.below hb6).other (t:=36) H6.out.get1 (by decide) (by decide) (by decide) _) (H6.out.row 1 (stA ys q) _ rfl).below
   ·have HBA:=Hq (fun W=>show Calls Tryz.prog 83 #[storeV s p,storeV ys q,ye] W fun e w'=>e= .returned (storeV s p)∧Below W.heap.size W w' from by
     have h0:=pfback_any s p ys q ye W
     rw[if_neg hye]at h0
     exact h0)
    have HXF:=Hq (show X=⟨s,fs,ye⟩from by rw[HX1.out];unfold backF;rw[if_neg hye])
    clear hye HX1
    go_wp2_with (first
     |(with_reducible refine lL H5.out.get0 Tryz.underlying36 ?_)
     |(with_reducible refine lL HG5.out Tryz.underlying36 ?_)
     |(go_at_call 83;(refine(HBA.out _).mono ?_);rintro e w6 ⟨rfl,hb6⟩;have H6:=Hq (H5.out.step hb6))
     |(with_reducible refine lS (stA s p) H6.out.get1 ?_))
    refine bodyPost_ret (v:=.tuple #[.agg (stA s p),ye]) (results_cell2 rfl _ _ rfl (load_whole (setRow_heap _ _ _ _ _ _ H6.out.get1) Tryz.underlying36 Kr Kr) rfl) rfl ?_
    exact HST.out _ (H6.out.row 1 (stA s p) _ rfl).below ye HXF.out
 ·rw[decide_eq_false hpg]at HHS
  have hh:¬ hasF s pg:=fun hn=>hpg ⟨hn.1,by have:=hn.2;omega⟩
  have HXF:=Hq (show X=⟨s,fs,1⟩from by rw[hX];unfold FlushF;rw[if_pos hh])
  clear h hX hW hh hpg hnf hzp HAT HFL HP
  generalize StOut X w=Q at HST ⊢
  go_enter Tryz.func36,Tryz.ntmps36
  go_upto_region 1 with fail
  have H0:=nW2 w (stA s p) 36 #[(),(),(),"s",(),false,(),(),(),(),"","s",(),"s",()] 36
  obtain⟨W0,hW0⟩:=exW H0
  rw[← hW0]at H0 ⊢
  clear hW0
  go_upto_region 2 with(first|(with_reducible refine lL H0.out.get0 Tryz.underlying36 ?_)|(go_at_call 75;(refine(HHS.out _).mono ?_);rintro e w1 ⟨rfl,hb1⟩;have H1:=Hq (H0.out.step hb1)))
  go_wp2_with (first|(with_reducible refine lL H1.out.get0 Tryz.underlying36 ?_)|(with_reducible refine lS (stA s p) H1.out.get1 ?_))
  refine bodyPost_ret (v:=.tuple #[.agg (stA s p),.int .i64 1]) (results_cell2 rfl _ _ rfl (load_whole (setRow_heap _ _ _ _ _ _ H1.out.get1) Tryz.underlying36 Kr Kr) rfl) rfl ?_
  exact HST.out _ (H1.out.row 1 (stA s p) _ rfl).below 1 HXF.out
theorem pfAll_any {N n B:Nat}(s:Tx.St)(p:SP)(fs:List Fr)(hW:Wf N n B s fs)(w:World)(h:PoolR w s p fs):
 Calls Tryz.prog 37 #[storeV s p] w (StOut (allF s fs) w):=by
 have hnf:=hW.nf
 have HDI:=Hq (fun W (hb:Below w.heap.size w W)=>cpdirty_any s p fs hW.ds (by omega) W (h.below hb))
 have HP:=Hq h
 obtain⟨X,hX⟩:=ex (allF s fs)
 rw[← hX]
 have HST:=Hq (fun W (hb:Below w.heap.size w W) (e:Int)=>show X=⟨s,fs,e⟩→StOut X w (.returned (.tuple #[storeV s p,e])) W from fun he=>by rw[he];exact⟨p,rfl,h.below hb,hb⟩)
 have HRT:=Hq (fun(Y:Px) (he:X=Y) w' (q:SP) (hp:PoolR w' Y.s q Y.fs) (hb:Below w.heap.size w w')=>show StOut X w (.returned (.tuple #[storeV Y.s q,Y.e])) w' from by rw[he];exact⟨q,rfl,hp,hb⟩)
 have hX2:allL s fs ((dirL fs).map (·.page)) s fs=X:=hX.symm
 have hdl:(dirL fs).length≤64:=by
  rw[dirL_len,Sp.sort_len]
  unfold dirtP
  rw[List.length_map]
  exact Nat.le_trans (List.length_filter_le _ _) hnf.2
 have HWF:=Hq hW
 clear hX hW h
 generalize StOut X w=Q at HST HRT ⊢
 go_enter Tryz.func37,Tryz.ntmps37
 go_upto_region 1 with fail
 have H0:=nW2 w (stA s p) 36 #[(),(),(),"s",(),false,(),(),(),(),"","s",(),"s",()] 36
 obtain⟨W0,hW0⟩:=exW H0
 rw[← hW0]at H0 ⊢
 clear hW0
 go_upto_region 2 with(first|(with_reducible refine lL H0.out.get0 Tryz.underlying36 ?_)|(with_reducible refine sN (stA s p) ?_))
 have hb1:=allocB W0 (.cells (stA s p) 36)
 have H1:=Hq (H0.out.step hb1)
 have HG1:=Hq (heap_alloc_new W0 (.cells (stA s p) 36))
 have hlt:w.heap.size+1<W0.heap.size:=H0.out.lt (i:=1) (by simp)
 obtain⟨g,hg⟩:=ex W0.heap.size
 obtain⟨w1,hw1⟩:=ex (W0.alloc (.cells (stA s p) 36))
 rw[← hg,← hw1]at HG1
 rw[← hw1]at H1
 rw[← hw1,← hg]
 rw[← hg]at hlt
 clear hw1 hg hb1 H0
 try simp only[Act.put]
 have HDJ:=Hq (HDI.out w1 H1.out.below)
 clear HDI
 unfold DiOut at HDJ
 generalize dirL fs=dl at HDJ hX2 hdl
 have HX2:=Hq hX2
 clear hX2
 go_upto_region 3 with(first|(with_reducible refine lL H1.out.get0 Tryz.underlying36 ?_)|(go_at_call 84;(refine HDJ.out.mono ?_);rintro e w2 ⟨DD,dc,rfl,hdr,hdn,hb2⟩))
 have H2:=Hq (H1.out.step hb2)
 have HG2:=Hq (blkOld HG1.out hb2)
 have HP2:=Hq (HP.out.below H2.out.below)
 have HDR:=Hq hdr
 have HDN:=Hq hdn
 clear hb2 hdr hdn H1 HG1 HDJ
 go_loopw [13] (fun i wr=>∃ (k:Nat) (s1:Tx.St) (q1:SP) (fs1:List Fr),k≤dl.length∧i= .int .i64 (k:Int)∧BxL w.heap.size w [((stA s p),36),(#[(),(),(),"s",(),false,(),(),(),(),"","s",(),"s",()],36)] wr∧wr.heap[g]? =some (.cells (stA s1 q1) 36 (0,0))∧PoolR wr s1 q1 fs1∧Wf N n B s1 fs1∧allL s fs ((dl.drop k).map (·.page)) s1 fs1=X∧DiR wr DD dc dl∧NewT 0 wr 138 DD) (fun i _=>dl.length-(intOf i).toNat)
 case atStart=>exact⟨0,s,p,fs,Nat.zero_le _,rfl,H2.out,HG2.out,HP2.out,HWF.out,HX2.out,HDR.out,HDN.out⟩
 case round=>
  clear H2 HG2 HP2 HWF HX2 HDR HDN
  obtain⟨k,s1,q1,fs1,hk,rfl,hbx,hg1,hp1,hw1,hx1,hd1,hd2⟩:=hrel
  have HBX:=Hq hbx
  have HG:=Hq hg1
  have HPR:=Hq hp1
  have HWF:=Hq hw1
  have HDR:=Hq hd1
  have HDN:=Hq hd2
  clear hbx hg1 hp1 hw1 hd2
  have hk0:(0:Int)≤(k:Int):=by omega
  by_cases hlt2:k<dl.length
  ·have hki:(k:Int)<(dl.length:Int):=by omega
   have hwk:IntKind.i64.wrap ((k:Int)+1)=(k:Int)+1:=IntWalk.i64_in _ (by omega)
   rw[List.drop_eq_getElem_cons hlt2,List.map_cons]at hx1
   obtain⟨b,off,hpD,hcc,hbl,hcell⟩:=read_at diC_len hd1 hlt2
   obtain⟨d,hde⟩:=ex (dl[k])
   rw[← hde]at hcell hx1
   have HPD:=Hq hpD
   rw[hpD]
   have HC0:=Hq (show wr.rangeAt b (off+k*2) (diC d)from hcell)
   have HX1:=Hq (show(if(FlushF s1 fs1 d.page).e=0 then allL s fs ((dl.drop (k+1)).map (·.page)) (FlushF s1 fs1 d.page).s (FlushF s1 fs1 d.page).fs else backF s fs (FlushF s1 fs1 d.page))=X from hx1)
   have HWY:=Hq (HWF.out.Flush d.page)
   have HFU:=Hq (fun W (hb:Below wr.heap.size wr W)=>pfFlush_any s1 q1 fs1 HWF.out d.page W (HPR.out.below hb))
   clear hcell hcc hbl hd1 hx1 hde
   generalize FlushF s1 fs1 d.page=Y at HX1 HWY HFU
   obtain⟨ys,yfs,ye⟩:=Y
   simp only at HX1 HWY
   go_upto_region 5 with(first
    |(refine listWants Kr fun K hK=>wp_load_mid 138 (.tmp 15) rfl b (off+k*2) rfl (diC d) _ HC0.out Tryz.underlying138 Kr Kr (hK _ _ ?_))
    |(with_reducible refine sN #[d.page,d.from_] ?_))
   have hb5:=allocB wr (.cells #[d.page,d.from_] 138)
   have H5:=Hq (HBX.out.step hb5)
   have HG5:=Hq (blkOld HG.out hb5)
   have HF5:=Hq (heap_alloc_new wr (.cells #[d.page,d.from_] 138))
   have HB5:=Hq hb5
   obtain⟨g2,hg2⟩:=ex wr.heap.size
   obtain⟨w5,hw5⟩:=ex (wr.alloc (.cells #[d.page,d.from_] 138))
   rw[← hg2,← hw5]at HF5
   rw[← hw5]at H5 HG5 HB5
   rw[← hw5,← hg2]
   clear hw5 hg2 hb5 HBX HG HC0
   try simp only[Act.put]
   have hcd:=show w5.cell? ⟨g2,0,none⟩=some (.int .i64 d.page)from by rw[blkCell HF5.out];rfl
   go_upto_region 6 with(first
    |(with_reducible refine lL HG5.out Tryz.underlying36 ?_)
    |(go_at_call 36;(refine(HFU.out _ HB5.out).mono ?_);rintro e w6 ⟨q6,rfl,hp6,hb6⟩)
    |(with_reducible refine sN (stA ys q6) ?_))
   have hb7:=hb6.trans ((allocB w6 (.cells (stA ys q6) 36)).mono hb6.size)
   have H7:=Hq (H5.out.step hb7)
   have HG7:=Hq (blkOld HG5.out hb7)
   have HF7:=Hq (heap_alloc_new w6 (.cells (stA ys q6) 36))
   have HP7:=Hq (hp6.below (allocB w6 (.cells (stA ys q6) 36)))
   have HB7:=Hq (joinB HB5.out hb7)
   have hg6:g<w6.heap.size:=Nat.lt_of_lt_of_le (heapLt HG5.out) hb6.size
   obtain⟨g3,hg3⟩:=ex w6.heap.size
   obtain⟨w7,hw7⟩:=ex (w6.alloc (.cells (stA ys q6) 36))
   rw[← hg3,← hw7]at HF7
   rw[← hw7]at H7 HG7 HP7 HB7
   rw[← hw7,← hg3]
   rw[← hg3]at hg6
   clear hw7 hg3 hb6 hb7 H5 HG5 HF5 HB5 hp6 HFU hcd
   try simp only[Act.put]
   go_upto_region 7 with(first|(with_reducible refine lL HF7.out Tryz.underlying36 ?_)|(with_reducible refine lS (stA ys q6) HG7.out ?_))
   have HDR8:=Hq (show DiR (w7.setRow g (stA ys q6)) DD dc dl from(HDN.out.below HB7.out).readsRow (HDR.out.below HB7.out) HG7.out (by decide) (stA ys q6))
   have HDN8:=Hq ((HDN.out.below HB7.out).row g (stA ys q6))
   have H8:=Hq (H7.out.under (M:=g) (by simp;omega) (rowB (g:=g) (Nat.le_refl g) (show Below g w7 w7 from⟨rfl,rfl,rfl,Nat.le_refl _,fun _ _=>rfl⟩) (stA ys q6)))
   have HG8:=Hq (setRow_heap _ _ _ (stA ys q6) _ _ HG7.out)
   have HP8:=Hq (HP7.out.other (t:=36) HG7.out (by decide) (by decide) (by decide) (stA ys q6))
   generalize w7.setRow g (stA ys q6)=w8 at HDR8 HDN8 H8 HG8 HP8 ⊢
   clear H7 HG7 HF7 HP7 HB7 HDR
   try simp only[Act.put]
   by_cases hye:ye=0
   ·have hyb:(ye != 0)=false:=by rw[hye];rfl
    have hx9:=HX1.out
    rw[if_pos hye]at hx9
    have HX9:=Hq hx9
    clear hx9 hye HX1
    go_wp2_with fail
    go_roundw
    case rel=>exact⟨k+1,ys,q6,yfs,by omega,by go_num,H8.out,HG8.out,HP8.out,HWY.out.1,HX9.out,(by rw[← HPD.out];exact HDR8.out),(by rw[← HPD.out];exact HDN8.out)⟩
    case measure=>simp[intOf];omega
   ·have hyb:(ye != 0)=true:=by rw[bne_iff_ne];exact hye
    have hx9:=HX1.out
    rw[if_neg hye]at hx9
    have HX9:=Hq hx9.symm
    clear hx9 hye HX1
    by_cases hy2:ye=0∨ye=20
    ·have HBA:=Hq (fun W=>show Calls Tryz.prog 83 #[storeV s p,storeV ys q6,ye] W fun e w'=>e= .returned (storeV ys q6)∧Below W.heap.size W w' from by
      have h0:=pfback_any s p ys q6 ye W
      rw[if_pos hy2]at h0
      exact h0)
     have HXF:=Hq (show X=⟨ys,yfs,ye⟩from by rw[HX9.out];unfold backF;rw[if_pos hy2])
     clear hy2 HX9
     go_wp2_with (first
      |(with_reducible refine lL H8.out.get0 Tryz.underlying36 ?_)
      |(with_reducible refine lL HG8.out Tryz.underlying36 ?_)
      |(go_at_call 83;(refine(HBA.out _).mono ?_);rintro e w9 ⟨rfl,hb9⟩;have H9:=Hq (H8.out.step hb9))
      |(with_reducible refine lS (stA ys q6) H9.out.get1 ?_))
     refine bodyPost_ret (v:=.tuple #[.agg (stA ys q6),ye]) (results_cell2 rfl _ _ rfl (load_whole (setRow_heap _ _ _ _ _ _ H9.out.get1) Tryz.underlying36 Kr Kr) rfl) rfl ?_
     exact HRT.out _ HXF.out _ q6 ((HP8.out.below hb9).other (t:=36) H9.out.get1 (by decide) (by decide) (by decide) _) (H9.out.row 1 (stA ys q6) _ rfl).below
    ·have HBA:=Hq (fun W=>show Calls Tryz.prog 83 #[storeV s p,storeV ys q6,ye] W fun e w'=>e= .returned (storeV s p)∧Below W.heap.size W w' from by
      have h0:=pfback_any s p ys q6 ye W
      rw[if_neg hy2]at h0
      exact h0)
     have HXF:=Hq (show X=⟨s,fs,ye⟩from by rw[HX9.out];unfold backF;rw[if_neg hy2])
     clear hy2 HX9
     go_wp2_with (first
      |(with_reducible refine lL H8.out.get0 Tryz.underlying36 ?_)
      |(with_reducible refine lL HG8.out Tryz.underlying36 ?_)
      |(go_at_call 83;(refine(HBA.out _).mono ?_);rintro e w9 ⟨rfl,hb9⟩;have H9:=Hq (H8.out.step hb9))
      |(with_reducible refine lS (stA s p) H9.out.get1 ?_))
     refine bodyPost_ret (v:=.tuple #[.agg (stA s p),ye]) (results_cell2 rfl _ _ rfl (load_whole (setRow_heap _ _ _ _ _ _ H9.out.get1) Tryz.underlying36 Kr Kr) rfl) rfl ?_
     exact HST.out _ (H9.out.row 1 (stA s p) _ rfl).below ye HXF.out
  ·obtain rfl:k=dl.length:=by omega
   have HXF:=Hq (show X=⟨s1,fs1,0⟩from by rw[← hx1,List.drop_length];rfl)
   clear hd1 hx1 hlt2
   go_wp2_with (first|(with_reducible refine lL HG.out Tryz.underlying36 ?_)|(with_reducible refine lS (stA s1 q1) HBX.out.get1 ?_))
   refine bodyPost_ret (v:=.tuple #[.agg (stA s1 q1),()]) (results_cell2 rfl _ _ rfl (load_whole (setRow_heap _ _ _ _ _ _ HBX.out.get1) Tryz.underlying36 Kr Kr) rfl) rfl ?_
   exact HRT.out _ HXF.out _ q1 (HPR.out.other (t:=36) HBX.out.get1 (by decide) (by decide) (by decide) _) (HBX.out.row 1 (stA s1 q1) _ rfl).below
end Go.Proofs.YtmfkhdhnbkambaaGreatDoor
