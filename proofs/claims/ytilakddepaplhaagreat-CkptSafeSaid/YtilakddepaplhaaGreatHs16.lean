import Derived.Test.YtilakddepaplhaaGreatHb00
import Derived.Test.YtilakddepaplhaaGreatHs15
import Derived.Test.YtilakddepaplhaaGreatHb01
import Derived.Test.YtilakddepaplhaaGreatHb02
import Derived.Laws.MakeOwn
import Derived.Test.YtilakddepaplhaaGreatHb08
import Derived.Test.YtilakddepaplhaaGreatHs14
import Derived.Test.YtilakddepaplhaaGreatHb13
import Derived.Test.YtilakddepaplhaaGreatHb07
import Derived.BigRegion
import Derived.Test.YtilakddepaplhaaGreatHb12
set_option maxRecDepth 100000
set_option maxHeartbeats 16000000
set_option linter.unusedSimpArgs false
namespace Go.Proofs.YtilakddepaplhaaGreat
open Go.RowKit Go.Sort Go.Shelf
def Grew (w w':World):Prop:=∃ (q:Nat) (os:Array Obj),w'=Go.Sort.grow (w.drewN q) os
theorem Grew.refl (w:World):Grew w w:=⟨0,#[],by rw[Go.Sort.grow_empty];rfl⟩
theorem Grew.trans {u v w:World}(h:Grew u v)(k:Grew v w):Grew u w:=by
 obtain⟨q,os,rfl⟩:=h
 obtain⟨q',os',rfl⟩:=k
 refine⟨q+q',os++os',?_⟩
 show Go.Sort.grow (Go.Sort.grow ((u.drewN q).drewN q') os) os'=_
 rw[Go.Sort.grow_grow,World.drewN_drewN]
theorem Grew.drew {u v:World}(h:Grew u v):Grew u v.drew:=h.trans ⟨1,#[],by rw[Go.Sort.grow_empty];rfl⟩
theorem Grew.alloc {u v:World}(h:Grew u v)(o:Obj):Grew u (v.alloc o):=h.trans ⟨0,#[o],by rw[Go.Sort.alloc_eq_grow];rfl⟩
theorem Grew.below {u v:World}(h:Grew u v):Below u.heap.size u v:=by
 obtain⟨q,os,rfl⟩:=h
 refine⟨rfl,rfl,rfl,?_,fun k hk=>?_⟩
 ·show u.heap.size≤(u.heap++os).size;rw[Array.size_append];omega
 ·show(u.heap++os)[k]? =u.heap[k]?
  rw[Array.getElem?_append_left hk]
section
variable {α : Type} {enc : α → List Value} {k : Nat} {e : TypeId} {B g c : Nat} {w : World} {l : List α} [Inhabited α]
theorem flat_get (hk:∀ x,(enc x).length=k)(l:List α)(t:Nat)(ht:t<l.length*k):(l.flatMap enc)[t]? =some (flatK enc k l.toArray)[t]! :=by
 have hk0:0<k:=by rcases Nat.eq_zero_or_pos k with h|h;(· subst h;omega);(· exact h)
 have hd:t/k<l.length:=by rw[Nat.div_lt_iff_lt_mul hk0];exact ht
 have hm:t%k<k:=Nat.mod_lt _ hk0
 rw[get_flatK enc k l.toArray t (by simpa using ht)]
 have e1:t=t/k*k+t%k:=by rw[Nat.mul_comm];exact(Nat.div_add_mod t k).symm
 conv=>lhs;rw[e1,flat_at hk l (t/k) (t%k) hd hm]
 have e2:l.toArray[t/k]! =l[t/k]:=by simp[hd]
 rw[e2,List.getElem!_eq_getElem?_getD,List.getElem?_eq_getElem (by rw[hk];exact hm)]
 rfl
theorem own_holds (hk:∀ x,(enc x).length=k)(ho:OwnL enc k e B w (.slice (some ⟨g,0,none⟩) l.length c) l):HoldsK enc k w g 0 l.toArray:=by
 obtain⟨cur,hB,hg,hh,hn,hc,hs,ht⟩:=own_blk ho
 intro j hj
 rw[size_flatK,List.size_toArray]at hj
 refine⟨?_,blkFrozen hh _⟩
 rw[blkCell hh,Nat.zero_add,ht j hj,flat_get hk l j hj]
 rfl
theorem own_sorted (hk:∀ x,(enc x).length=k)(ho:OwnL enc k e B w (.slice (some ⟨g,0,none⟩) l.length c) l)(l':List α)(hl:l'.length=l.length)(n:Nat)(os:Array Obj):
 OwnL enc k e B (sortWorldK enc k w g 0 n l'.toArray os) (.slice (some ⟨g,0,none⟩) l.length c) l'∧Below B w (sortWorldK enc k w g 0 n l'.toArray os):=by
 obtain⟨cur,hB,hg,hh,hn,hc,hs,ht⟩:=own_blk ho
 have hlc:l.length*k≤c*k:=Nat.mul_le_mul_right _ hn
 have hblk:(sortWorldK enc k w g 0 n l'.toArray os).heap[g]? =some (.cells (putCells id 0 (flatK enc k l'.toArray) cur) e (0,0)):=by
  show(w.heap.modify g _++os)[g]? =_
  rw[Array.getElem?_append_left (by rw[Array.size_modify];exact hg),Array.getElem?_modify,if_pos rfl,hh]
  rfl
 refine⟨?_,⟨rfl,rfl,rfl,?_,fun j hj=>?_⟩⟩
 ·rw[← hl]
  refine own_mk hk hB hblk (by rw[hl];exact hn) hc (by unfold putCells;rw[Array.size_mapIdx];exact hs) (fun t h=>?_)
  rw[hl]at h
  unfold putCells
  rw[Array.getElem?_mapIdx,Array.getElem?_eq_getElem (by omega),Option.map_some,size_flatK,List.size_toArray,if_pos ⟨Nat.zero_le _,by rw[hl];omega⟩,flat_get hk l' t (by rw[hl];exact h)]
  rfl
 ·show w.heap.size≤(w.heap.modify g _++os).size
  rw[Array.size_append,Array.size_modify];omega
 ·show(w.heap.modify g _++os)[j]? =_
  rw[Array.getElem?_append_left (by rw[Array.size_modify];omega),Array.getElem?_modify,if_neg (by omega)]
end
theorem tot_swo {α:Type}{o:α→α→Int}(t:Sp.Tot o):SWO (ltOf o):=by
 refine⟨fun x=>by simp[ltOf,t.self],fun x y z h1 h2=>?_,fun x y z h1 h2=>?_⟩
 ·simp only[ltOf,decide_eq_true_eq]at*
  exact t.trans h1 h2
 ·simp only[ltOf,decide_eq_false_iff_not]at*
  have n1:=t.neg x y;have n2:=t.neg y z;have n3:=t.neg x z
  have:=t.le_trans (a:=z) (b:=y) (c:=x) (by omega) (by omega)
  omega
theorem tot_eq {α:Type}{o:α→α→Int}(t:Sp.Tot o)(x y:α)(h1:(ltOf o) x y=false)(h2:(ltOf o) y x=false):x=y:=by
 simp only[ltOf,decide_eq_false_iff_not]at*
 exact t.anti (by have:=t.neg x y;omega) (by have:=t.neg x y;omega)
theorem totI:Sp.Tot Lib.compareInt:=⟨Sp.ci_neg,fun h=>Sp.ci_zero.1 h,fun h k=>by rw[Sp.ci_lt]at*;omega⟩
def isD (f:Fr):Bool:=decide (f.bytes.size≠0)&&decide (f.rc≠0)
def dirtP (fs:List Fr):List Int:=(fs.filter isD).map (·.page)
def rcOf (fs:List Fr)(p:Int):Int:=((fs.find? (fun f=>isD f&&decide (f.page=p))).map (·.rc)).getD 0
def edC (rf:Int→Int)(p:Int):List Value:=[.int .i64 p,.int .i64 (rf p)]
theorem edC_len (rf:Int→Int)(p:Int):(edC rf p).length=2:=rfl
theorem edC_one (rf:Int→Int)(p:Int):∀ u∈edC rf p,u.oneCell'=true:=by
 intro u hu
 simp only[edC,List.mem_cons,List.not_mem_nil,or_false]at hu
 rcases hu with rfl|rfl<;>rfl
def dirL (fs:List Fr):List Rc.DirtyAt:=(Sp.sortO Lib.compareInt (dirtP fs)).map (fun p=>⟨p,rcOf fs p⟩)
theorem dirL_len (fs:List Fr):(dirL fs).length=(Sp.sortO Lib.compareInt (dirtP fs)).length:=by unfold dirL;rw[List.length_map]
theorem dirL_flat (fs:List Fr):(dirL fs).flatMap diC=(Sp.sortO Lib.compareInt (dirtP fs)).flatMap (edC (rcOf fs)):=by unfold dirL;rw[List.flatMap_map];rfl
theorem isD_iff {f:Fr}:isD f=true↔f.bytes≠⟨#[]⟩∧f.rc≠0:=by
 unfold isD
 rw[Bool.and_eq_true,decide_eq_true_iff,decide_eq_true_iff]
 constructor
 ·rintro⟨h1,h2⟩
  exact⟨fun h=>h1 (by rw[h];rfl),h2⟩
 ·rintro⟨h1,h2⟩
  exact⟨fun h=>h1 (ByteArray.ext (Array.eq_empty_of_size_eq_zero h)),h2⟩
theorem rc_at {fs:List Fr}(h:FrI fs)(i:Nat)(hi:i<fs.length)(hd:isD fs[i]=true):rcOf fs fs[i].page=fs[i].rc:=by
 unfold rcOf
 cases hf:fs.find? (fun f=>isD f&&decide (f.page=fs[i].page))with
 |none=>
  have h1:=List.find?_eq_none.1 hf fs[i] (List.getElem_mem hi)
  rw[hd]at h1
  simp at h1
 |some x=>
  have h1:=List.find?_some hf
  have h2:=List.mem_of_find?_eq_some hf
  rw[Bool.and_eq_true,decide_eq_true_iff]at h1
  obtain⟨j,hj,rfl⟩:=List.getElem_of_mem h2
  by_cases hij:i=j
  ·subst hij;rfl
  ·exact absurd h1.2.symm (h.ds i j hi hj hij (isD_iff.1 hd).1 (isD_iff.1 h1.1).1)
theorem dirtP_take (fs:List Fr)(k:Nat)(hk:k<fs.length):(isD fs[k]=true→dirtP (fs.take (k+1))=dirtP (fs.take k)++[fs[k].page])∧(isD fs[k]=false→dirtP (fs.take (k+1))=dirtP (fs.take k)):=by
 unfold dirtP
 rw[List.take_succ_eq_append_getElem hk,List.filter_append,List.map_append]
 exact⟨fun h=>by rw[List.filter_cons_of_pos h];rfl,fun h=>by rw[List.filter_cons_of_neg (by rw[h];simp)];simp⟩
theorem dirtP_len (fs:List Fr)(k:Nat):(dirtP (fs.take k)).length≤k:=by
 unfold dirtP
 rw[List.length_map]
 exact Nat.le_trans (List.length_filter_le _ _) (by rw[List.length_take];omega)
def DiOut (fs:List Fr)(w:World)(e:Ending)(w':World):Prop:=∃ A c,e= .returned (.slice A (dirL fs).length c)∧DiR w' A c (dirL fs)∧Below w.heap.size w w'
theorem cpfree_any (f:Fr)(w:World):Calls Tryz.prog 44 #[.agg (frA f)] w fun e w'=>∃ q:Bool,e= .returned (.bool q)∧(q=true↔f.bytes=⟨#[]⟩)∧Below w.heap.size w w':=by
 by_cases hb:f.bytes=⟨#[]⟩
 ·have hbz:=str_nil
  go_enter Tryz.func44,Tryz.ntmps44
  go_upto_region 1 with fail
  have H0:=nW1 w (frA f) 81
  obtain⟨W0,hW0⟩:=exW H0
  rw[← hW0]at H0 ⊢
  clear hW0
  have hc:=show W0.cell? ⟨w.heap.size,1,none⟩=some (.string ⟨#[]⟩)from by rw[blkCell H0.out.get0,← hb];rfl
  have HB:=Hq hb
  clear hb
  go_wp2_with fail
  go_ret
  exact⟨true,by simp,⟨fun _=>HB.out,fun _=>rfl⟩,H0.out.below⟩
 ·obtain⟨h1,h2,h3⟩:=str_ne hb
  go_enter Tryz.func44,Tryz.ntmps44
  go_upto_region 1 with fail
  have H0:=nW1 w (frA f) 81
  obtain⟨W0,hW0⟩:=exW H0
  rw[← hW0]at H0 ⊢
  clear hW0
  have hc:=show W0.cell? ⟨w.heap.size,1,none⟩=some (.string f.bytes)from by rw[blkCell H0.out.get0];rfl
  go_wp2_with fail
  go_ret
  exact⟨false,by simp,⟨(fun h=>by cases h),fun h=>absurd h hb⟩,H0.out.below⟩
theorem dcmp_any (rf:Int→Int)(a b:Int)(w:World):Calls Tryz.prog 46 #[.agg (edC rf a).toArray,.agg (edC rf b).toArray] w fun e w'=>e= .returned (.int .i64 (Lib.compareInt a b))∧Grew w w':=by
 show Calls Tryz.prog 46 #[.agg #[a,.int .i64 (rf a)],.agg #[b,.int .i64 (rf b)]] w _
 have G0:=Hq (((Grew.refl w).alloc (.cells #[a,.int .i64 (rf a)] 94)).alloc (.cells #[b,.int .i64 (rf b)] 94))
 go_enter Tryz.func46,Tryz.ntmps46
 go_upto_region 1 with fail
 have H0:=nW2 w #[a,.int .i64 (rf a)] 94 #[b,.int .i64 (rf b)] 94
 obtain⟨W0,hW0⟩:=exW H0
 rw[← hW0]at H0 G0 ⊢
 clear hW0
 have hc0:=show W0.cell? ⟨w.heap.size,0,none⟩=some (.int .i64 a)from by rw[blkCell H0.out.get0];rfl
 have hc1:=show W0.cell? ⟨w.heap.size+1,0,none⟩=some (.int .i64 b)from by rw[blkCell H0.out.get1];rfl
 go_wp2_with (go_at_call 47;(with_reducible refine(Tryz.cmpI _ _ _).mono ?_);rintro e w2 ⟨rfl,rfl⟩)
 go_ret
 exact⟨by simp,G0.out⟩
theorem sortD_any (rf:Int→Int)(l:List Int)(hl:l.length≤1000000)(B:Nat)(v:Value)(w:World)(ho:OwnL (edC rf) 2 94 B w v l)(hB:B≤w.heap.size):
 Calls Tryz.prog 45 #[v,.func (.func 46) #[] #[]] w fun e w'=>e= .returned (.tuple #[])∧OwnL (edC rf) 2 94 B w' v (Sp.sortO Lib.compareInt l)∧Below B w w':=by
 have h2:=ho.2
 rcases h2 with⟨rfl,h0⟩|⟨g,cap,cur,rfl,_⟩
 ·have hl0:l=[]:=List.eq_nil_of_length_eq_zero h0
  subst hl0
  refine(AnyF.slices_SortFunc_none Tryz.sortD none 0 (.func (.func 46) #[] #[]) w).mono ?_
  rintro e w' ⟨rfl,rfl⟩
  exact⟨rfl,by simpa[Sp.sortO]using ho,Below.refl _ _⟩
 ·have hO:=own_holds (k:=2) (edC_len rf) ho
  obtain⟨cur',_,hg,hh,_⟩:=own_blk ho
  have h:=AnyQ.slices_SortFunc_total Tryz.sortD 2 Tryz.isAgg94 Tryz.sizeOf94 (edC rf) (edC_len rf) (edC_one rf) Lib.compareInt (tot_swo totI) 46 #[] g 0 cap l.toArray w (enters_of Tryz.func46 Kr rfl) (fun m os dk hs x y=>(dcmp_any rf x y _).mono (fun e w' h=>⟨h.1,h.2⟩)) hO hg (by simp;omega) (tot_eq totI)
  simp only[List.size_toArray]at h
  refine Calls.mono h ?_
  rintro e w' ⟨rfl,n,os,rfl⟩
  have hs:=own_sorted (edC_len rf) ho (Sp.sortO Lib.compareInt l) (Sp.sort_len _ _) n os
  refine⟨rfl,?_,hs.2⟩
  show World.ownsRow _ B 94 2 _ (Sp.sortO Lib.compareInt l).length _
  rw[Sp.sort_len]
  have h3:=hs.1
  unfold OwnL at h3
  rw[Sp.sort_len]at h3
  exact h3
theorem cpdirty_any (s:Tx.St)(p:SP)(fs:List Fr)(hf:FrI fs)(w:World)(h:PoolR w s p fs):
 Calls Tryz.prog 18 #[storeV s p] w (DiOut fs w):=by
 have HFN:=Hq h.fn
 have HR:=Hq h.fr
 have HLF:=Hq (show fs.length≤4 from by rw[hf.n4];exact Nat.le_refl _)
 have HDF:=Hq (dirL_flat fs)
 have HDL:=Hq (dirL_len fs)
 obtain⟨rf,hrf⟩:=ex (rcOf fs)
 have HRC:=Hq (show ∀ i (hi:i<fs.length),isD fs[i]=true→rf fs[i].page=fs[i].rc from fun i hi hd=>by rw[hrf];exact rc_at hf i hi hd)
 rw[← hrf]at HDF
 clear h hf hrf
 go_enter Tryz.func18,Tryz.ntmps18
 go_upto_region 1 with fail
 have H0:=nW1 w (stA s p) 37
 obtain⟨W0,hW0⟩:=exW H0
 rw[← hW0]at H0 ⊢
 clear hW0
 have hc:=show W0.cell? ⟨w.heap.size,11,none⟩=some (.slice p.F fs.length p.fc)from by rw[blkCell H0.out.get0,← HFN.out];rfl
 have HGE:=Hq (show w.heap.size<W0.heap.size from H0.out.lt (i:=0) (by simp))
 go_wp2_with fail
 clear hc
 go_loopw [3,10] (fun v i wr=>∃ k:Nat,k≤fs.length∧i= .int .i64 k∧OwnL (edC rf) 2 94 W0.heap.size wr v (dirtP (fs.take k))∧BxL w.heap.size w [((stA s p),37)] wr∧W0.heap.size≤wr.heap.size) (fun _ i _=>fs.length-(intOf i).toNat)
 case atStart=>exact⟨0,Nat.zero_le _,rfl,ownNil _ _ _ _,H0.out,Nat.le_refl _⟩
 case round=>
  clear H0
  obtain⟨k,hk,rfl,ho,hbx,hge⟩:=hrel
  have HO:=Hq ho
  have HBX:=Hq hbx
  have HGW:=Hq hge
  clear ho hbx hge
  have hk0:(0:Int)≤(k:Int):=by omega
  by_cases hlt:k<fs.length
  ·obtain⟨b,off,hpF,hcc,hbl,hcell⟩:=read_at frL_len (HR.out.below HBX.out.below) hlt
   have hki:(k:Int)<(fs.length:Int):=by omega
   have hwk:IntKind.i64.wrap ((k:Int)+1)=(k:Int)+1:=IntWalk.i64_in _ (by have:=HLF.out;omega)
   have HTK:=Hq (dirtP_take fs k hlt)
   have HRK:=Hq (HRC.out k hlt)
   have hsb:(dirtP (fs.take k)).length≤4:=by have:=HLF.out;have:=dirtP_len fs k;omega
   obtain⟨S2,hS2⟩:=ex (dirtP (fs.take (k+1)))
   rw[← hS2]at HTK
   have HS2:=Hq hS2
   clear hS2
   generalize dirtP (fs.take k)=S at HTK hsb HO ⊢
   generalize fs[k]=f at HTK HRK hcell
   have HC0:=Hq (show wr.rangeAt b (off+k*5) (frL f)from hcell)
   rw[hpF]
   clear hcell hcc hbl hpF
   obtain⟨OA,oc,rfl⟩:=ownLen HO.out
   go_upto_region 5 with(first
    |(refine listWants Kr fun K hK=>wp_load_mid 81 (.tmp 12) rfl b (off+k*5) rfl (frL f) _ HC0.out Tryz.underlying81 Kr Kr (hK _ _ ?_))
    |(with_reducible refine sN (frA f) ?_))
   have hb5:=allocB wr (.cells (frA f) 81)
   have H5:=Hq (HBX.out.step hb5)
   have HG5:=Hq (heap_alloc_new wr (.cells (frA f) 81))
   have HO5:=Hq (ownBelow HO.out hb5)
   have H5L:=Hq (Nat.le_trans HGW.out hb5.size)
   obtain⟨gf,hgf⟩:=ex wr.heap.size
   obtain⟨w5,hw5⟩:=ex (wr.alloc (.cells (frA f) 81))
   rw[← hgf,← hw5]at HG5
   rw[← hw5]at H5 HO5 H5L
   rw[← hw5,← hgf]
   clear hw5 hgf hb5 HBX HO HC0 HGW
   try simp only[Act.put]
   have HFE:=Hq (cpfree_any f w5)
   by_cases hd:isD f=true
   ·obtain⟨hd1,hd2⟩:=isD_iff.1 hd
    have hq4:(f.rc != 0)=true:=bne_iff_ne.2 hd2
    have HE:=Hq (HTK.out.1 hd)
    have HRF:=Hq (HRK.out hd)
    have HND:=Hq hd1
    clear HTK HRK hd hd1 hd2
    obtain⟨pg,hpg⟩:=ex f.page
    have HPG:=Hq hpg
    rw[← hpg]at HE HRF
    clear hpg
    go_upto_region 6 with(first
     |(with_reducible refine lL HG5.out Tryz.underlying81 ?_)
     |(go_at_call 44;(refine HFE.out.mono ?_);rintro e w6 ⟨q,rfl,hq,hb6⟩;obtain rfl:q=false:=(by cases q with|true=>exact absurd (hq.1 rfl) HND.out|false=>rfl);clear hq;have HG6:=Hq (blkOld HG5.out hb6);have H6:=Hq (H5.out.step hb6);have HO6:=Hq (ownBelow HO5.out hb6);have H6L:=Hq (Nat.le_trans H5L.out hb6.size);have hc4:=show w6.cell? ⟨gf,4,none⟩=some (.int .i64 f.rc)from(by rw[blkCell HG6.out];rfl)))
    clear hc4
    have hg0:=show w6.cell? ⟨gf,0,none⟩=some (.int .i64 pg)from by rw[blkCell HG6.out,HPG.out];rfl
    have hg4:=show w6.cell? ⟨gf,4,none⟩=some (.int .i64 (rf pg))from by rw[blkCell HG6.out,HRF.out];rfl
    go_wp2_with (at_builtin;refine wpList_push Kr (.tmp 22) (.tmp 28) 53 94 Tryz.underlying53 info_dirty rfl (by omega) (by omega) rfl W0.heap.size _ S.length (S.flatMap (edC rf)) rfl (ownBelow HO6.out (allocB _ _)) w6.heap.size (edC rf pg) 94 rfl (heap_alloc_new w6 _) rfl (edC_one rf pg) (by omega) (Nat.le_trans H6L.out (allocB w6 _).size) ?_;intro v7 w7 ho7 hg7 hb7)
    go_roundw
    case rel=>exact⟨k+1,by omega,by go_num,by rw[← HS2.out,HE.out];exact OwnL.push (enc:=edC rf) (x:=pg) ho7,(H6.out.step (allocB w6 _)).under (M:=W0.heap.size) (by have:=HGE.out;simp;omega) hb7,Nat.le_trans (Nat.le_trans H6L.out (allocB w6 (.cells #[pg,.int .i64 (rf pg)] 94)).size) hb7.size⟩
    case measure=>simp[intOf];omega
   ·have HE:=Hq (HTK.out.2 (Bool.eq_false_iff.2 hd))
    clear HTK HRK
    by_cases hb0:f.bytes=⟨#[]⟩
    ·have HB0:=Hq hb0
     clear hd hb0
     go_wp2_with (first
      |(with_reducible refine lL HG5.out Tryz.underlying81 ?_)
      |(go_at_call 44;(refine HFE.out.mono ?_);rintro e w6 ⟨q,rfl,hq,hb6⟩;obtain rfl:q=true:=hq.2 HB0.out;clear hq;have H6:=Hq (H5.out.step hb6);have HO6:=Hq (ownBelow HO5.out hb6);have H6L:=Hq (Nat.le_trans H5L.out hb6.size)))
     go_roundw
     case rel=>exact⟨k+1,by omega,by go_num,by rw[← HS2.out,HE.out];exact HO6.out,H6.out,H6L.out⟩
     case measure=>simp[intOf];omega
    ·have HR0:=Hq (show f.rc=0 from by
      by_cases hr:f.rc=0
      ·exact hr
      ·exact absurd (isD_iff.2 ⟨hb0,hr⟩) hd)
     have HB0:=Hq hb0
     clear hd hb0
     go_wp2_with (first
      |(with_reducible refine lL HG5.out Tryz.underlying81 ?_)
      |(go_at_call 44;(refine HFE.out.mono ?_);rintro e w6 ⟨q,rfl,hq,hb6⟩;obtain rfl:q=false:=(by cases q with|true=>exact absurd (hq.1 rfl) HB0.out|false=>rfl);clear hq;have H6:=Hq (H5.out.step hb6);have HO6:=Hq (ownBelow HO5.out hb6);have H6L:=Hq (Nat.le_trans H5L.out hb6.size);have HG6:=Hq (blkOld HG5.out hb6);have hc4:=show w6.cell? ⟨gf,4,none⟩=some (.int .i64 0)from(by rw[blkCell HG6.out,← HR0.out];rfl)))
     go_roundw
     case rel=>exact⟨k+1,by omega,by go_num,by rw[← HS2.out,HE.out];exact HO6.out,H6.out,H6L.out⟩
     case measure=>simp[intOf];omega
  ·obtain rfl:k=fs.length:=by omega
   have ho:=HO.out
   rw[List.take_length]at ho
   have hl4:(dirtP fs).length≤1000000:=by have:=dirtP_len fs fs.length;rw[List.take_length]at this;have:=HLF.out;omega
   go_wp2_with (go_at_call 45;(refine(sortD_any rf (dirtP fs) hl4 W0.heap.size _ _ ho HGW.out).mono ?_);rintro e w8 ⟨rfl,ho8,hb8⟩)
   go_ret
   obtain⟨A8,c8,rfl⟩:=ownLen ho8
   refine⟨A8,c8,by rw[HDL.out];rfl,?_,(HBX.out.under (M:=W0.heap.size) (by have:=HGE.out;simp;omega) hb8).below⟩
   show Reads _ _ _ (dirL fs).length ((dirL fs).flatMap diC)
   rw[HDL.out,HDF.out]
   exact own_reads ho8
end Go.Proofs.YtilakddepaplhaaGreat
namespace Ck
open Lg
def placeL (n:Int):List UInt8:=Oct.putL (Oct.sumN (Oct.putL (Oct.word n) 6)) 4++Oct.putL (Oct.word n) 6
theorem placeL_len (n:Int):(placeL n).length=10:=by unfold placeL;rw[List.length_append,Oct.putL_length,Oct.putL_length]
def sectorB (n:Int):ByteArray:=pad128 (placeL n)
theorem sectorB_size (n:Int):(sectorB n).size=128:=pad128_size (by rw[placeL_len];omega)
def masterL (l:List UInt8):Int:=if Oct.getL (l.take 4)=Oct.sumN ((l.drop 4).take 6)then(Oct.getL ((l.drop 4).take 6):Int)else 0
def masterD (d:Dk):Int:=if(readD d 0).2≠0∨(readD d 0).1.size<10 then 0 else masterL (readD d 0).1.data.toList
def setD (d:Dk)(n:Int):Dk×Int:=if n<0∨1099511627776≤n then(d,1)else writeD d 0 (sectorB n)
theorem setD_no {d:Dk}{n:Int}(h:n<0∨1099511627776≤n):setD d n=(d,1):=by unfold setD;rw[if_pos h]
theorem setD_yes {d:Dk}{n:Int}(h:¬ (n<0∨1099511627776≤n)):setD d n=writeD d 0 (sectorB n):=by unfold setD;rw[if_neg h]
theorem masterD_no {d:Dk}(h:(readD d 0).2≠0∨(readD d 0).1.size<10):masterD d=0:=by unfold masterD;rw[if_pos h]
theorem masterD_yes {d:Dk}(h:¬ ((readD d 0).2≠0∨(readD d 0).1.size<10)):masterD d=masterL (readD d 0).1.data.toList:=by unfold masterD;rw[if_neg h]
theorem masterL_yes {l:List UInt8}(h:Oct.getL (l.take 4)=Oct.sumN ((l.drop 4).take 6)):masterL l=(Oct.getL ((l.drop 4).take 6):Int):=by unfold masterL;rw[if_pos h]
theorem masterL_no {l:List UInt8}(h:¬ Oct.getL (l.take 4)=Oct.sumN ((l.drop 4).take 6)):masterL l=0:=by unfold masterL;rw[if_neg h]
theorem sectorB_list (n:Int):(sectorB n).data.toList=placeL n++List.replicate 118 0:=by
 unfold sectorB pad128
 rw[placeL_len]
theorem master_sector (n:Int)(h0:0≤n)(h1:n<1099511627776):masterL (sectorB n).data.toList=n:=by
 have hw:((Oct.word n:Nat):Int)=n:=by unfold Oct.word;omega
 have hP:(Oct.putL (Oct.word n) 6).length=6:=Oct.putL_length _ _
 have hs:=Oct.sumN_lt (Oct.putL (Oct.word n) 6)
 have g6:Oct.getL (Oct.putL (Oct.word n) 6)=Oct.word n:=by rw[Oct.getL_putL,Nat.mod_eq_of_lt (by omega)]
 have hS:(Oct.putL (Oct.sumN (Oct.putL (Oct.word n) 6)) 4).length=4:=Oct.putL_length _ _
 have g4:Oct.getL (Oct.putL (Oct.sumN (Oct.putL (Oct.word n) 6)) 4)=Oct.sumN (Oct.putL (Oct.word n) 6):=by rw[Oct.getL_putL,Nat.mod_eq_of_lt (by omega)]
 have e:(sectorB n).data.toList=Oct.putL (Oct.sumN (Oct.putL (Oct.word n) 6)) 4++(Oct.putL (Oct.word n) 6++List.replicate 118 0):=by
  rw[sectorB_list];unfold placeL;rw[List.append_assoc]
 rw[e]
 unfold masterL
 rw[List.take_left' hS,List.drop_left' hS,List.take_left' hP,g4,g6,if_pos rfl,hw]
theorem set_master {d:Dk}{n:Int}(h:(setD d n).2=0):masterD (setD d n).1=n∧masterD (startD (setD d n).1)=n:=by
 by_cases hn:n<0∨1099511627776≤n
 ·rw[setD_no hn]at h
  exact absurd h (by show ¬ (1:Int)=0;decide)
 rw[setD_yes hn]at h ⊢
 have hm:=master_sector n (by omega) (by omega)
 unfold writeD at h ⊢
 split at h
 ·exact absurd h (by show ¬ (20:Int)=0;decide)
 rename_i hd
 rw[if_neg hd]
 split at h
 ·exact absurd h (by show ¬ (1:Int)=0;decide)
 rename_i hh
 rw[if_neg hh]
 split at h
 ·exact absurd h (by show ¬ (20:Int)=0;decide)
 rename_i hl
 rw[if_neg hl]
 have hh2:hasD d 0:=(Classical.not_not.1 hh).1
 have hlen:0<d.sectors.length:=by have:=hh2.2;omega
 have key:∀ (lf:Int) (dn:Bool),dn=false→masterD ⟨d.sectors.set 0 (sectorB n),lf,dn⟩=n:=by
  intro lf dn hdn
  subst hdn
  have hr:readD ⟨d.sectors.set 0 (sectorB n),lf,false⟩ 0=(sectorB n,0):=by
   unfold readD
   rw[if_neg (by simp),if_pos ⟨by decide,by show(0:Int)<((d.sectors.set 0 (sectorB n)).length:Int);rw[List.length_set];omega⟩]
   unfold secAt
   show((d.sectors.set 0 (sectorB n))[0]?.getD ⟨#[]⟩,(0:Int))=_
   rw[List.getElem?_set_self hlen]
   rfl
  unfold masterD
  rw[hr,if_neg (by rw[sectorB_size];simp)]
  exact hm
 refine⟨key _ _ ?_,key _ _ rfl⟩
 first|rfl|simpa using hd
end Ck
namespace Go.Proofs.YtilakddepaplhaaGreat
open Go.RowKit
theorem get_int (l:List UInt8)(a k:Nat)(hk:k≤6):Oct.intOf (Oct.getN l a k)=((Oct.getL ((l.drop a).take k):Nat):Int):=by
 unfold Oct.getN Oct.intOf
 have h:=Oct.getL_lt ((l.drop a).take k)
 have h2:256^((l.drop a).take k).length≤256^6:=Nat.pow_le_pow_right (by omega) (by rw[List.length_take];omega)
 rw[if_pos (by omega)]
theorem copen10_yes (s:ByteArray)(hs:s.size=10)(h:Oct.getL (s.data.toList.take 4)=Oct.sumN (s.data.toList.drop 4))(w:World):
 Calls Tryz.prog 37 #[s] w fun e w'=>e= .returned (.tuple #[.string (s.extract 4 s.size),true])∧Below w.heap.size w w':=by
 have HG:=Hq (fun W=>show Calls Tryz.prog 38 #[s,(),.int .i64 4] W fun e w'=>e= .returned (.tuple #[.int .i64 (Oct.intOf (Oct.getN s.data.toList 0 4)),true])∧Below W.heap.size W w' from get_yes s 0 4 (by omega) (by omega) (by omega) (by omega) W)
 have HS:=Hq (fun W=>sum_any (s.extract 4 s.size) (by rw[ByteArray.size_extract];omega) W)
 have hx:(s.extract 4 s.size).data.toList=s.data.toList.drop 4:=by
  have hl:s.data.toList.length=s.size:=by simp
  simp only[ByteArray.data_extract,Array.toList_extract,List.extract_eq_take_drop]
  rw[List.take_of_length_le (by rw[List.length_drop];omega)]
 rw[hx]at HS
 rw[get_int _ _ _ (by omega),List.drop_zero]at HG
 rw[h]at HG
 generalize ((Oct.sumN (s.data.toList.drop 4):Nat):Int)=m at HG HS
 have hmm:(m==m)=true:=by simp
 have h4:4≤s.size:=by omega
 have h5:(4:Int)≤(s.size:Int):=by omega
 clear h hx hs
 go_enter Tryz.func37,Tryz.ntmps37
 go_wp2_with (first
  |(go_at_call 38;(with_reducible refine(HG.out _).mono ?_);rintro e w1 ⟨rfl,hb1⟩)
  |(go_at_call 77;(with_reducible refine(HS.out _).mono ?_);rintro e w2 ⟨rfl,rfl⟩))
 go_ret2
 first|exact⟨rfl,hb1⟩|exact⟨rfl,Below.refl _ _⟩
theorem copen10_no (s:ByteArray)(hs:s.size=10)(h:¬ Oct.getL (s.data.toList.take 4)=Oct.sumN (s.data.toList.drop 4))(w:World):
 Calls Tryz.prog 37 #[s] w fun e w'=>e= .returned (.tuple #["",false])∧Below w.heap.size w w':=by
 have HG:=Hq (fun W=>show Calls Tryz.prog 38 #[s,(),.int .i64 4] W fun e w'=>e= .returned (.tuple #[.int .i64 (Oct.intOf (Oct.getN s.data.toList 0 4)),true])∧Below W.heap.size W w' from get_yes s 0 4 (by omega) (by omega) (by omega) (by omega) W)
 have HS:=Hq (fun W=>sum_any (s.extract 4 s.size) (by rw[ByteArray.size_extract];omega) W)
 have hx:(s.extract 4 s.size).data.toList=s.data.toList.drop 4:=by
  have hl:s.data.toList.length=s.size:=by simp
  simp only[ByteArray.data_extract,Array.toList_extract,List.extract_eq_take_drop]
  rw[List.take_of_length_le (by rw[List.length_drop];omega)]
 rw[hx]at HS
 rw[get_int _ _ _ (by omega),List.drop_zero]at HG
 have hmn:¬ ((Oct.getL (s.data.toList.take 4):Nat):Int)=((Oct.sumN (s.data.toList.drop 4):Nat):Int):=fun e=>h (by omega)
 generalize ((Oct.sumN (s.data.toList.drop 4):Nat):Int)=m at HS hmn
 generalize ((Oct.getL (s.data.toList.take 4):Nat):Int)=n at HG hmn
 have hmm:(n==m)=false:=by simpa using hmn
 have hm2:(n != m)=true:=by simpa using hmn
 clear hmn
 have h4:4≤s.size:=by omega
 have h5:(4:Int)≤(s.size:Int):=by omega
 clear h hx hs
 go_enter Tryz.func37,Tryz.ntmps37
 go_wp2_with (first
  |(go_at_call 38;(with_reducible refine(HG.out _).mono ?_);rintro e w1 ⟨rfl,hb1⟩)
  |(go_at_call 77;(with_reducible refine(HS.out _).mono ?_);rintro e w2 ⟨rfl,rfl⟩))
 go_ret2
 first|exact⟨rfl,hb1⟩|exact⟨rfl,Below.refl _ _⟩
theorem cmaster_any (d:Lg.Dk)(A:Option Addr)(c:Nat)(w:World)(h:DiskR w d A c):
 Calls Tryz.prog 13 #[diskV d A c] w fun e w'=>e= .returned (.int .i64 (Ck.masterD d))∧Below w.heap.size w w':=by
 have HR:=Hq (fun W (hb:Below w.heap.size w W)=>dread_any d A c 0 W (h.below hb))
 have k1:= @Ck.masterD_no d
 have k2:= @Ck.masterD_yes d
 generalize Lg.readD d 0=x at HR k1 k2
 generalize Ck.masterD d=M at k1 k2 ⊢
 obtain⟨b,e0⟩:=x
 obtain⟨L,left,down⟩:=d
 simp only at k1 k2
 dsimp only[diskV]at HR ⊢
 clear h
 have HA:=Hq (heap_alloc_new w (.cells #[.slice A L.length c,left,down] 29))
 have BA:=allocB w (.cells #[.slice A L.length c,left,down] 29)
 by_cases he:e0=0
 ·subst he
  by_cases hb:b.size<10
  ·have hM:=k1 (.inr hb)
   subst hM
   have hb1:(b.size:Int)<10:=by omega
   clear k1 k2 hb
   go_enter Tryz.func13,Tryz.ntmps13
   go_wp2_with (first
    |(with_reducible refine lL HA.out Tryz.underlying29 ?_)
    |(go_at_call 36;(with_reducible refine(HR.out _ BA).mono ?_);rintro e w1 ⟨rfl,hb1'⟩))
   go_ret
   exact⟨rfl,joinB BA hb1'⟩
  ·have hM:=k2 (by intro hc;rcases hc with hc|hc;exact hc rfl;exact hb hc)
   have hb1:¬ (b.size:Int)<10:=by omega
   have hb2:10≤b.size:=by omega
   have hb3:(10:Int)≤(b.size:Int):=by omega
   obtain⟨s,hs⟩:=ex (b.extract 0 10)
   have hsz:s.size=10:=by rw[hs,ByteArray.size_extract];omega
   have hsl:s.data.toList=b.data.toList.take 10:=by rw[hs];simp
   have q1:s.data.toList.take 4=b.data.toList.take 4:=by rw[hsl,List.take_take];rfl
   have q2:s.data.toList.drop 4=(b.data.toList.drop 4).take 6:=by rw[hsl,List.drop_take]
   have qx:(s.extract 4 s.size).data.toList=s.data.toList.drop 4:=by
    have hl:s.data.toList.length=s.size:=by simp
    simp only[ByteArray.data_extract,Array.toList_extract,List.extract_eq_take_drop]
    rw[List.take_of_length_le (by rw[List.length_drop];omega)]
   have qs:(s.extract 4 s.size).size=6:=by rw[ByteArray.size_extract];omega
   have HS:=Hq hs
   by_cases hy:Oct.getL (s.data.toList.take 4)=Oct.sumN (s.data.toList.drop 4)
   ·have HO:=Hq (fun W=>copen10_yes s hsz hy W)
    have HG:=Hq (fun W=>show Calls Tryz.prog 38 #[.string (s.extract 4 s.size),(),.int .i64 6] W fun e w'=>e= .returned (.tuple #[.int .i64 (Oct.intOf (Oct.getN (s.extract 4 s.size).data.toList 0 6)),true])∧Below W.heap.size W w' from get_yes (s.extract 4 s.size) 0 6 (by omega) (by omega) (by omega) (by omega) W)
    rw[get_int _ _ _ (by omega),List.drop_zero,qx,List.take_of_length_le (by have hl:s.data.toList.length=s.size:=(by simp);rw[List.length_drop];omega)]at HG
    have hM2:M=((Oct.getL (s.data.toList.drop 4):Nat):Int):=by
     rw[hM,Ck.masterL_yes (by rw[← q1,← q2];exact hy),q2]
    rw[← hM2]at HG
    generalize s.extract 4 s.size=t at HO HG
    clear k1 k2 hb hM hM2 hy q1 q2 qx qs hsl hsz hs
    go_enter Tryz.func13,Tryz.ntmps13
    go_wp2_with (first
     |(with_reducible refine lL HA.out Tryz.underlying29 ?_)
     |(go_at_call 36;(with_reducible refine(HR.out _ BA).mono ?_);rintro e w1 ⟨rfl,hb1'⟩)
     |(go_at_call 37;rw[← HS.out];(with_reducible refine(HO.out _).mono ?_);rintro e w2 ⟨rfl,hb2'⟩)
     |(go_at_call 38;(with_reducible refine(HG.out _).mono ?_);rintro e w3 ⟨rfl,hb3'⟩))
    go_ret
    first|exact⟨rfl,joinB (joinB (joinB BA hb1') hb2') hb3'⟩|exact⟨rfl,joinB (joinB BA hb1') hb2'⟩
   ·have HO:=Hq (fun W=>copen10_no s hsz hy W)
    have hM2:M=0:=by rw[hM,Ck.masterL_no (by rw[← q1,← q2];exact hy)]
    subst hM2
    have HG:=Hq (fun W=>get_no ⟨#[]⟩ 0 6 (by decide) (by omega) (by omega) (by decide) W)
    clear k1 k2 hb hM hy q1 q2 qx qs hsl hsz hs
    go_enter Tryz.func13,Tryz.ntmps13
    go_wp2_with (first
     |(with_reducible refine lL HA.out Tryz.underlying29 ?_)
     |(go_at_call 36;(with_reducible refine(HR.out _ BA).mono ?_);rintro e w1 ⟨rfl,hb1'⟩)
     |(go_at_call 37;rw[← HS.out];(with_reducible refine(HO.out _).mono ?_);rintro e w2 ⟨rfl,hb2'⟩)
     |(go_at_call 38;(with_reducible refine(HG.out _).mono ?_);rintro e w3 ⟨rfl,rfl⟩))
    go_ret
    exact⟨rfl,joinB (joinB BA hb1') hb2'⟩
 ·have hM:=k1 (.inl he)
  subst hM
  have he1:(e0==0)=false:=by simpa using he
  have he2:(e0 != 0)=true:=by simpa using he
  clear k1 k2 he
  go_enter Tryz.func13,Tryz.ntmps13
  go_wp2_with (first
   |(with_reducible refine lL HA.out Tryz.underlying29 ?_)
   |(go_at_call 36;(with_reducible refine(HR.out _ BA).mono ?_);rintro e w1 ⟨rfl,hb1'⟩))
  go_ret
  exact⟨rfl,joinB BA hb1'⟩
theorem csealed_any (n:Int)(w:World):
 Calls Tryz.prog 48 #[n] w fun e w'=>∃ x:ByteArray,e= .returned (.string x)∧x.data.toList=Ck.placeL n∧Below w.heap.size w w':=by
 have HP:=Hq (fun W=>put_any n 6 (by omega) (by omega) W)
 have hb:(Oct.putB n 6).data.toList=Oct.putL (Oct.word n) 6:=Oct.putB_list n 6 (by omega)
 have hz:(Oct.putB n 6).size=6:=Oct.putB_size n 6 (by omega)
 have HS:=Hq (fun W=>seal_any (Oct.putB n 6) (by omega) W)
 rw[hb]at HS
 have HL:=Hq (show Ck.placeL n=Oct.putL (Oct.sumN (Oct.putL (Oct.word n) 6)) 4++Oct.putL (Oct.word n) 6 from rfl)
 generalize Oct.putB n 6=y at HP HS
 clear hb hz
 go_enter Tryz.func48,Tryz.ntmps48
 go_wp2_with (first
  |(go_at_call 90;(with_reducible refine(HP.out _).mono ?_);rintro e w1 ⟨rfl,hb1⟩)
  |(go_at_call 89;(with_reducible refine(HS.out _).mono ?_);rintro e w2 ⟨x,rfl,hx,hb2⟩))
 go_ret
 exact⟨x,rfl,by rw[HL.out];exact hx,joinB hb1 hb2⟩
theorem cset_any (d:Lg.Dk)(hlb: -9223372036854775808≤d.left∧d.left≤9223372036854775807)(A:Option Addr)(c:Nat)(n:Int)(w:World)(h:DiskR w d A c):
 Calls Tryz.prog 21 #[diskV d A c,n] w (WriteOut (Ck.setD d n) A w):=by
 have HNO:=Hq (@Ck.setD_no d n)
 have HYE:=Hq (@Ck.setD_yes d n)
 have HWR:=Hq (fun W (hb:Below w.heap.size w W)=>dwrite_any d hlb A c 0 (Ck.sectorB n) W (h.below hb))
 have HO:=Hq (fun x A' c' w' (hx:Ck.setD d n=x) (h1:DiskR w' x.1 A' c') (h2:A'=A∨NewT w.heap.size w' 9 A') (h3:Below w.heap.size w w')=>show WriteOut (Ck.setD d n) A w (.returned (.tuple #[diskV x.1 A' c',x.2])) w' from⟨A',c',by rw[hx],by rw[hx];exact h1,h2,h3⟩)
 have HD:=Hq (fun w' (hb:Below w.heap.size w w')=>h.below hb)
 generalize WriteOut (Ck.setD d n) A w=Q at HO ⊢
 generalize Ck.setD d n=X at HNO HYE HO
 by_cases hno:n<0∨1099511627776≤n
 ·have HX:=Hq (HNO.out hno)
  have hor:n<0∨(¬ n<0∧1099511627776≤n):=by omega
  clear HNO HYE HWR h hno hlb
  obtain⟨L,left,down⟩:=d
  dsimp only[diskV]at HO ⊢
  rcases hor with hn|⟨hn,hn2⟩
  ·
   go_enter Tryz.func21,Tryz.ntmps21
   go_upto_region 1 with fail
   have H0:=nW2 w #[.slice A L.length c,left,down] 29 #["s",(),false] 29
   obtain⟨W0,hW0⟩:=exW H0
   rw[← hW0]at H0 ⊢
   clear hW0
   go_wp2_with (first
    |(with_reducible refine lL H0.out.get0 Tryz.underlying29 ?_)
    |(with_reducible refine lS #[.slice A L.length c,left,down] H0.out.get1 ?_))
   refine bodyPost_ret (v:=.tuple #[.agg #[.slice A L.length c,left,down],.int .i64 1]) (results_cell2 rfl _ _ rfl (load_whole (setRow_heap _ _ _ _ _ _ H0.out.get1) Tryz.underlying29 Kr Kr) rfl) rfl ?_
   exact HO.out _ A c _ HX.out (HD.out _ ((H0.out.row 1 _ _ rfl).below)) (.inl rfl) ((H0.out.row 1 _ _ rfl).below)
  ·
   go_enter Tryz.func21,Tryz.ntmps21
   go_upto_region 1 with fail
   have H0:=nW2 w #[.slice A L.length c,left,down] 29 #["s",(),false] 29
   obtain⟨W0,hW0⟩:=exW H0
   rw[← hW0]at H0 ⊢
   clear hW0
   go_wp2_with (first
    |(with_reducible refine lL H0.out.get0 Tryz.underlying29 ?_)
    |(with_reducible refine lS #[.slice A L.length c,left,down] H0.out.get1 ?_))
   refine bodyPost_ret (v:=.tuple #[.agg #[.slice A L.length c,left,down],.int .i64 1]) (results_cell2 rfl _ _ rfl (load_whole (setRow_heap _ _ _ _ _ _ H0.out.get1) Tryz.underlying29 Kr Kr) rfl) rfl ?_
   exact HO.out _ A c _ HX.out (HD.out _ ((H0.out.row 1 _ _ rfl).below)) (.inl rfl) ((H0.out.row 1 _ _ rfl).below)
 ·have HX:=Hq (HYE.out hno)
  have hn1:¬ n<0:=by omega
  have hn2:¬ 1099511627776≤n:=by omega
  have hwlen:= @Lg.writeD_len d 0 (Ck.sectorB n)
  have hold0:=fun h0=>h.secs.old h0
  generalize Lg.writeD d 0 (Ck.sectorB n)=y at HWR HX hwlen
  obtain⟨d',e'⟩:=y
  have HOLD:=Hq (show 0<d'.sectors.length→∀ ad,A=some ad→ad.block<w.heap.size from fun h0=>hold0 (by rw[← hwlen];exact h0))
  clear HNO HYE h hno hlb HD hwlen hold0
  have HSE:=Hq (fun W=>csealed_any n W)
  have HZ:=Hq (fun W=>show Calls Tryz.prog 50 #[.string ⟨#[0]⟩,.int .i64 118] W fun e w'=>e= .returned (.string ⟨(List.replicate 118 0).toArray⟩)∧Below W.heap.size W w' from by
   have h1:=Tryz.strings_Repeat ⟨#[0]⟩ 118 W (by omega) (by show 1*118≤_;omega)
   have e:(⟨(Lib.repeatL (⟨#[0]⟩:ByteArray).data.toList 118).toArray⟩:ByteArray)=⟨(List.replicate 118 0).toArray⟩:=Lg.repeat_zero 118
   rw[e]at h1
   exact h1)
  have HADD:=Hq (fun(x:ByteArray) (hx:x.data.toList=Ck.placeL n) W=>show(Op.stringOp .add x ⟨(List.replicate 118 0).toArray⟩).run Tryz.prog W= .ok (.string (Ck.sectorB n)) W from by
   have hl:x.data.toList.length=x.size:=by simp
   rw[hx,Ck.placeL_len]at hl
   have hz:(⟨(List.replicate 118 0).toArray⟩:ByteArray).size=118:=by show(List.replicate 118 (0:UInt8)).toArray.size=_;simp
   have h9:=run_string_add_sum (P:=Tryz.prog) W x ⟨(List.replicate 118 0).toArray⟩ (by omega)
   have e:x++⟨(List.replicate 118 0).toArray⟩=Ck.sectorB n:=by
    apply ByteArray.ext
    rw[ByteArray.data_append]
    apply Array.toList_inj.1
    rw[Array.toList_append,hx,Ck.sectorB_list]
   rw[e]at h9
   exact h9)
  have HLEN:=Hq (Ck.placeL_len n)
  generalize (⟨(List.replicate 118 0).toArray⟩:ByteArray)=z at HZ HADD
  generalize Ck.sectorB n=sb at HADD HWR
  generalize Ck.placeL n=pl at HSE HADD HLEN
  obtain⟨L,left,down⟩:=d
  dsimp only[diskV]at HO HWR ⊢
  go_enter Tryz.func21,Tryz.ntmps21
  go_upto_region 1 with fail
  have H0:=nW2 w #[.slice A L.length c,left,down] 29 #["s",(),false] 29
  obtain⟨W0,hW0⟩:=exW H0
  rw[← hW0]at H0 ⊢
  clear hW0
  go_upto_region 4 with(go_at_call 48;(with_reducible refine(HSE.out _).mono ?_);rintro e w1 ⟨x,rfl,hx,hb1⟩)
  have hxs:x.size=10:=by
   have h1:x.data.toList.length=x.size:=by simp
   rw[hx,HLEN.out]at h1
   omega
  have hw:IntKind.i64.wrap (128-(x.size:Int))=118:=by rw[hxs];decide
  have hadd:=HADD.out x hx
  have HB:=Hq (H0.out.step hb1).drew
  clear hb1 hxs hx H0 HSE HADD HLEN
  refine rgH (S:=(fun u=>u.heap[w.heap.size]? =some (.cells #[.slice A L.length c,left,down] 29 (0,0)))) (fun hHeld=>?_) (by first|exact hSn|exact HB.out.get0)
  refine tkL 0 Tryz.underlying29 ?_
  refine tkP 1 ?_;refine tkP 2 ?_;refine tkP 3 ?_;refine tkP 4 ?_
  refine rdP 5 fun K hK=>?_
  go_simp
  refine(HZ.out _).mono ?_;rintro e w2 ⟨rfl,hb2⟩
  have HB:=Hq (HB.out.step hb2)
  clear hb2
  have hSn:=HB.out.get0
  refine hKo hK (fun hHeld=>?_) (by first|exact hSn|exact HB.out.get0)
  clear hK K
  refine tkP 6 ?_
  refine rdP 7 fun K hK=>?_
  go_simp
  refine(HWR.out _ HB.out.below).mono ?_;rintro e w3 ⟨A',c',rfl,hd3,ha3,hb3⟩
  have HAA:=Hq (ha3.imp id (fun h=>h.mono HB.out.below.size))
  have HB:=Hq (HB.out.step hb3)
  have HDD:=Hq hd3
  clear hd3 ha3 hb3
  try clear hSn
  have hSn:=HB.out.get0
  refine hKo hK (fun hHeld=>?_) (by first|exact hSn|exact HB.out.get0)
  clear hK K
  refine tkP 8 ?_;refine tkP 9 ?_
  refine rdP 10 fun K hK=>?_
  refine wantedIf (by rfl) ?_
  refine sW #[.slice A' d'.sectors.length c',d'.left,d'.down] HB.out.get1 ?_
  have HAP:=Hq ((Apart.refl (w.heap.size+1) (w.heap.size+2) w3).row (w.heap.size+1) #[.slice A' d'.sectors.length c',d'.left,d'.down] (Nat.le_refl _) (Nat.lt_succ_self _))
  have HG:=Hq HB.out.get1
  have HB:=Hq (HB.out.row 1 #[.slice A' d'.sectors.length c',d'.left,d'.down] _ rfl)
  clear hSn
  have hSn:=HB.out.get0
  refine hKo hK (fun hHeld=>?_) (by first|exact hSn|exact HB.out.get0)
  clear hK K
  try simp only[Act.put]
  refine tkP 11 ?_
  refine wpAnyH_done Kr ?_ _
  clear hHeld hSn
  go_wp2_with fail
  refine bodyPost_ret (v:=.tuple #[.agg #[.slice A' d'.sectors.length c',d'.left,d'.down],e']) (results_cell2 rfl _ _ rfl (load_whole HB.out.get1 Tryz.underlying29 Kr Kr) rfl) rfl ?_
  exact HO.out (d',e') A' c' _ HX.out ⟨HDD.out.secs.offRow _ _ (fun h0 ad e=>HAA.out.elim (fun h1=>by rw[h1]at e;have h5:=HOLD.out h0 ad e;intro e1;omega) (fun h1=>by intro e1;obtain⟨_,cs0,fr0,h2⟩:=h1 ad e;rw[e1,HG.out]at h2;injection h2 with h2;injection h2 with _ h2;exact absurd h2 (by decide))),HDD.out.small⟩ (HAA.out.imp id (fun h=>h.row _ _)) HB.out.below
variable {cl : Cl}
def chk (s:Tx.St)(fs:List Fr):Rc.Rec:=⟨0,0,0,9,0,0,s.next,Rc.noOp,0,0,Rc.noKey,s.txns,dirL fs⟩
def takeX (s:Tx.St)(x:Lg.Lo×Int×Int)(y:Lg.Dk×Lg.Lo×Int)(z:Lg.Dk×Int):Tx.St×Int:=
 if x.2.2≠0 then(s,x.2.2)else if y.2.2≠0 then({s with disk:=y.1,log:=y.2.1},y.2.2)else({s with disk:=z.1,log:=y.2.1},z.2)
noncomputable def takeT (s:Tx.St) (fs:List Fr):Tx.St×Int:=
 takeX s (Lg.appendD s.log (chk s fs)) (Lg.forceD s.disk (Lg.appendD s.log (chk s fs)).1) (Ck.setD (Lg.forceD s.disk (Lg.appendD s.log (chk s fs)).1).1 (Lg.appendD s.log (chk s fs)).2.1)
def TkOut (x:Tx.St×Int)(fs:List Fr)(w:World)(e:Ending)(w':World):Prop:=
 ∃ q,e= .returned (.tuple #[storeV x.1 q,x.2])∧PoolR w' x.1 q fs∧Below w.heap.size w w'
structure StK (cl:Cl) (s s':Tx.St):Prop where
 lg:LogI cl s'
 dk:DkI s'.disk
 len:s'.disk.sectors.length=s.disk.sectors.length
 zl:s'.zlog=s.zlog
 zp:s'.zpages=s.zpages
 tx:s'.txns=s.txns
 nx:s'.next=s.next
theorem take_keep {cl2:Cl}{s:Tx.St}(fs:List Fr)(hl:LogI cl s)(hd:DkI s.disk)(hN:s.zlog=cl2.N)(hP:cl2.P (takeT s fs).1.disk (takeT s fs).1.log):StK cl2 s (takeT s fs).1:=by
 have h1:=hl.put (chk s fs)
 have h2:=h1.force
 have h3:=hd.force (Lg.appendD s.log (chk s fs)).1
 unfold takeT takeX at hP ⊢
 by_cases c1:(Lg.appendD s.log (chk s fs)).2.2≠0
 ·rw[if_pos c1]at hP ⊢;exact⟨hl.to rfl hN hP,hd,rfl,rfl,rfl,rfl,rfl⟩
 ·rw[if_neg c1]at hP ⊢
  by_cases c2:(Lg.forceD s.disk (Lg.appendD s.log (chk s fs)).1).2.2≠0
  ·rw[if_pos c2]at hP ⊢;exact⟨h2.to rfl hN hP,h3.1,h3.2,rfl,rfl,rfl,rfl⟩
  ·rw[if_neg c2]at hP ⊢
   refine⟨h2.to rfl hN hP,?_,?_,rfl,rfl,rfl,rfl⟩
   ·show DkI (Ck.setD _ _).1
    unfold Ck.setD
    split
    ·exact h3.1
    ·exact(h3.1.write _ _).1
   ·show(Ck.setD _ _).1.sectors.length=_
    unfold Ck.setD
    split
    ·exact h3.2
    ·exact(h3.1.write _ _).2.trans h3.2
theorem ctake_any (s:Tx.St)(p:SP)(fs:List Fr)(hl:LogI cl s)(hd:DkI s.disk)(hf:FrI fs)(hts:s.txns.length≤800000)(w:World)(h:PoolR w s p fs):
 Calls Tryz.prog 10 #[storeV s p] w (TkOut (takeT s fs) fs w):=by
 have hds:(dirL fs).length≤4:=by rw[dirL_len,Sp.sort_len];have:=dirtP_len fs fs.length;rw[List.take_length]at this;have:=hf.n4;omega
 have HP:=Hq h
 have HF:=Hq hf
 have HTS:=Hq hts
 have HDS:=Hq hds
 have HL2:=hl.put (chk s fs)
 have HD:=Hq hd
 have HAP:=Hq (fun(DA:Option Addr) (dc:Nat) W hr=>show Calls Tryz.prog 30 #[.agg #[s.log.from_,s.log.n,s.log.end_,s.log.safe,s.log.tail],.agg #[(),(),(),.int .i64 9,(),(),s.next,(),(),"","",(),(),"",(),(),.slice p.T s.txns.length p.tc,.slice DA (dirL fs).length dc]] W (AppOut (Lg.appendD s.log (chk s fs)) W)from append_any s.log hl.b.e0 (by have:=hl.b.e1;omega) (by have:=hl.b.n0;omega) (by have:=hl.b.n1;omega) (by have:=hl.b.t0;have:=hl.b.e1;omega) (chk s fs) p.T DA p.tc dc W hr)
 unfold takeT
 generalize Lg.appendD s.log (chk s fs)=x at HAP HL2 ⊢
 obtain⟨l2,n2,e2⟩:=x
 simp only at HL2 ⊢
 have HFO:=Hq (fun(A:Option Addr) (c:Nat) W hr=>force_any s.disk hd.lb A c l2 HL2.b.e0 (by have h:=HL2.b.e1;simp only at h;omega) (by have h:=HL2.b.n0;simp only at h;omega) (by have h:=HL2.b.n1;simp only at h;omega) (by have h:=HL2.b.f;simp only at h;omega) (by have h:=HL2.b.f;simp only at h;omega) (by have h:=HL2.b.t0;have h2:=HL2.b.e1;simp only at h h2;omega) HL2.b.t0 HL2.b.t1 W hr)
 have HDF:=hd.force l2
 generalize Lg.forceD s.disk l2=y at HFO HDF ⊢
 obtain⟨d3,l3,e3⟩:=y
 simp only at HDF ⊢
 have HSM:=Hq (fun(A:Option Addr) (c:Nat) W hr=>cset_any d3 HDF.1.lb A c n2 W hr)
 generalize Ck.setD d3 n2=z at HSM ⊢
 obtain⟨d4,e4⟩:=z
 have HX1:=Hq (show e2≠0→takeX s (l2,n2,e2) (d3,l3,e3) (d4,e4)=(s,e2)from fun h=>by unfold takeX;rw[if_pos h])
 have HX2:=Hq (show e2=0→e3≠0→takeX s (l2,n2,e2) (d3,l3,e3) (d4,e4)=({s with disk:=d3,log:=l3},e3)from fun h h'=>by unfold takeX;rw[if_neg (fun hn=>hn h),if_pos h'])
 have HX3:=Hq (show e2=0→e3=0→takeX s (l2,n2,e2) (d3,l3,e3) (d4,e4)=({s with disk:=d4,log:=l3},e4)from fun h h'=>by unfold takeX;rw[if_neg (fun hn=>hn h),if_neg (fun hn=>hn h')])
 generalize takeX s (l2,n2,e2) (d3,l3,e3) (d4,e4)=t at HX1 HX2 HX3 ⊢
 clear h hf hts hl hd hds HL2 HDF
 go_enter Tryz.func10,Tryz.ntmps10
 go_upto_region 1 with fail
 have H0:=nW2 w (stA s p) 37 #[(),(),(),"s",(),false,(),(),(),(),"","s",(),"s",()] 37
 obtain⟨W0,hW0⟩:=exW H0
 rw[← hW0]at H0 ⊢
 clear hW0
 have HP0:=Hq (HP.out.below H0.out.below)
 go_cut [4,5,6] (fun a b c wc=>∃ g:Nat,a= .pointer (some ⟨g,0,none⟩)∧b= .int .i64 n2∧c= .int .i64 e2∧wc.heap[g]? =some (.cells #[l2.from_,l2.n,l2.end_,l2.safe,l2.tail] 31 (0,0))∧W0.heap.size≤g∧Below W0.heap.size W0 wc)
 case first=>
  have Z0:Below W0.heap.size W0 W0.drew:=(Below.refl _ W0).drew
  have Hy:=Hq (fun(u:World) (hSu:Below W0.heap.size W0 u)=>have hSv:=blkOld H0.out.get0 hSu;(And.intro (show u.cell? ⟨w.heap.size,13,none⟩=some (.slice p.T s.txns.length p.tc)from(by rw[blkCell hSv];rfl)) (show u.cell? ⟨w.heap.size,14,none⟩=some (.int .i64 s.next)from(by rw[blkCell hSv];rfl))))
  refine rgH (S:=(fun u=>Below W0.heap.size W0 u)) (fun hHeld=>?_)
  refine tkP 0 ?_
  refine tkV 1 (some 9) (v:=.agg #[s.log.from_,s.log.n,s.log.end_,s.log.safe,s.log.tail]) rfl (yieldsIf_load_mid (by rfl) 31 (.tmp 8) rfl w.heap.size 6 (by rfl) [.int .i64 s.log.from_,.int .i64 s.log.n,.int .i64 s.log.end_,.int .i64 s.log.safe,.string s.log.tail] _ (fun u hu j v hj=>by rw[blkCell (blkOld H0.out.get0 hu)];rcases j with _|_|_|_|_|j<;>simp at hj ⊢<;>exact hj) Tryz.underlying31 Kr Kr) ?_
  try simp only[Act.put,pS]
  refine tkP 2 ?_;refine tkP 3 ?_
  refine tkV 4 (some 12) (v:=.agg (stA s p)) rfl (yieldsIf_load_mid (by rfl) 37 (.tmp 1) rfl w.heap.size 0 (by rfl) (stA s p).toList _ (fun u hu=>(by intro j v hj;rw[Nat.zero_add,blkCell (blkOld H0.out.get0 hu)];simpa using hj)) Tryz.underlying37 Kr Kr) ?_
  try simp only[Act.put,pS]
  refine tkP 6 ?_;refine tkP 7 ?_
  refine wpAnyH_ready (rs:=[5,14]) Kr (by simp) ?_
  refine(AllReadyH.cons (o:={dst:=some 13,op:=_,type:=_,pos:=_,after:=_,guard:=_}) rfl (fun K hK=>?_) (AllReadyH.cons (o:={dst:=some 4,op:=_,type:=_,pos:=_,after:=_,guard:=_}) rfl (fun K hK=>?_) AllReadyH.nil))
  ·
   go_simp
   refine(cpdirty_any s p fs HF.out _ (HP0.out.below Z0)).mono ?_;rintro e v1 ⟨DA,dc,rfl,hdr,hb⟩;have Z1:=joinB Z0 hb;try clear hSn
   have hSn:=Z1
   clear hb
   refine hKo hK (fun hHeld=>?_)
   clear hK K
   refine tkP 8 ?_
   refine wpAnyH_ready (rs:=[9,14]) Kr (by simp) ?_
   refine(AllReadyH.cons (o:={dst:=some 17,op:=_,type:=_,pos:=_,after:=_,guard:=_}) rfl (fun K hK=>?_) (AllReadyH.cons (o:={dst:=some 4,op:=_,type:=_,pos:=_,after:=_,guard:=_}) rfl (fun K hK=>?_) AllReadyH.nil))
   ·
    go_simp
    refine(HAP.out DA dc _ ⟨(HP0.out.below Z1).st.tx,hdr,⟨by have:=HTS.out;show s.txns.length≤_;omega,by have:=HDS.out;show(dirL fs).length≤_;omega⟩⟩).mono ?_;rintro e v2 ⟨rfl,hb⟩;have Z2:=joinB Z1 hb;clear hSn;have hSn:=Z2
    clear hb
    refine hKo hK (fun hHeld=>?_)
    clear hK K
    refine tkP 10 ?_;refine tkP 11 ?_;refine tkP 12 ?_;refine tkP 13 ?_
    refine rdP 14 fun K hK=>?_
    go_simp
    have hbA:=allocB v2 (.cells #[(),(),(),(),""] 31);have Z3:=joinB Z2 hbA;have HGn:=heap_alloc_new v2 (.cells #[(),(),(),(),""] 31);try clear hSn
    have hSn:=Z3
    refine hKo hK (fun hHeld=>?_)
    clear hK K
    refine rdP 15 fun K hK=>?_
    refine wantedIf (by rfl) ?_
    refine sW #[l2.from_,l2.n,l2.end_,l2.safe,l2.tail] HGn ?_
    have ZF:=rowB (g:=v2.heap.size) Z2.size Z3 #[l2.from_,l2.n,l2.end_,l2.safe,l2.tail]
    have HG4:=setRow_heap _ _ _ #[l2.from_,l2.n,l2.end_,l2.safe,l2.tail] _ _ HGn
    clear hSn
    have hSn:=ZF
    refine hKo hK (fun hHeld=>?_)
    clear hK K
    refine tkP 16 ?_;refine tkP 17 ?_
    refine wpAnyH_done Kr ?_ _
    clear hHeld hSn
    go_wp2_with fail
    go_meet
    case rel=>exact⟨_,rfl,rfl,rfl,HG4,Z2.size,ZF⟩
   ·
    go_simp
    have hbA:=allocB v1 (.cells #[(),(),(),(),""] 31);have Z2:=joinB Z1 hbA;have HGn:=heap_alloc_new v1 (.cells #[(),(),(),(),""] 31);try clear hSn
    have hSn:=Z2
    refine hKo hK (fun hHeld=>?_)
    clear hK K
    refine rdP 9 fun K hK=>?_
    go_simp
    refine(HAP.out DA dc _ ⟨(HP0.out.below Z2).st.tx,hdr.below hbA,⟨by have:=HTS.out;show s.txns.length≤_;omega,by have:=HDS.out;show(dirL fs).length≤_;omega⟩⟩).mono ?_;rintro e v2 ⟨rfl,hb⟩;have Z3:=joinB Z2 hb;clear hSn;have hSn:=Z3
    have HGn:=blkOld HGn hb
    clear hb
    refine hKo hK (fun hHeld=>?_)
    clear hK K
    refine tkP 10 ?_;refine tkP 11 ?_;refine tkP 12 ?_;refine tkP 13 ?_
    refine rdP 15 fun K hK=>?_
    refine wantedIf (by rfl) ?_
    refine sW #[l2.from_,l2.n,l2.end_,l2.safe,l2.tail] HGn ?_
    have ZF:=rowB (g:=v1.heap.size) Z1.size Z3 #[l2.from_,l2.n,l2.end_,l2.safe,l2.tail]
    have HG4:=setRow_heap _ _ _ #[l2.from_,l2.n,l2.end_,l2.safe,l2.tail] _ _ HGn
    clear hSn
    have hSn:=ZF
    refine hKo hK (fun hHeld=>?_)
    clear hK K
    refine tkP 16 ?_;refine tkP 17 ?_
    refine wpAnyH_done Kr ?_ _
    clear hHeld hSn
    go_wp2_with fail
    go_meet
    case rel=>exact⟨_,rfl,rfl,rfl,HG4,Z1.size,ZF⟩
  ·
   go_simp
   have hbA:=allocB W0.drew (.cells #[(),(),(),(),""] 31);have Z1:=joinB Z0 hbA;have HGn:=heap_alloc_new W0.drew (.cells #[(),(),(),(),""] 31);try clear hSn
   have hSn:=Z1
   refine hKo hK (fun hHeld=>?_)
   clear hK K
   refine rdP 5 fun K hK=>?_
   go_simp
   refine(cpdirty_any s p fs HF.out _ (HP0.out.below Z1)).mono ?_;rintro e v1 ⟨DA,dc,rfl,hdr,hb⟩;have Z2:=joinB Z1 hb;try clear hSn
   have hSn:=Z2
   have HGn:=blkOld HGn hb
   clear hb
   refine hKo hK (fun hHeld=>?_)
   clear hK K
   refine tkP 8 ?_
   refine rdP 9 fun K hK=>?_
   go_simp
   refine(HAP.out DA dc _ ⟨(HP0.out.below Z2).st.tx,hdr,⟨by have:=HTS.out;show s.txns.length≤_;omega,by have:=HDS.out;show(dirL fs).length≤_;omega⟩⟩).mono ?_;rintro e v2 ⟨rfl,hb⟩;have Z3:=joinB Z2 hb;clear hSn;have hSn:=Z3
   have HGn:=blkOld HGn hb
   clear hb
   refine hKo hK (fun hHeld=>?_)
   clear hK K
   refine tkP 10 ?_;refine tkP 11 ?_;refine tkP 12 ?_;refine tkP 13 ?_
   refine rdP 15 fun K hK=>?_
   refine wantedIf (by rfl) ?_
   refine sW #[l2.from_,l2.n,l2.end_,l2.safe,l2.tail] HGn ?_
   have ZF:=rowB (g:=W0.drew.heap.size) (by show W0.heap.size≤W0.heap.size;omega) Z3 #[l2.from_,l2.n,l2.end_,l2.safe,l2.tail]
   have HG4:=setRow_heap _ _ _ #[l2.from_,l2.n,l2.end_,l2.safe,l2.tail] _ _ HGn
   clear hSn
   have hSn:=ZF
   refine hKo hK (fun hHeld=>?_)
   clear hK K
   refine tkP 16 ?_;refine tkP 17 ?_
   refine wpAnyH_done Kr ?_ _
   clear hHeld hSn
   go_wp2_with fail
   go_meet
   case rel=>exact⟨_,rfl,rfl,rfl,HG4,Nat.le_refl _,ZF⟩
 case rest=>
  obtain⟨g,rfl,rfl,rfl,hg,hgw,hbc⟩:=hcut
  obtain⟨w1,rfl⟩:=ex wc
  have H1:=Hq (H0.out.step hbc)
  have HG:=Hq hg
  have HP1:=Hq (HP0.out.below hbc)
  have hlt:w.heap.size+1<g:=Nat.lt_of_lt_of_le (H0.out.lt (i:=1) (by simp)) hgw
  clear hg hgw hbc H0 HP0 HAP
  by_cases h2:e2=0
  ·have h2b:(e2 != 0)=false:=by rw[h2];rfl
   have HX2':=Hq (HX2.out h2)
   have HX3':=Hq (HX3.out h2)
   clear HX1 HX2 HX3 h2
   go_upto_region 5 with(first
    |(with_reducible refine lL HG.out Tryz.underlying31 ?_)
    |(with_reducible refine lU #[l2.from_,l2.n,l2.end_,l2.safe,l2.tail] (stA {s with log:=l2} p) H1.out.get0 ?_))
   have H2:=Hq (show BxL w.heap.size w [((stA {s with log:=l2} p),37),(#[(),(),(),"s",(),false,(),(),(),(),"","s",(),"s",()],37)] (w1.setRow w.heap.size (stA {s with log:=l2} p))from H1.out.row 0 (stA {s with log:=l2} p) _ rfl)
   have HP2:=Hq ((HP1.out.other (t:=37) H1.out.get0 (by decide) (by decide) (by decide) (stA {s with log:=l2} p)).log l2)
   generalize w1.setRow w.heap.size (stA {s with log:=l2} p)=w2 at H2 HP2 ⊢
   clear H1 HP1 HG
   go_upto_region 6 with(first
    |(with_reducible refine lP #[.slice p.A s.disk.sectors.length p.c,s.disk.left,s.disk.down] H2.out.get0 Tryz.underlying29 ?_)
    |(with_reducible refine lP #[l2.from_,l2.n,l2.end_,l2.safe,l2.tail] H2.out.get0 Tryz.underlying31 ?_)
    |(go_at_call 31;(refine(HFO.out _ _ _ HP2.out.st.dk).mono ?_);rintro e w3 ⟨A3,c3,rfl,hr3,ht3,hb3⟩;have H3:=Hq (H2.out.step hb3);have HP3:=Hq (HP2.out.disk hb3 l3 hr3 (ht3.elim (fun e=>by rw[e];exact HP2.out.st.dt.below hb3) (fun e=>e.mono (Nat.zero_le _))));clear hr3 ht3)
    |(with_reducible refine lU #[.slice A3 d3.sectors.length c3,d3.left,d3.down] (stA {s with disk:=d3,log:=l2} {p with A:=A3,c:=c3}) H3.out.get0 ?_)
    |(with_reducible refine listPut Kr 31 (.tmp 37) (.tmp 34) rfl w.heap.size 6 #[l3.from_,l3.n,l3.end_,l3.safe,l3.tail] (stA {s with disk:=d3,log:=l2} {p with A:=A3,c:=c3}) (stA {s with disk:=d3,log:=l3} {p with A:=A3,c:=c3}) _ rfl rfl (setRow_heap _ _ _ _ _ _ H3.out.get0) Kr Kr Kr Kr ?_))
   have H4:=Hq (show BxL w.heap.size w [((stA {s with disk:=d3,log:=l3} {p with A:=A3,c:=c3}),37),(#[(),(),(),"s",(),false,(),(),(),(),"","s",(),"s",()],37)] ((w3.setRow w.heap.size (stA {s with disk:=d3,log:=l2} {p with A:=A3,c:=c3})).setRow w.heap.size (stA {s with disk:=d3,log:=l3} {p with A:=A3,c:=c3}))from(H3.out.row 0 (stA {s with disk:=d3,log:=l2} {p with A:=A3,c:=c3}) _ rfl).row 0 (stA {s with disk:=d3,log:=l3} {p with A:=A3,c:=c3}) _ rfl)
   have HP4:=Hq ((HP3.out.other (t:=37) H3.out.get0 (by decide) (by decide) (by decide) (stA {s with disk:=d3,log:=l2} {p with A:=A3,c:=c3})).other (t:=37) (setRow_heap _ _ _ _ _ _ H3.out.get0) (by decide) (by decide) (by decide) (stA {s with disk:=d3,log:=l3} {p with A:=A3,c:=c3}))
   generalize (w3.setRow w.heap.size (stA {s with disk:=d3,log:=l2} {p with A:=A3,c:=c3})).setRow w.heap.size (stA {s with disk:=d3,log:=l3} {p with A:=A3,c:=c3})=w4 at H4 HP4 ⊢
   clear H2 HP2 H3 HP3 hb3 HFO
   by_cases h3:e3=0
   ·have h3b:(e3==0)=true:=by rw[h3];rfl
    have HX:=Hq (HX3'.out h3)
    clear HX2' HX3' h3
    go_upto_region 8 with(first
     |(with_reducible refine lP #[.slice A3 d3.sectors.length c3,d3.left,d3.down] H4.out.get0 Tryz.underlying29 ?_)
     |(go_at_call 21;(refine(HSM.out _ _ _ HP4.out.st.dk).mono ?_);rintro e w5 ⟨A4,c4,rfl,hr5,ht5,hb5⟩;have H5:=Hq (H4.out.step hb5);have HP5:=Hq (HP4.out.disk hb5 l3 hr5 (ht5.elim (fun e=>by rw[e];exact HP4.out.st.dt.below hb5) (fun e=>e.mono (Nat.zero_le _))));clear hr5 ht5)
     |(with_reducible refine lU #[.slice A4 d4.sectors.length c4,d4.left,d4.down] (stA {s with disk:=d4,log:=l3} {p with A:=A4,c:=c4}) H5.out.get0 ?_))
    have H6:=Hq (show BxL w.heap.size w [((stA {s with disk:=d4,log:=l3} {p with A:=A4,c:=c4}),37),(#[(),(),(),"s",(),false,(),(),(),(),"","s",(),"s",()],37)] (w5.setRow w.heap.size (stA {s with disk:=d4,log:=l3} {p with A:=A4,c:=c4}))from H5.out.row 0 (stA {s with disk:=d4,log:=l3} {p with A:=A4,c:=c4}) _ rfl)
    have HP6:=Hq (HP5.out.other (t:=37) H5.out.get0 (by decide) (by decide) (by decide) (stA {s with disk:=d4,log:=l3} {p with A:=A4,c:=c4}))
    generalize w5.setRow w.heap.size (stA {s with disk:=d4,log:=l3} {p with A:=A4,c:=c4})=w6 at H6 HP6 ⊢
    clear H4 HP4 H5 HP5 hb5 HSM
    go_wp2_with (first|(with_reducible refine lL H6.out.get0 Tryz.underlying37 ?_)|(with_reducible refine lS (stA {s with disk:=d4,log:=l3} {p with A:=A4,c:=c4}) H6.out.get1 ?_))
    refine bodyPost_ret (v:=.tuple #[.agg (stA {s with disk:=d4,log:=l3} {p with A:=A4,c:=c4}),e4]) (results_cell2 rfl _ _ rfl (load_whole (setRow_heap _ _ _ _ _ _ H6.out.get1) Tryz.underlying37 Kr Kr) rfl) rfl ?_
    rw[HX.out]
    exact⟨{p with A:=A4,c:=c4},rfl,HP6.out.other (t:=37) H6.out.get1 (by decide) (by decide) (by decide) _,(H6.out.row 1 (stA {s with disk:=d4,log:=l3} {p with A:=A4,c:=c4}) _ rfl).below⟩
   ·have h3b:(e3==0)=false:=beq_eq_false_iff_ne.2 h3
    have HX:=Hq (HX2'.out h3)
    clear HX2' HX3' h3
    go_wp2_with (first|(with_reducible refine lL H4.out.get0 Tryz.underlying37 ?_)|(with_reducible refine lS (stA {s with disk:=d3,log:=l3} {p with A:=A3,c:=c3}) H4.out.get1 ?_))
    refine bodyPost_ret (v:=.tuple #[.agg (stA {s with disk:=d3,log:=l3} {p with A:=A3,c:=c3}),e3]) (results_cell2 rfl _ _ rfl (load_whole (setRow_heap _ _ _ _ _ _ H4.out.get1) Tryz.underlying37 Kr Kr) rfl) rfl ?_
    rw[HX.out]
    exact⟨{p with A:=A3,c:=c3},rfl,HP4.out.other (t:=37) H4.out.get1 (by decide) (by decide) (by decide) _,(H4.out.row 1 (stA {s with disk:=d3,log:=l3} {p with A:=A3,c:=c3}) _ rfl).below⟩
  ·have h2b:(e2 != 0)=true:=bne_iff_ne.2 h2
   have HX:=Hq (HX1.out h2)
   clear HX1 HX2 HX3 h2
   go_wp2_with (first|(with_reducible refine lL H1.out.get0 Tryz.underlying37 ?_)|(with_reducible refine lS (stA s p) H1.out.get1 ?_))
   refine bodyPost_ret (v:=.tuple #[.agg (stA s p),e2]) (results_cell2 rfl _ _ rfl (load_whole (setRow_heap _ _ _ _ _ _ H1.out.get1) Tryz.underlying37 Kr Kr) rfl) rfl ?_
   rw[HX.out]
   exact⟨p,rfl,HP1.out.other (t:=37) H1.out.get1 (by decide) (by decide) (by decide) _,(H1.out.row 1 (stA s p) _ rfl).below⟩
variable {cl : Cl}
end Go.Proofs.YtilakddepaplhaaGreat
