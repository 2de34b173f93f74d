import Derived.Test.YtilakddepaplhaaGreatHm00
import Derived.Test.YtilakddepaplhaaGreatHm15
import Derived.Test.YtilakddepaplhaaGreatHm01
import Derived.Laws.MakeOwn
import Derived.Test.YtilakddepaplhaaGreatHm06
import Derived.Test.YtilakddepaplhaaGreatHm14
import Derived.Test.YtilakddepaplhaaGreatHm12
import Derived.BigRegion
import Derived.Test.YtilakddepaplhaaGreatHm11
set_option maxRecDepth 100000
set_option maxHeartbeats 16000000
set_option linter.unusedSimpArgs false
namespace Go.Proofs.YtilakddepaplhaaGreat
open Go.RowKit Go.Sort Go.Shelf
def Grew (w w':World):Prop:=∃ (q:Nat) (os:Array Obj),w'=Go.Sort.grow (w.drewN q) os
theorem Grew.refl (w:World):Grew w w:=⟨0,#[],by rw[Go.Sort.grow_empty];rfl⟩
theorem Grew.trans {u v w:World}(h:Grew u v)(k:Grew v w):Grew u w:=by
 obtain⟨q,os,rfl⟩:=h
 obtain⟨q',os',rfl⟩:=k
 refine⟨q+q',os++os',?_⟩
 show Go.Sort.grow (Go.Sort.grow ((u.drewN q).drewN q') os) os'=_
 rw[Go.Sort.grow_grow,World.drewN_drewN]
theorem Grew.drew {u v:World}(h:Grew u v):Grew u v.drew:=h.trans ⟨1,#[],by rw[Go.Sort.grow_empty];rfl⟩
theorem Grew.alloc {u v:World}(h:Grew u v)(o:Obj):Grew u (v.alloc o):=h.trans ⟨0,#[o],by rw[Go.Sort.alloc_eq_grow];rfl⟩
theorem Grew.below {u v:World}(h:Grew u v):Below u.heap.size u v:=by
 obtain⟨q,os,rfl⟩:=h
 refine⟨rfl,rfl,rfl,?_,fun k hk=>?_⟩
 ·show u.heap.size≤(u.heap++os).size;rw[Array.size_append];omega
 ·show(u.heap++os)[k]? =u.heap[k]?
  rw[Array.getElem?_append_left hk]
section
variable {α : Type} {enc : α → List Value} {k : Nat} {e : TypeId} {B g c : Nat} {w : World} {l : List α} [Inhabited α]
theorem flat_get (hk:∀ x,(enc x).length=k)(l:List α)(t:Nat)(ht:t<l.length*k):(l.flatMap enc)[t]? =some (flatK enc k l.toArray)[t]! :=by
 have hk0:0<k:=by rcases Nat.eq_zero_or_pos k with h|h;(· subst h;omega);(· exact h)
 have hd:t/k<l.length:=by rw[Nat.div_lt_iff_lt_mul hk0];exact ht
 have hm:t%k<k:=Nat.mod_lt _ hk0
 rw[get_flatK enc k l.toArray t (by simpa using ht)]
 have e1:t=t/k*k+t%k:=by rw[Nat.mul_comm];exact(Nat.div_add_mod t k).symm
 conv=>lhs;rw[e1,flat_at hk l (t/k) (t%k) hd hm]
 have e2:l.toArray[t/k]! =l[t/k]:=by simp[hd]
 rw[e2,List.getElem!_eq_getElem?_getD,List.getElem?_eq_getElem (by rw[hk];exact hm)]
 rfl
theorem own_holds (hk:∀ x,(enc x).length=k)(ho:OwnL enc k e B w (.slice (some ⟨g,0,none⟩) l.length c) l):HoldsK enc k w g 0 l.toArray:=by
 obtain⟨cur,hB,hg,hh,hn,hc,hs,ht⟩:=own_blk ho
 intro j hj
 rw[size_flatK,List.size_toArray]at hj
 refine⟨?_,blkFrozen hh _⟩
 rw[blkCell hh,Nat.zero_add,ht j hj,flat_get hk l j hj]
 rfl
theorem own_sorted (hk:∀ x,(enc x).length=k)(ho:OwnL enc k e B w (.slice (some ⟨g,0,none⟩) l.length c) l)(l':List α)(hl:l'.length=l.length)(n:Nat)(os:Array Obj):
 OwnL enc k e B (sortWorldK enc k w g 0 n l'.toArray os) (.slice (some ⟨g,0,none⟩) l.length c) l'∧Below B w (sortWorldK enc k w g 0 n l'.toArray os):=by
 obtain⟨cur,hB,hg,hh,hn,hc,hs,ht⟩:=own_blk ho
 have hlc:l.length*k≤c*k:=Nat.mul_le_mul_right _ hn
 have hblk:(sortWorldK enc k w g 0 n l'.toArray os).heap[g]? =some (.cells (putCells id 0 (flatK enc k l'.toArray) cur) e (0,0)):=by
  show(w.heap.modify g _++os)[g]? =_
  rw[Array.getElem?_append_left (by rw[Array.size_modify];exact hg),Array.getElem?_modify,if_pos rfl,hh]
  rfl
 refine⟨?_,⟨rfl,rfl,rfl,?_,fun j hj=>?_⟩⟩
 ·rw[← hl]
  refine own_mk hk hB hblk (by rw[hl];exact hn) hc (by unfold putCells;rw[Array.size_mapIdx];exact hs) (fun t h=>?_)
  rw[hl]at h
  unfold putCells
  rw[Array.getElem?_mapIdx,Array.getElem?_eq_getElem (by omega),Option.map_some,size_flatK,List.size_toArray,if_pos ⟨Nat.zero_le _,by rw[hl];omega⟩,flat_get hk l' t (by rw[hl];exact h)]
  rfl
 ·show w.heap.size≤(w.heap.modify g _++os).size
  rw[Array.size_append,Array.size_modify];omega
 ·show(w.heap.modify g _++os)[j]? =_
  rw[Array.getElem?_append_left (by rw[Array.size_modify];omega),Array.getElem?_modify,if_neg (by omega)]
end
theorem tot_swo {α:Type}{o:α→α→Int}(t:Sp.Tot o):SWO (ltOf o):=by
 refine⟨fun x=>by simp[ltOf,t.self],fun x y z h1 h2=>?_,fun x y z h1 h2=>?_⟩
 ·simp only[ltOf,decide_eq_true_eq]at*
  exact t.trans h1 h2
 ·simp only[ltOf,decide_eq_false_iff_not]at*
  have n1:=t.neg x y;have n2:=t.neg y z;have n3:=t.neg x z
  have:=t.le_trans (a:=z) (b:=y) (c:=x) (by omega) (by omega)
  omega
theorem tot_eq {α:Type}{o:α→α→Int}(t:Sp.Tot o)(x y:α)(h1:(ltOf o) x y=false)(h2:(ltOf o) y x=false):x=y:=by
 simp only[ltOf,decide_eq_false_iff_not]at*
 exact t.anti (by have:=t.neg x y;omega) (by have:=t.neg x y;omega)
theorem own_range {α:Type}{enc:α→List Value}{k:Nat}{e:TypeId}{B g c:Nat}{w:World}{l:List α}(hk:∀ x,(enc x).length=k)(ho:OwnL enc k e B w (.slice (some ⟨g,0,none⟩) l.length c) l)(j:Nat)(hj:j<l.length):w.rangeAt g (j*k) (enc l[j]):=by
 obtain⟨cur,hB,hg,hh,hn,hc,hs,ht⟩:=own_blk ho
 intro i v hi
 have hik:i<k:=by have:=(List.getElem?_eq_some_iff.1 hi).1;rw[hk]at this;exact this
 have hle:j*k+k≤l.length*k:=by have:=Nat.mul_le_mul_right k (show j+1≤l.length from hj);rwa[Nat.add_mul,Nat.one_mul]at this
 rw[blkCell hh,ht _ (by omega),flat_at hk l j i hj hik]
 exact hi
theorem own_somD {k:Nat}{e:TypeId}{B n:Nat}{w:World}{v:Value}{xs:List Value}(h:w.ownsRow B e k v n xs)(hn:0<n):∃ g c,v= .slice (some ⟨g,0,none⟩) n c:=by
 rcases h.2 with⟨_,h0⟩|⟨g,cap,cur,hv,_⟩
 ·omega
 ·exact⟨g,cap,hv⟩
theorem own_ins {α:Type}{enc:α→List Value}{k:Nat}{e:TypeId}{B:Nat}{w:World}{v:Value}{l:List α}{x:α}{j:Nat}(hj:j≤l.length)(h:w.ownsRow B e k v (j+1+(l.length-j)) ((l.take j).flatMap enc++enc x++(l.drop j).flatMap enc)):OwnL enc k e B w v (l.take j++x::l.drop j):=by
 have e1:(l.take j++x::l.drop j).length=j+1+(l.length-j):=by rw[List.length_append,List.length_take,List.length_cons,List.length_drop];omega
 have e2:(l.take j++x::l.drop j).flatMap enc=(l.take j).flatMap enc++enc x++(l.drop j).flatMap enc:=by rw[List.flatMap_append,List.flatMap_cons,List.append_assoc]
 unfold OwnL
 rw[e1,e2]
 exact h
theorem reads_drop {α:Type}{enc:α→List Value}{k:Nat}{w:World}{b c:Nat}{l:List α}(hk:∀ x,(enc x).length=k)(h:Reads w (some ⟨b,0,none⟩) c l.length (l.flatMap enc))(j:Nat)(hj:j≤l.length)(hc:l.length≤c):Reads w (if c=j then(some ⟨b,0,none⟩:Option Addr)else some ⟨b,j*k,none⟩) (c-j) (l.length-j) ((l.drop j).flatMap enc):=fun h0=>by
 obtain⟨b',off,e,h1,h2,h3⟩:=h (by omega)
 injection e with e
 injection e with e1 e2
 subst e1 e2
 refine⟨b,j*k,by rw[if_neg (by omega)],by omega,h2,fun t v ht=>?_⟩
 have h4:l.flatMap enc=(l.take j).flatMap enc++(l.drop j).flatMap enc:=by rw[← List.flatMap_append,List.take_append_drop]
 have h5:((l.take j).flatMap enc).length=j*k:=by rw[flat_len hk,List.length_take,Nat.min_eq_left hj]
 have h6:=h3 (j*k+t) v (by rw[h4,List.getElem?_append_right (by omega),h5,Nat.add_sub_cancel_left];exact ht)
 rwa[Nat.zero_add]at h6
theorem reads_take {α:Type}{enc:α→List Value}{k:Nat}{w:World}{A:Option Addr}{c:Nat}{l:List α}(_hk:∀ x,(enc x).length=k)(h:Reads w A c l.length (l.flatMap enc))(m:Nat)(hm:m≤l.length):Reads w A c m ((l.take m).flatMap enc):=fun h0=>by
 obtain⟨b,off,e,h1,h2,h3⟩:=h (by omega)
 refine⟨b,off,e,by omega,h2,fun j v hj=>h3 j v ?_⟩
 have h4:l.flatMap enc=(l.take m).flatMap enc++(l.drop m).flatMap enc:=by rw[← List.flatMap_append,List.take_append_drop]
 rw[h4,List.getElem?_append_left (List.getElem?_eq_some_iff.1 hj).1]
 exact hj
theorem totI:Sp.Tot Lib.compareInt:=⟨Sp.ci_neg,fun h=>Sp.ci_zero.1 h,fun h k=>by rw[Sp.ci_lt]at*;omega⟩
def isD (f:Fr):Bool:=decide (f.bytes.size≠0)&&decide (f.rc≠0)
def dirtP (fs:List Fr):List Int:=(fs.filter isD).map (·.page)
def rcOf (fs:List Fr)(p:Int):Int:=((fs.find? (fun f=>isD f&&decide (f.page=p))).map (·.rc)).getD 0
def edC (rf:Int→Int)(p:Int):List Value:=[.int .i64 p,.int .i64 (rf p)]
theorem edC_len (rf:Int→Int)(p:Int):(edC rf p).length=2:=rfl
theorem edC_one (rf:Int→Int)(p:Int):∀ u∈edC rf p,u.oneCell'=true:=by
 intro u hu
 simp only[edC,List.mem_cons,List.not_mem_nil,or_false]at hu
 rcases hu with rfl|rfl<;>rfl
theorem edC_all (rf:Int→Int)(l:List Int):∀ u∈l.flatMap (edC rf),u.oneCell'=true:=by
 intro u hu
 obtain⟨v,_,h⟩:=List.mem_flatMap.1 hu
 exact edC_one rf v u h
def dirL (fs:List Fr):List Rc.DirtyAt:=(Sp.sortO Lib.compareInt (dirtP fs)).map (fun p=>⟨p,rcOf fs p⟩)
theorem dirL_len (fs:List Fr):(dirL fs).length=(Sp.sortO Lib.compareInt (dirtP fs)).length:=by unfold dirL;rw[List.length_map]
theorem dirL_flat (fs:List Fr):(dirL fs).flatMap diC=(Sp.sortO Lib.compareInt (dirtP fs)).flatMap (edC (rcOf fs)):=by unfold dirL;rw[List.flatMap_map];rfl
theorem isD_iff {f:Fr}:isD f=true↔f.bytes≠⟨#[]⟩∧f.rc≠0:=by
 unfold isD
 rw[Bool.and_eq_true,decide_eq_true_iff,decide_eq_true_iff]
 constructor
 ·rintro⟨h1,h2⟩
  exact⟨fun h=>h1 (by rw[h];rfl),h2⟩
 ·rintro⟨h1,h2⟩
  exact⟨fun h=>h1 (ByteArray.ext (Array.eq_empty_of_size_eq_zero h)),h2⟩
theorem rc_at {fs:List Fr}(h:FrI fs)(i:Nat)(hi:i<fs.length)(hd:isD fs[i]=true):rcOf fs fs[i].page=fs[i].rc:=by
 unfold rcOf
 cases hf:fs.find? (fun f=>isD f&&decide (f.page=fs[i].page))with
 |none=>
  have h1:=List.find?_eq_none.1 hf fs[i] (List.getElem_mem hi)
  rw[hd]at h1
  simp at h1
 |some x=>
  have h1:=List.find?_some hf
  have h2:=List.mem_of_find?_eq_some hf
  rw[Bool.and_eq_true,decide_eq_true_iff]at h1
  obtain⟨j,hj,rfl⟩:=List.getElem_of_mem h2
  by_cases hij:i=j
  ·subst hij;rfl
  ·exact absurd h1.2.symm (h.ds i j hi hj hij (isD_iff.1 hd).1 (isD_iff.1 h1.1).1)
theorem dirtP_take (fs:List Fr)(k:Nat)(hk:k<fs.length):(isD fs[k]=true→dirtP (fs.take (k+1))=dirtP (fs.take k)++[fs[k].page])∧(isD fs[k]=false→dirtP (fs.take (k+1))=dirtP (fs.take k)):=by
 unfold dirtP
 rw[List.take_succ_eq_append_getElem hk,List.filter_append,List.map_append]
 exact⟨fun h=>by rw[List.filter_cons_of_pos h];rfl,fun h=>by rw[List.filter_cons_of_neg (by rw[h];simp)];simp⟩
theorem dirtP_len (fs:List Fr)(k:Nat):(dirtP (fs.take k)).length≤k:=by
 unfold dirtP
 rw[List.length_map]
 exact Nat.le_trans (List.length_filter_le _ _) (by rw[List.length_take];omega)
theorem put_dirt (fs:List Fr)(k:Nat)(hk:k<fs.length)(hd:isD fs[k]=true)(j:Nat)(h1:∀ t (ht:t<(Sp.sortO Lib.compareInt (dirtP (fs.take k))).length),t<j→(Sp.sortO Lib.compareInt (dirtP (fs.take k)))[t]<fs[k].page)(h2:∀ ht:j<(Sp.sortO Lib.compareInt (dirtP (fs.take k))).length,¬ (Sp.sortO Lib.compareInt (dirtP (fs.take k)))[j]<fs[k].page):
 Sp.sortO Lib.compareInt (dirtP (fs.take (k+1)))=(Sp.sortO Lib.compareInt (dirtP (fs.take k))).take j++fs[k].page::(Sp.sortO Lib.compareInt (dirtP (fs.take k))).drop j:=by
 obtain⟨hu,hp⟩:=totI.put (totI.sort_up (dirtP (fs.take k))) (x:=fs[k].page) (k:=j) (fun t ht htj=>by have:=Sp.ci_lt.2 (h1 t ht htj);omega) (fun ht=>by
  have h3:=h2 ht
  have h4:¬ Lib.compareInt (Sp.sortO Lib.compareInt (dirtP (fs.take k)))[j] fs[k].page<0:=fun h=>h3 (Sp.ci_lt.1 h)
  have:=Sp.ci_neg (Sp.sortO Lib.compareInt (dirtP (fs.take k)))[j] fs[k].page
  omega)
 refine totI.sort_eq (hp.trans ?_) hu
 rw[(dirtP_take fs k hk).1 hd]
 exact((Sp.sort_perm Lib.compareInt (dirtP (fs.take k))).cons fs[k].page).trans (List.perm_append_singleton fs[k].page (dirtP (fs.take k))).symm
def DiOut (fs:List Fr)(w:World)(e:Ending)(w':World):Prop:=∃ A c,e= .returned (.slice A (dirL fs).length c)∧DiR w' A c (dirL fs)∧Below w.heap.size w w'
theorem rdirty_any (s:Tx.St)(p:SP)(fs:List Fr)(hf:FrI fs)(w:World)(h:PoolR w s p fs):
 Calls Tryz.prog 33 #[storeV s p] w (DiOut fs w):=by
 obtain⟨i0,hi0,hz0,hz1,hz2⟩:=info_parts info_dirty
 have HFN:=Hq h.fn
 have HR:=Hq h.fr
 have HF:=Hq hf
 have HLF:=Hq (show fs.length≤4 from by rw[hf.n4];exact Nat.le_refl _)
 have HDF:=Hq (dirL_flat fs)
 have HDL:=Hq (dirL_len fs)
 obtain⟨rf,hrf⟩:∃ rf,rf=rcOf fs:=⟨_,rfl⟩
 have HRC:=Hq (show ∀ i (hi:i<fs.length),isD fs[i]=true→rf fs[i].page=fs[i].rc from fun i hi hd=>by rw[hrf];exact rc_at hf i hi hd)
 rw[← hrf]at HDF
 clear h hf hrf
 go_enter Tryz.func33,Tryz.ntmps33
 go_upto_region 1 with fail
 have H0:=Hq (show BxL w.heap.size w [((stA s p),37)] (w.alloc (.cells (stA s p) 37))from((BxL.nil (Below.refl w.heap.size w)).new (by simp) (stA s p) 37))
 obtain⟨W0,hW0⟩:∃ W,W=(w.alloc (.cells (stA s p) 37)):=⟨_,rfl⟩
 rw[← hW0]at H0 ⊢
 clear hW0
 go_upto_region 2 with fail
 have HO0:=Hq (ownEmpty W0 94 2)
 have hb0:=allocB W0 (.cells #[] 94)
 have H1:=Hq (H0.out.step hb0)
 have HGE:=Hq (show w.heap.size<W0.heap.size from H0.out.lt (i:=0) (by simp))
 obtain⟨g0,hg0⟩:∃ g,g=W0.heap.size:=⟨_,rfl⟩
 rw[← hg0]at HO0 HGE
 rw[← hg0]
 generalize W0.alloc (.cells #[] 94)=W1 at HO0 H1 ⊢
 clear hb0 H0 hg0
 go_wp2_with fail
 go_loopw [3,4] (fun v i wr=>∃ k og oc:Nat,k≤fs.length∧i= .int .i64 k∧v= .slice (some ⟨og,0,none⟩) (Sp.sortO Lib.compareInt (dirtP (fs.take k))).length oc∧OwnL (edC rf) 2 94 g0 wr (.slice (some ⟨og,0,none⟩) (Sp.sortO Lib.compareInt (dirtP (fs.take k))).length oc) (Sp.sortO Lib.compareInt (dirtP (fs.take k)))∧BxL w.heap.size w [((stA s p),37)] wr) (fun _ i _=>fs.length-(intOf i).toNat)
 case atStart=>exact⟨0,g0,0,Nat.zero_le _,rfl,by simp[Sp.sortO,dirtP],by rw[show Sp.sortO Lib.compareInt (dirtP (fs.take 0))=[]from by simp[Sp.sortO,dirtP]];exact HO0.out,H1.out⟩
 case round=>
  clear HO0 H1
  obtain⟨k,og,oc,hk,rfl,rfl,ho,hbx⟩:=hrel
  have HO:=Hq ho
  have HBX:=Hq hbx
  clear ho hbx
  have hk0:(0:Int)≤(k:Int):=by omega
  have hc:=show wr.cell? ⟨w.heap.size,11,none⟩=some (.slice p.F fs.length p.fc)from by rw[blkCell HBX.out.get0,← HFN.out];rfl
  by_cases hlt:k<fs.length
  ·obtain⟨b,off,hpF,hcc,hbl,hcell⟩:=read_at frL_len (HR.out.below HBX.out.below) hlt
   rw[hpF]at hc
   have hki:(k:Int)<(fs.length:Int):=by omega
   have hwk:IntKind.i64.wrap ((k:Int)+1)=(k:Int)+1:=IntWalk.i64_in _ (by have:=HLF.out;omega)
   have HPT:=Hq (put_dirt fs k hlt)
   have HTK:=Hq (dirtP_take fs k hlt).2
   have HRK:=Hq (HRC.out k hlt)
   have hSl:(Sp.sortO Lib.compareInt (dirtP (fs.take k))).length≤k:=by rw[Sp.sort_len];exact dirtP_len fs k
   have hsb:(Sp.sortO Lib.compareInt (dirtP (fs.take k))).length≤4:=by have:=HLF.out;omega
   obtain⟨S2,hS2⟩:∃ S2,S2=Sp.sortO Lib.compareInt (dirtP (fs.take (k+1))):=⟨_,rfl⟩
   have HTK2:=Hq (show isD fs[k]=false→S2=Sp.sortO Lib.compareInt (dirtP (fs.take k))from fun h=>by rw[hS2,HTK.out h])
   rw[← hS2]at HPT
   have HS2:=Hq hS2
   clear hS2 HTK hSl
   generalize Sp.sortO Lib.compareInt (dirtP (fs.take k))=S at HPT HTK2 hsb HO ⊢
   generalize fs[k]=f at HPT HTK2 HRK hcell
   have HC0:=Hq (show wr.rangeAt b (off+k*5) (frL f)from hcell)
   clear hcell hcc hbl hpF
   go_upto_region 6 with(first
    |(refine listWants Kr fun K hK=>wp_load_mid 81 (.tmp 21) rfl b (off+k*5) rfl (frL f) _ HC0.out Tryz.underlying81 Kr Kr (hK _ _ ?_))
    |(with_reducible refine wpList_store_new rfl 81 (.tmp 5) (.tmp 22) rfl (frA f) _ _ rfl Kr Kr Kr Kr ?_))
   have hb5:=allocB wr (.cells (frA f) 81)
   have H5:=Hq (HBX.out.step hb5)
   have HG0:=Hq (show g0≤wr.heap.size from by obtain⟨_,h1,h2,_⟩:=own_blk HO.out;omega)
   have H5L:=Hq hb5.size
   have HG5:=Hq (heap_alloc_new wr (.cells (frA f) 81))
   have HO5:=Hq (ownBelow HO.out hb5)
   obtain⟨gf,hgf⟩:∃ g,g=wr.heap.size:=⟨_,rfl⟩
   obtain⟨w5,hw5⟩:∃ W,W=wr.alloc (.cells (frA f) 81):=⟨_,rfl⟩
   rw[← hgf,← hw5]at HG5
   rw[← hw5]at H5 HO5 H5L
   rw[← hw5,← hgf]
   clear hw5 hgf hb5 HBX HO HC0 hc
   try simp only[Act.put]
   have hc1:=show w5.cell? ⟨gf,1,none⟩=some (.string f.bytes)from by rw[blkCell HG5.out];rfl
   have hc4:=show w5.cell? ⟨gf,4,none⟩=some (.int .i64 f.rc)from by rw[blkCell HG5.out];rfl
   by_cases hd:isD f=true
   ·obtain⟨hd1,hd2⟩:=isD_iff.1 hd
    obtain⟨hq1,hq2,hq3⟩:=str_ne hd1
    have hq4:(f.rc==0)=false:=beq_eq_false_iff_ne.2 hd2
    have HPJ:=Hq (HPT.out hd)
    have HRF:=Hq (HRK.out hd)
    clear HPT HTK2 HRK hd hd1 hd2
    go_wp2_with fail
    clear hc1 hc4 hq1 hq2 hq3 hq4
    obtain⟨pg,hpg⟩:∃ pg,pg=f.page:=⟨_,rfl⟩
    have HPG:=Hq hpg
    rw[← hpg]at HPJ HRF
    clear hpg
    go_loopw [6] (fun i wq=>∃ j:Nat,j≤S.length∧i= .int .i64 j∧(∀ t (ht:t<S.length),t<j→S[t]<pg)∧Below w5.heap.size w5 wq) (fun i _=>S.length-(intOf i).toNat)
    case atStart=>exact⟨0,Nat.zero_le _,rfl,fun _ _ h=>absurd h (by omega),Below.refl _ _⟩
    case round=>
     obtain⟨j,hj,rfl,hall,hbq⟩:=hrel
     have HBQ:=Hq hbq
     have HALL:=Hq hall
     clear hall hbq
     have hj0:(0:Int)≤(j:Int):=by omega
     have hwj:IntKind.i64.wrap ((j:Int)+1)=(j:Int)+1:=IntWalk.i64_in _ (by omega)
     go_upto_region 8 with fail
     go_cut [44] (fun q wc=>∃ t:Bool,q= .bool t∧(t=true→∃ hj:j<S.length,S[j]<pg)∧(t=false→∀ hj:j<S.length,¬ S[j]<pg)∧Below w5.heap.size w5 wc)
     case first=>
      by_cases hjl:j<S.length
      ·have hown:=ownBelow HO5.out HBQ.out
       have hrg:=own_range (edC_len rf) hown j hjl
       have hogl:og<wr.heap.size:=by obtain⟨_,_,h,_⟩:=own_blk hown;exact h
       have HGQ:=Hq (blkOld HG5.out HBQ.out)
       have HT1:=Hq (show S[j]<pg→∃ hj:j<S.length,S[j]<pg from fun h=>⟨hjl,h⟩)
       have HT2:=Hq (show ¬ S[j]<pg→∀ hj:j<S.length,¬ S[j]<pg from fun h _=>h)
       generalize hyy:S[j]=y at hrg
       rw[hyy]at HT1 HT2
       clear hyy
       have hjc:∀ u,Below wr.heap.size wr u→u.cell? ⟨og,j*2,none⟩=some (.int .i64 y):=fun u hu=>by
        rw[hu.cell (p:=⟨og,j*2,none⟩) hogl]
        exact hrg 0 _ rfl
       have HJC:=Hq hjc
       have hjd:decide (j<S.length)=true:=decide_eq_true hjl
       have hji:(j:Int)<(S.length:Int):=by omega
       clear hrg hown hjc
       by_cases ho:y<pg
       ·have HFT:=Hq (HT1.out ho)
        clear HT1 HT2
        have hSn:Below wr.heap.size wr wr.drew:=(Below.refl _ wr).drew
        refine wp_region_held_drew (S:=(fun u=>Below wr.heap.size wr u)) Kr ?_ (fun hHeld=>?_)
        ·exact hSn
        generalize wr.drew=w9 at hSn ⊢
        refine tkW 0 (some 31) (v:=?_) rfl ?_ ?_
        rotate_left
        ·intro u hSu;have ha:=HJC.out u hSu;have hb:=show u.cell? ⟨gf,0,none⟩=some (.int .i64 f.page)from by rw[blkCell (blkOld HGQ.out hSu)];rfl
         rw[← HPG.out]at hb;clear hSu;go_simp;(try with_reducible rfl)
        try simp only[Act.put,pS]
        refine tkW 1 (some 32) (v:=?_) rfl ?_ ?_
        rotate_left
        ·intro u hSu;have ha:=HJC.out u hSu;have hb:=show u.cell? ⟨gf,0,none⟩=some (.int .i64 f.page)from by rw[blkCell (blkOld HGQ.out hSu)];rfl
         rw[← HPG.out]at hb;clear hSu;go_simp;(try with_reducible rfl)
        try simp only[Act.put,pS]
        refine tkW 2 (some 33) (v:=?_) rfl ?_ ?_
        rotate_left
        ·intro u hSu;have ha:=HJC.out u hSu;have hb:=show u.cell? ⟨gf,0,none⟩=some (.int .i64 f.page)from by rw[blkCell (blkOld HGQ.out hSu)];rfl
         rw[← HPG.out]at hb;clear hSu;go_simp;(try with_reducible rfl)
        try simp only[Act.put,pS]
        refine tkW 3 (some 34) (v:=?_) rfl ?_ ?_
        rotate_left
        ·intro u hSu;have ha:=HJC.out u hSu;have hb:=show u.cell? ⟨gf,0,none⟩=some (.int .i64 f.page)from by rw[blkCell (blkOld HGQ.out hSu)];rfl
         rw[← HPG.out]at hb;clear hSu;go_simp;(try with_reducible rfl)
        try simp only[Act.put,pS]
        refine tkW 4 (some 35) (v:=?_) rfl ?_ ?_
        rotate_left
        ·intro u hSu;have ha:=HJC.out u hSu;have hb:=show u.cell? ⟨gf,0,none⟩=some (.int .i64 f.page)from by rw[blkCell (blkOld HGQ.out hSu)];rfl
         rw[← HPG.out]at hb;clear hSu;go_simp;(try with_reducible rfl)
        try simp only[Act.put,pS]
        refine tkW 5 (some 36) (v:=?_) rfl ?_ ?_
        rotate_left
        ·intro u hSu;have ha:=HJC.out u hSu;have hb:=show u.cell? ⟨gf,0,none⟩=some (.int .i64 f.page)from by rw[blkCell (blkOld HGQ.out hSu)];rfl
         rw[← HPG.out]at hb;clear hSu;go_simp;(try with_reducible rfl)
        try simp only[Act.put,pS]
        refine tkW 6 (some 37) (v:=?_) rfl ?_ ?_
        rotate_left
        ·intro u hSu;have ha:=HJC.out u hSu;have hb:=show u.cell? ⟨gf,0,none⟩=some (.int .i64 f.page)from by rw[blkCell (blkOld HGQ.out hSu)];rfl
         rw[← HPG.out]at hb;clear hSu;go_simp;(try with_reducible rfl)
        try simp only[Act.put,pS]
        refine tkW 7 (some 38) (v:=?_) rfl ?_ ?_
        rotate_left
        ·intro u hSu;have ha:=HJC.out u hSu;have hb:=show u.cell? ⟨gf,0,none⟩=some (.int .i64 f.page)from by rw[blkCell (blkOld HGQ.out hSu)];rfl
         rw[← HPG.out]at hb;clear hSu;go_simp;(try with_reducible rfl)
        try simp only[Act.put,pS]
        refine tkW 8 (some 39) (v:=?_) rfl ?_ ?_
        rotate_left
        ·intro u hSu;have ha:=HJC.out u hSu;have hb:=show u.cell? ⟨gf,0,none⟩=some (.int .i64 f.page)from by rw[blkCell (blkOld HGQ.out hSu)];rfl
         rw[← HPG.out]at hb;clear hSu;go_simp;(try with_reducible rfl)
        try simp only[Act.put,pS]
        refine tkW 9 (some 40) (v:=?_) rfl ?_ ?_
        rotate_left
        ·intro u hSu;have ha:=HJC.out u hSu;have hb:=show u.cell? ⟨gf,0,none⟩=some (.int .i64 f.page)from by rw[blkCell (blkOld HGQ.out hSu)];rfl
         rw[← HPG.out]at hb;clear hSu;go_simp;(try with_reducible rfl)
        try simp only[Act.put,pS]
        refine tkW 10 (some 41) (v:=?_) rfl ?_ ?_
        rotate_left
        ·intro u hSu;have ha:=HJC.out u hSu;have hb:=show u.cell? ⟨gf,0,none⟩=some (.int .i64 f.page)from by rw[blkCell (blkOld HGQ.out hSu)];rfl
         rw[← HPG.out]at hb;clear hSu;go_simp;(try with_reducible rfl)
        try simp only[Act.put,pS]
        refine tkW 11 (some 42) (v:=?_) rfl ?_ ?_
        rotate_left
        ·intro u hSu;have ha:=HJC.out u hSu;have hb:=show u.cell? ⟨gf,0,none⟩=some (.int .i64 f.page)from by rw[blkCell (blkOld HGQ.out hSu)];rfl
         rw[← HPG.out]at hb;clear hSu;go_simp;(try with_reducible rfl)
        try simp only[Act.put,pS]
        refine tkW 12 (some 43) (v:=?_) rfl ?_ ?_
        rotate_left
        ·intro u hSu;have ha:=HJC.out u hSu;have hb:=show u.cell? ⟨gf,0,none⟩=some (.int .i64 f.page)from by rw[blkCell (blkOld HGQ.out hSu)];rfl
         rw[← HPG.out]at hb;clear hSu;go_simp;(try with_reducible rfl)
        try simp only[Act.put,pS]
        refine tkW 13 (some 44) (v:=?_) rfl ?_ ?_
        rotate_left
        ·intro u hSu;have ha:=HJC.out u hSu;have hb:=show u.cell? ⟨gf,0,none⟩=some (.int .i64 f.page)from by rw[blkCell (blkOld HGQ.out hSu)];rfl
         rw[← HPG.out]at hb;clear hSu;go_simp;(try with_reducible rfl)
        try simp only[Act.put,pS]
        refine wpAnyH_done Kr ?_ _
        clear hHeld
        go_wp2_with fail
        go_meet
        case rel=>exact⟨true,by simp[ho],fun _=>HFT.out,(fun h=>by cases h),joinB HBQ.out hSn⟩
       ·have HFT:=Hq (HT2.out ho)
        clear HT1 HT2
        have hSn:Below wr.heap.size wr wr.drew:=(Below.refl _ wr).drew
        refine wp_region_held_drew (S:=(fun u=>Below wr.heap.size wr u)) Kr ?_ (fun hHeld=>?_)
        ·exact hSn
        generalize wr.drew=w9 at hSn ⊢
        refine tkW 0 (some 31) (v:=?_) rfl ?_ ?_
        rotate_left
        ·intro u hSu;have ha:=HJC.out u hSu;have hb:=show u.cell? ⟨gf,0,none⟩=some (.int .i64 f.page)from by rw[blkCell (blkOld HGQ.out hSu)];rfl
         rw[← HPG.out]at hb;clear hSu;go_simp;(try with_reducible rfl)
        try simp only[Act.put,pS]
        refine tkW 1 (some 32) (v:=?_) rfl ?_ ?_
        rotate_left
        ·intro u hSu;have ha:=HJC.out u hSu;have hb:=show u.cell? ⟨gf,0,none⟩=some (.int .i64 f.page)from by rw[blkCell (blkOld HGQ.out hSu)];rfl
         rw[← HPG.out]at hb;clear hSu;go_simp;(try with_reducible rfl)
        try simp only[Act.put,pS]
        refine tkW 2 (some 33) (v:=?_) rfl ?_ ?_
        rotate_left
        ·intro u hSu;have ha:=HJC.out u hSu;have hb:=show u.cell? ⟨gf,0,none⟩=some (.int .i64 f.page)from by rw[blkCell (blkOld HGQ.out hSu)];rfl
         rw[← HPG.out]at hb;clear hSu;go_simp;(try with_reducible rfl)
        try simp only[Act.put,pS]
        refine tkW 3 (some 34) (v:=?_) rfl ?_ ?_
        rotate_left
        ·intro u hSu;have ha:=HJC.out u hSu;have hb:=show u.cell? ⟨gf,0,none⟩=some (.int .i64 f.page)from by rw[blkCell (blkOld HGQ.out hSu)];rfl
         rw[← HPG.out]at hb;clear hSu;go_simp;(try with_reducible rfl)
        try simp only[Act.put,pS]
        refine tkW 4 (some 35) (v:=?_) rfl ?_ ?_
        rotate_left
        ·intro u hSu;have ha:=HJC.out u hSu;have hb:=show u.cell? ⟨gf,0,none⟩=some (.int .i64 f.page)from by rw[blkCell (blkOld HGQ.out hSu)];rfl
         rw[← HPG.out]at hb;clear hSu;go_simp;(try with_reducible rfl)
        try simp only[Act.put,pS]
        refine tkW 5 (some 36) (v:=?_) rfl ?_ ?_
        rotate_left
        ·intro u hSu;have ha:=HJC.out u hSu;have hb:=show u.cell? ⟨gf,0,none⟩=some (.int .i64 f.page)from by rw[blkCell (blkOld HGQ.out hSu)];rfl
         rw[← HPG.out]at hb;clear hSu;go_simp;(try with_reducible rfl)
        try simp only[Act.put,pS]
        refine tkW 6 (some 37) (v:=?_) rfl ?_ ?_
        rotate_left
        ·intro u hSu;have ha:=HJC.out u hSu;have hb:=show u.cell? ⟨gf,0,none⟩=some (.int .i64 f.page)from by rw[blkCell (blkOld HGQ.out hSu)];rfl
         rw[← HPG.out]at hb;clear hSu;go_simp;(try with_reducible rfl)
        try simp only[Act.put,pS]
        refine tkW 7 (some 38) (v:=?_) rfl ?_ ?_
        rotate_left
        ·intro u hSu;have ha:=HJC.out u hSu;have hb:=show u.cell? ⟨gf,0,none⟩=some (.int .i64 f.page)from by rw[blkCell (blkOld HGQ.out hSu)];rfl
         rw[← HPG.out]at hb;clear hSu;go_simp;(try with_reducible rfl)
        try simp only[Act.put,pS]
        refine tkW 8 (some 39) (v:=?_) rfl ?_ ?_
        rotate_left
        ·intro u hSu;have ha:=HJC.out u hSu;have hb:=show u.cell? ⟨gf,0,none⟩=some (.int .i64 f.page)from by rw[blkCell (blkOld HGQ.out hSu)];rfl
         rw[← HPG.out]at hb;clear hSu;go_simp;(try with_reducible rfl)
        try simp only[Act.put,pS]
        refine tkW 9 (some 40) (v:=?_) rfl ?_ ?_
        rotate_left
        ·intro u hSu;have ha:=HJC.out u hSu;have hb:=show u.cell? ⟨gf,0,none⟩=some (.int .i64 f.page)from by rw[blkCell (blkOld HGQ.out hSu)];rfl
         rw[← HPG.out]at hb;clear hSu;go_simp;(try with_reducible rfl)
        try simp only[Act.put,pS]
        refine tkW 10 (some 41) (v:=?_) rfl ?_ ?_
        rotate_left
        ·intro u hSu;have ha:=HJC.out u hSu;have hb:=show u.cell? ⟨gf,0,none⟩=some (.int .i64 f.page)from by rw[blkCell (blkOld HGQ.out hSu)];rfl
         rw[← HPG.out]at hb;clear hSu;go_simp;(try with_reducible rfl)
        try simp only[Act.put,pS]
        refine tkW 11 (some 42) (v:=?_) rfl ?_ ?_
        rotate_left
        ·intro u hSu;have ha:=HJC.out u hSu;have hb:=show u.cell? ⟨gf,0,none⟩=some (.int .i64 f.page)from by rw[blkCell (blkOld HGQ.out hSu)];rfl
         rw[← HPG.out]at hb;clear hSu;go_simp;(try with_reducible rfl)
        try simp only[Act.put,pS]
        refine tkW 12 (some 43) (v:=?_) rfl ?_ ?_
        rotate_left
        ·intro u hSu;have ha:=HJC.out u hSu;have hb:=show u.cell? ⟨gf,0,none⟩=some (.int .i64 f.page)from by rw[blkCell (blkOld HGQ.out hSu)];rfl
         rw[← HPG.out]at hb;clear hSu;go_simp;(try with_reducible rfl)
        try simp only[Act.put,pS]
        refine tkW 13 (some 44) (v:=?_) rfl ?_ ?_
        rotate_left
        ·intro u hSu;have ha:=HJC.out u hSu;have hb:=show u.cell? ⟨gf,0,none⟩=some (.int .i64 f.page)from by rw[blkCell (blkOld HGQ.out hSu)];rfl
         rw[← HPG.out]at hb;clear hSu;go_simp;(try with_reducible rfl)
        try simp only[Act.put,pS]
        refine wpAnyH_done Kr ?_ _
        clear hHeld
        go_wp2_with fail
        go_meet
        case rel=>exact⟨false,by simp[ho],(fun h=>by cases h),fun _=>HFT.out,joinB HBQ.out hSn⟩
      ·have hjd:decide (j<S.length)=false:=decide_eq_false hjl
       have hji:¬ (j:Int)<(S.length:Int):=by omega
       have HFT:=Hq hjl
       have hSn:Below wr.heap.size wr wr.drew:=(Below.refl _ wr).drew
       refine wp_region_held_drew (S:=(fun u=>Below wr.heap.size wr u)) Kr ?_ (fun hHeld=>?_)
       ·exact hSn
       generalize wr.drew=w9 at hSn ⊢
       refine tkW 0 (some 31) (v:=?_) rfl ?_ ?_
       rotate_left
       ·intro u hSu;clear hSu;go_simp;(try with_reducible rfl)
       try simp only[Act.put,pS]
       refine tkW 1 (some 32) (v:=?_) rfl ?_ ?_
       rotate_left
       ·intro u hSu;clear hSu;go_simp;(try with_reducible rfl)
       try simp only[Act.put,pS]
       refine tkW 2 (some 33) (v:=?_) rfl ?_ ?_
       rotate_left
       ·intro u hSu;clear hSu;go_simp;(try with_reducible rfl)
       try simp only[Act.put,pS]
       refine tkW 3 (some 34) (v:=?_) rfl ?_ ?_
       rotate_left
       ·intro u hSu;clear hSu;go_simp;(try with_reducible rfl)
       try simp only[Act.put,pS]
       refine tkW 4 (some 35) (v:=?_) rfl ?_ ?_
       rotate_left
       ·intro u hSu;clear hSu;go_simp;(try with_reducible rfl)
       try simp only[Act.put,pS]
       refine tkO 5 (some 36) rfl ?_
       try simp only[Act.put,pS]
       refine tkO 6 (some 37) rfl ?_
       try simp only[Act.put,pS]
       refine tkO 7 (some 38) rfl ?_
       try simp only[Act.put,pS]
       refine tkO 8 (some 39) rfl ?_
       try simp only[Act.put,pS]
       refine tkO 9 (some 40) rfl ?_
       try simp only[Act.put,pS]
       refine tkO 10 (some 41) rfl ?_
       try simp only[Act.put,pS]
       refine tkO 11 (some 42) rfl ?_
       try simp only[Act.put,pS]
       refine tkO 12 (some 43) rfl ?_
       try simp only[Act.put,pS]
       refine tkW 13 (some 44) (v:=?_) rfl ?_ ?_
       rotate_left
       ·intro u hSu;clear hSu;go_simp;(try with_reducible rfl)
       try simp only[Act.put,pS]
       refine wpAnyH_done Kr ?_ _
       clear hHeld
       go_wp2_with fail
       go_meet
       case rel=>exact⟨false,rfl,(fun h=>by cases h),(fun _ hj=>absurd hj HFT.out),joinB HBQ.out hSn⟩
     case rest=>
      obtain⟨t,rfl,ht1,ht2,hbc⟩:=hcut
      cases t with
      |true=>
       obtain⟨hjl,hle⟩:=ht1 rfl
       have HGA:=Hq (show ∀ t (ht:t<S.length),t<j+1→S[t]<pg from fun t ht htj=>by
        rcases Nat.lt_or_eq_of_le (Nat.le_of_lt_succ htj)with h5|h5
        ·exact HALL.out t ht h5
        ·subst h5;exact hle)
       clear ht1 ht2 hle
       go_wp2_with fail
       go_roundw
       case rel=>exact⟨j+1,by omega,by go_num,HGA.out,hbc⟩
       case measure=>simp[intOf];omega
      |false=>
       have HE:=Hq (HPJ.out j HALL.out (fun h=>by have:=ht2 rfl h;omega))
       have HGC:=Hq (blkOld HG5.out hbc)
       have H6:=Hq (H5.out.step hbc)
       clear ht1 ht2
       have HOC:=Hq (ownBelow HO5.out hbc)
       skip
       obtain⟨_,_,hogl,_,hcl,hcm,_,_⟩:=own_blk HOC.out
       have HA8:=Hq (allocB wc (.cells #[] 94))
       have HT8:=Hq ((reads_take (edC_len rf) (own_reads HOC.out) j hj).below HA8.out)
       have HD8:=Hq (reads_drop (edC_len rf) (own_reads HOC.out) j hj hcl)
       skip
       have hji:(j:Int)≤(S.length:Int):=by omega
       have hjc:(j:Int)≤(oc:Int):=by omega
       have hsc:(S.length:Int)≤(oc:Int):=by omega
       have hmx:oc≤maxLen:=hcm
       clear hogl hcm
       go_wp2_with (first|(at_builtin;refine listWants Kr fun K hK=>wp_appR (wc.alloc (.cells #[] 94)) (.tmp 47) (.tmp 50) 53 94 i0 (.agg #[(),()]) 2 16 Tryz.underlying53 hi0 hz0 hz1 hz2 rfl (by omega) rfl wc.heap.size _ 0 [] rfl (ownEmpty wc 94 2) (some ⟨og,0,none⟩) j oc ((S.take j).flatMap (edC rf)) rfl HT8.out (by rw[flat_len (edC_len rf),List.length_take,Nat.min_eq_left hj]) ((edC_all rf) _) (by omega) (by omega) HA8.out.size ?_;intro v5 w5 ho5 hg5 hb5;rw[List.nil_append,Nat.zero_add]at ho5;have HB5:=Hq (HA8.out.trans hb5);clear hg5 hb5;obtain⟨A5,c5,rfl⟩:=ownLen ho5;have HO5:=Hq ho5;clear ho5;have hg0:=show w5.cell? ⟨gf,0,none⟩=some (.int .i64 pg)from(by rw[blkCell (blkOld HGC.out HB5.out),HPG.out];rfl);have hg4:=show w5.cell? ⟨gf,4,none⟩=some (.int .i64 (rf pg))from(by rw[blkCell (blkOld HGC.out HB5.out),HRF.out];rfl);refine hK _ _ ?_)|(at_builtin;refine wpList_push Kr (.tmp 52) (.tmp 58) 53 94 Tryz.underlying53 info_dirty rfl (by omega) (by omega) rfl wc.heap.size _ j ((S.take j).flatMap (edC rf)) rfl (ownBelow HO5.out (allocB _ _)) w5.heap.size ((edC rf) pg) 94 rfl (heap_alloc_new w5 _) rfl ((edC_one rf) _) (by omega) (Nat.le_trans HB5.out.size (allocB w5 _).size) ?_;intro v7 w7 ho7 hg7 hb7;have HB7:=Hq (HB5.out.trans (((allocB w5 _).mono HB5.out.size).trans hb7));clear hg7 hb7;obtain⟨A7,c7,rfl⟩:=ownLen ho7;have HO7:=Hq ho7;clear ho7;have HD7:=Hq (HD8.out.below (HB7.out)))|(at_builtin;refine listWants Kr fun K hK=>wp_appR w7 (.tmp 60) (.tmp 63) 53 94 i0 (.agg #[(),()]) 2 16 Tryz.underlying53 hi0 hz0 hz1 hz2 rfl (by omega) rfl wc.heap.size _ (j+1) _ rfl HO7.out (if oc=j then(some ⟨og,0,none⟩:Option Addr)else some ⟨og,j*2,none⟩) (S.length-j) (oc-j) ((S.drop j).flatMap (edC rf)) rfl HD7.out (by rw[flat_len (edC_len rf),List.length_drop]) ((edC_all rf) _) (by omega) (by omega) HB7.out.size ?_;intro v9 w9 ho9 hg9 hb9;have HB9:=Hq (HB7.out.trans hb9);clear hg9 hb9;have HI:=Hq (own_ins hj ho9);clear ho9;refine hK _ _ ?_))
       go_roundw
       case rel=>
        have ho:=HI.out
        have h0:0<(S.take j++pg::S.drop j).length:=by rw[List.length_append,List.length_cons];omega
        rw[← HE.out]at h0
        rw[← HE.out]at ho
        rw[HS2.out]at ho h0
        obtain⟨og2,oc2,rfl⟩:=own_somD ho h0
        exact⟨k+1,og2,oc2,by omega,by go_num,rfl,ownMono ho (Nat.le_trans HG0.out (Nat.le_trans H5L.out hbc.size)),H6.out.under (M:=wc.heap.size) (by have:=H6.out.lt (i:=0) (by simp);simp at this ⊢;omega) HB9.out⟩
       case measure=>simp[intOf];omega
   ·have HE:=Hq (HTK2.out (Bool.eq_false_iff.2 hd))
    by_cases hb0:f.bytes=⟨#[]⟩
    ·rw[hb0]at hc1
     have hbz:=str_nil
     clear HPT HTK2 HRK hd hb0
     go_wp2_with fail
     go_roundw
     case rel=>exact⟨k+1,og,oc,by omega,by go_num,by rw[← HS2.out,HE.out],by rw[← HS2.out,HE.out];exact HO5.out,H5.out⟩
     case measure=>simp[intOf];omega
    ·obtain⟨hq1,hq2,hq3⟩:=str_ne hb0
     have hr0:f.rc=0:=by
      by_cases hr:f.rc=0
      ·exact hr
      ·exact absurd (isD_iff.2 ⟨hb0,hr⟩) hd
     rw[hr0]at hc4
     clear HPT HTK2 HRK hd hb0 hr0
     go_wp2_with fail
     go_roundw
     case rel=>exact⟨k+1,og,oc,by omega,by go_num,by rw[← HS2.out,HE.out],by rw[← HS2.out,HE.out];exact HO5.out,H5.out⟩
     case measure=>simp[intOf];omega
  ·obtain rfl:k=fs.length:=by omega
   have ho:=HO.out
   rw[List.take_length]at ho
   rw[List.take_length]
   go_wp2_with fail
   go_ret
   refine⟨some ⟨og,0,none⟩,oc,by rw[HDL.out];rfl,?_,HBX.out.below⟩
   show Reads _ _ _ (dirL fs).length ((dirL fs).flatMap diC)
   rw[HDL.out,HDF.out]
   exact own_reads ho
theorem cpfree_any (f:Fr)(w:World):Calls Tryz.prog 44 #[.agg (frA f)] w fun e w'=>∃ q:Bool,e= .returned (.bool q)∧(q=true↔f.bytes=⟨#[]⟩)∧Below w.heap.size w w':=by
 by_cases hb:f.bytes=⟨#[]⟩
 ·have hbz:=str_nil
  go_enter Tryz.func44,Tryz.ntmps44
  go_upto_region 1 with fail
  have H0:=Hq (show BxL w.heap.size w [((frA f),81)] (w.alloc (.cells (frA f) 81))from((BxL.nil (Below.refl w.heap.size w)).new (by simp) (frA f) 81))
  obtain⟨W0,hW0⟩:∃ W,W=(w.alloc (.cells (frA f) 81)):=⟨_,rfl⟩
  rw[← hW0]at H0 ⊢
  clear hW0
  have hc:=show W0.cell? ⟨w.heap.size,1,none⟩=some (.string ⟨#[]⟩)from by rw[blkCell H0.out.get0,← hb];rfl
  have HB:=Hq hb
  clear hb
  go_wp2_with fail
  go_ret
  exact⟨true,by simp,⟨fun _=>HB.out,fun _=>rfl⟩,H0.out.below⟩
 ·obtain⟨h1,h2,h3⟩:=str_ne hb
  go_enter Tryz.func44,Tryz.ntmps44
  go_upto_region 1 with fail
  have H0:=Hq (show BxL w.heap.size w [((frA f),81)] (w.alloc (.cells (frA f) 81))from((BxL.nil (Below.refl w.heap.size w)).new (by simp) (frA f) 81))
  obtain⟨W0,hW0⟩:∃ W,W=(w.alloc (.cells (frA f) 81)):=⟨_,rfl⟩
  rw[← hW0]at H0 ⊢
  clear hW0
  have hc:=show W0.cell? ⟨w.heap.size,1,none⟩=some (.string f.bytes)from by rw[blkCell H0.out.get0];rfl
  go_wp2_with fail
  go_ret
  exact⟨false,by simp,⟨(fun h=>by cases h),fun h=>absurd h hb⟩,H0.out.below⟩
theorem dcmp_any (rf:Int→Int)(a b:Int)(w:World):Calls Tryz.prog 46 #[.agg (edC rf a).toArray,.agg (edC rf b).toArray] w fun e w'=>e= .returned (.int .i64 (Lib.compareInt a b))∧Grew w w':=by
 show Calls Tryz.prog 46 #[.agg #[a,.int .i64 (rf a)],.agg #[b,.int .i64 (rf b)]] w _
 have G0:=Hq (((Grew.refl w).alloc (.cells #[a,.int .i64 (rf a)] 94)).alloc (.cells #[b,.int .i64 (rf b)] 94))
 go_enter Tryz.func46,Tryz.ntmps46
 go_upto_region 1 with fail
 have H0:=Hq (show BxL w.heap.size w [(#[a,.int .i64 (rf a)],94),(#[b,.int .i64 (rf b)],94)] ((w.alloc (.cells #[a,.int .i64 (rf a)] 94)).alloc (.cells #[b,.int .i64 (rf b)] 94))from(((BxL.nil (Below.refl w.heap.size w)).new (by simp) #[a,.int .i64 (rf a)] 94).new (by simp) #[b,.int .i64 (rf b)] 94))
 obtain⟨W0,hW0⟩:∃ W,W=((w.alloc (.cells #[a,.int .i64 (rf a)] 94)).alloc (.cells #[b,.int .i64 (rf b)] 94)):=⟨_,rfl⟩
 rw[← hW0]at H0 G0 ⊢
 clear hW0
 have hc0:=show W0.cell? ⟨w.heap.size,0,none⟩=some (.int .i64 a)from by rw[blkCell H0.out.get0];rfl
 have hc1:=show W0.cell? ⟨w.heap.size+1,0,none⟩=some (.int .i64 b)from by rw[blkCell H0.out.get1];rfl
 go_wp2_with (go_at_call 47;(with_reducible refine(Tryz.cmpI _ _ _).mono ?_);rintro e w2 ⟨rfl,rfl⟩)
 go_ret
 exact⟨by simp,G0.out⟩
theorem sortD_any (rf:Int→Int)(l:List Int)(hl:l.length≤1000000)(B:Nat)(v:Value)(w:World)(ho:OwnL (edC rf) 2 94 B w v l)(hB:B≤w.heap.size):
 Calls Tryz.prog 45 #[v,.func (.func 46) #[] #[]] w fun e w'=>e= .returned (.tuple #[])∧OwnL (edC rf) 2 94 B w' v (Sp.sortO Lib.compareInt l)∧Below B w w':=by
 have h2:=ho.2
 rcases h2 with⟨rfl,h0⟩|⟨g,cap,cur,rfl,_⟩
 ·have hl0:l=[]:=List.eq_nil_of_length_eq_zero h0
  subst hl0
  refine(AnyF.slices_SortFunc_none Tryz.sortD none 0 (.func (.func 46) #[] #[]) w).mono ?_
  rintro e w' ⟨rfl,rfl⟩
  exact⟨rfl,by simpa[Sp.sortO]using ho,Below.refl _ _⟩
 ·have hO:=own_holds (k:=2) (edC_len rf) ho
  obtain⟨cur',_,hg,hh,_⟩:=own_blk ho
  have h:=AnyQ.slices_SortFunc_total Tryz.sortD 2 Tryz.isAgg94 Tryz.sizeOf94 (edC rf) (edC_len rf) (edC_one rf) Lib.compareInt (tot_swo totI) 46 #[] g 0 cap l.toArray w (enters_of Tryz.func46 Kr rfl) (fun m os dk hs x y=>(dcmp_any rf x y _).mono (fun e w' h=>⟨h.1,h.2⟩)) hO hg (by simp;omega) (tot_eq totI)
  simp only[List.size_toArray]at h
  refine Calls.mono h ?_
  rintro e w' ⟨rfl,n,os,rfl⟩
  have hs:=own_sorted (edC_len rf) ho (Sp.sortO Lib.compareInt l) (Sp.sort_len _ _) n os
  refine⟨rfl,?_,hs.2⟩
  show World.ownsRow _ B 94 2 _ (Sp.sortO Lib.compareInt l).length _
  rw[Sp.sort_len]
  have h3:=hs.1
  unfold OwnL at h3
  rw[Sp.sort_len]at h3
  exact h3
theorem cpdirty_any (s:Tx.St)(p:SP)(fs:List Fr)(hf:FrI fs)(w:World)(h:PoolR w s p fs):
 Calls Tryz.prog 18 #[storeV s p] w (DiOut fs w):=by
 have HFN:=Hq h.fn
 have HR:=Hq h.fr
 have HLF:=Hq (show fs.length≤4 from by rw[hf.n4];exact Nat.le_refl _)
 have HDF:=Hq (dirL_flat fs)
 have HDL:=Hq (dirL_len fs)
 obtain⟨rf,hrf⟩:∃ rf,rf=rcOf fs:=⟨_,rfl⟩
 have HRC:=Hq (show ∀ i (hi:i<fs.length),isD fs[i]=true→rf fs[i].page=fs[i].rc from fun i hi hd=>by rw[hrf];exact rc_at hf i hi hd)
 rw[← hrf]at HDF
 clear h hf hrf
 go_enter Tryz.func18,Tryz.ntmps18
 go_upto_region 1 with fail
 have H0:=Hq (show BxL w.heap.size w [((stA s p),37)] (w.alloc (.cells (stA s p) 37))from((BxL.nil (Below.refl w.heap.size w)).new (by simp) (stA s p) 37))
 obtain⟨W0,hW0⟩:∃ W,W=(w.alloc (.cells (stA s p) 37)):=⟨_,rfl⟩
 rw[← hW0]at H0 ⊢
 clear hW0
 have hc:=show W0.cell? ⟨w.heap.size,11,none⟩=some (.slice p.F fs.length p.fc)from by rw[blkCell H0.out.get0,← HFN.out];rfl
 have HGE:=Hq (show w.heap.size<W0.heap.size from H0.out.lt (i:=0) (by simp))
 go_wp2_with fail
 clear hc
 go_loopw [3,10] (fun v i wr=>∃ k:Nat,k≤fs.length∧i= .int .i64 k∧OwnL (edC rf) 2 94 W0.heap.size wr v (dirtP (fs.take k))∧BxL w.heap.size w [((stA s p),37)] wr∧W0.heap.size≤wr.heap.size) (fun _ i _=>fs.length-(intOf i).toNat)
 case atStart=>exact⟨0,Nat.zero_le _,rfl,ownNil _ _ _ _,H0.out,Nat.le_refl _⟩
 case round=>
  clear H0
  obtain⟨k,hk,rfl,ho,hbx,hge⟩:=hrel
  have HO:=Hq ho
  have HBX:=Hq hbx
  have HGW:=Hq hge
  clear ho hbx hge
  have hk0:(0:Int)≤(k:Int):=by omega
  by_cases hlt:k<fs.length
  ·obtain⟨b,off,hpF,hcc,hbl,hcell⟩:=read_at frL_len (HR.out.below HBX.out.below) hlt
   have hki:(k:Int)<(fs.length:Int):=by omega
   have hwk:IntKind.i64.wrap ((k:Int)+1)=(k:Int)+1:=IntWalk.i64_in _ (by have:=HLF.out;omega)
   have HTK:=Hq (dirtP_take fs k hlt)
   have HRK:=Hq (HRC.out k hlt)
   have hsb:(dirtP (fs.take k)).length≤4:=by have:=HLF.out;have:=dirtP_len fs k;omega
   obtain⟨S2,hS2⟩:∃ S2,S2=dirtP (fs.take (k+1)):=⟨_,rfl⟩
   rw[← hS2]at HTK
   have HS2:=Hq hS2
   clear hS2
   generalize dirtP (fs.take k)=S at HTK hsb HO ⊢
   generalize fs[k]=f at HTK HRK hcell
   have HC0:=Hq (show wr.rangeAt b (off+k*5) (frL f)from hcell)
   rw[hpF]
   clear hcell hcc hbl hpF
   obtain⟨OA,oc,rfl⟩:=ownLen HO.out
   go_upto_region 5 with(first
    |(refine listWants Kr fun K hK=>wp_load_mid 81 (.tmp 12) rfl b (off+k*5) rfl (frL f) _ HC0.out Tryz.underlying81 Kr Kr (hK _ _ ?_))
    |(with_reducible refine wpList_store_new rfl 81 (.tmp 5) (.tmp 13) rfl (frA f) _ _ rfl Kr Kr Kr Kr ?_))
   have hb5:=allocB wr (.cells (frA f) 81)
   have H5:=Hq (HBX.out.step hb5)
   have HG5:=Hq (heap_alloc_new wr (.cells (frA f) 81))
   have HO5:=Hq (ownBelow HO.out hb5)
   have H5L:=Hq (Nat.le_trans HGW.out hb5.size)
   obtain⟨gf,hgf⟩:∃ g,g=wr.heap.size:=⟨_,rfl⟩
   obtain⟨w5,hw5⟩:∃ W,W=wr.alloc (.cells (frA f) 81):=⟨_,rfl⟩
   rw[← hgf,← hw5]at HG5
   rw[← hw5]at H5 HO5 H5L
   rw[← hw5,← hgf]
   clear hw5 hgf hb5 HBX HO HC0 HGW
   try simp only[Act.put]
   have HFE:=Hq (cpfree_any f w5)
   by_cases hd:isD f=true
   ·obtain⟨hd1,hd2⟩:=isD_iff.1 hd
    have hq4:(f.rc != 0)=true:=bne_iff_ne.2 hd2
    have HE:=Hq (HTK.out.1 hd)
    have HRF:=Hq (HRK.out hd)
    have HND:=Hq hd1
    clear HTK HRK hd hd1 hd2
    obtain⟨pg,hpg⟩:∃ pg,pg=f.page:=⟨_,rfl⟩
    have HPG:=Hq hpg
    rw[← hpg]at HE HRF
    clear hpg
    go_upto_region 6 with(first
     |(with_reducible refine listLoad Kr 81 (.tmp 5) rfl gf rfl (frA f) _ HG5.out _ Tryz.underlying81 Kr Kr ?_)
     |(go_at_call 44;(refine HFE.out.mono ?_);rintro e w6 ⟨q,rfl,hq,hb6⟩;obtain rfl:q=false:=(by cases q with|true=>exact absurd (hq.1 rfl) HND.out|false=>rfl);clear hq;have HG6:=Hq (blkOld HG5.out hb6);have H6:=Hq (H5.out.step hb6);have HO6:=Hq (ownBelow HO5.out hb6);have H6L:=Hq (Nat.le_trans H5L.out hb6.size);have hc4:=show w6.cell? ⟨gf,4,none⟩=some (.int .i64 f.rc)from(by rw[blkCell HG6.out];rfl)))
    clear hc4
    have hg0:=show w6.cell? ⟨gf,0,none⟩=some (.int .i64 pg)from by rw[blkCell HG6.out,HPG.out];rfl
    have hg4:=show w6.cell? ⟨gf,4,none⟩=some (.int .i64 (rf pg))from by rw[blkCell HG6.out,HRF.out];rfl
    go_wp2_with (at_builtin;refine wpList_push Kr (.tmp 22) (.tmp 28) 53 94 Tryz.underlying53 info_dirty rfl (by omega) (by omega) rfl W0.heap.size _ S.length (S.flatMap (edC rf)) rfl (ownBelow HO6.out (allocB _ _)) w6.heap.size (edC rf pg) 94 rfl (heap_alloc_new w6 _) rfl (edC_one rf pg) (by omega) (Nat.le_trans H6L.out (allocB w6 _).size) ?_;intro v7 w7 ho7 hg7 hb7)
    go_roundw
    case rel=>exact⟨k+1,by omega,by go_num,by rw[← HS2.out,HE.out];exact OwnL.push (enc:=edC rf) (x:=pg) ho7,(H6.out.step (allocB w6 _)).under (M:=W0.heap.size) (by have:=HGE.out;simp;omega) hb7,Nat.le_trans (Nat.le_trans H6L.out (allocB w6 (.cells #[pg,.int .i64 (rf pg)] 94)).size) hb7.size⟩
    case measure=>simp[intOf];omega
   ·have HE:=Hq (HTK.out.2 (Bool.eq_false_iff.2 hd))
    clear HTK HRK
    by_cases hb0:f.bytes=⟨#[]⟩
    ·have HB0:=Hq hb0
     clear hd hb0
     go_wp2_with (first
      |(with_reducible refine listLoad Kr 81 (.tmp 5) rfl gf rfl (frA f) _ HG5.out _ Tryz.underlying81 Kr Kr ?_)
      |(go_at_call 44;(refine HFE.out.mono ?_);rintro e w6 ⟨q,rfl,hq,hb6⟩;obtain rfl:q=true:=hq.2 HB0.out;clear hq;have H6:=Hq (H5.out.step hb6);have HO6:=Hq (ownBelow HO5.out hb6);have H6L:=Hq (Nat.le_trans H5L.out hb6.size)))
     go_roundw
     case rel=>exact⟨k+1,by omega,by go_num,by rw[← HS2.out,HE.out];exact HO6.out,H6.out,H6L.out⟩
     case measure=>simp[intOf];omega
    ·have HR0:=Hq (show f.rc=0 from by
      by_cases hr:f.rc=0
      ·exact hr
      ·exact absurd (isD_iff.2 ⟨hb0,hr⟩) hd)
     have HB0:=Hq hb0
     clear hd hb0
     go_wp2_with (first
      |(with_reducible refine listLoad Kr 81 (.tmp 5) rfl gf rfl (frA f) _ HG5.out _ Tryz.underlying81 Kr Kr ?_)
      |(go_at_call 44;(refine HFE.out.mono ?_);rintro e w6 ⟨q,rfl,hq,hb6⟩;obtain rfl:q=false:=(by cases q with|true=>exact absurd (hq.1 rfl) HB0.out|false=>rfl);clear hq;have H6:=Hq (H5.out.step hb6);have HO6:=Hq (ownBelow HO5.out hb6);have H6L:=Hq (Nat.le_trans H5L.out hb6.size);have HG6:=Hq (blkOld HG5.out hb6);have hc4:=show w6.cell? ⟨gf,4,none⟩=some (.int .i64 0)from(by rw[blkCell HG6.out,← HR0.out];rfl)))
     go_roundw
     case rel=>exact⟨k+1,by omega,by go_num,by rw[← HS2.out,HE.out];exact HO6.out,H6.out,H6L.out⟩
     case measure=>simp[intOf];omega
  ·obtain rfl:k=fs.length:=by omega
   have ho:=HO.out
   rw[List.take_length]at ho
   have hl4:(dirtP fs).length≤1000000:=by have:=dirtP_len fs fs.length;rw[List.take_length]at this;have:=HLF.out;omega
   go_wp2_with (go_at_call 45;(refine(sortD_any rf (dirtP fs) hl4 W0.heap.size _ _ ho HGW.out).mono ?_);rintro e w8 ⟨rfl,ho8,hb8⟩)
   go_ret
   obtain⟨A8,c8,rfl⟩:=ownLen ho8
   refine⟨A8,c8,by rw[HDL.out];rfl,?_,(HBX.out.under (M:=W0.heap.size) (by have:=HGE.out;simp;omega) hb8).below⟩
   show Reads _ _ _ (dirL fs).length ((dirL fs).flatMap diC)
   rw[HDL.out,HDF.out]
   exact own_reads ho8
end Go.Proofs.YtilakddepaplhaaGreat
namespace Ck
open Lg
def placeL (n:Int):List UInt8:=Oct.putL (Oct.sumN (Oct.putL (Oct.word n) 6)) 4++Oct.putL (Oct.word n) 6
theorem placeL_len (n:Int):(placeL n).length=10:=by unfold placeL;rw[List.length_append,Oct.putL_length,Oct.putL_length]
def sectorB (n:Int):ByteArray:=pad128 (placeL n)
theorem sectorB_size (n:Int):(sectorB n).size=128:=pad128_size (by rw[placeL_len];omega)
def masterL (l:List UInt8):Int:=if Oct.getL (l.take 4)=Oct.sumN ((l.drop 4).take 6)then(Oct.getL ((l.drop 4).take 6):Int)else 0
def masterD (d:Dk):Int:=if(readD d 0).2≠0∨(readD d 0).1.size<10 then 0 else masterL (readD d 0).1.data.toList
def setD (d:Dk)(n:Int):Dk×Int:=if n<0∨1099511627776≤n then(d,1)else writeD d 0 (sectorB n)
theorem setD_no {d:Dk}{n:Int}(h:n<0∨1099511627776≤n):setD d n=(d,1):=by unfold setD;rw[if_pos h]
theorem setD_yes {d:Dk}{n:Int}(h:¬ (n<0∨1099511627776≤n)):setD d n=writeD d 0 (sectorB n):=by unfold setD;rw[if_neg h]
theorem masterD_no {d:Dk}(h:(readD d 0).2≠0∨(readD d 0).1.size<10):masterD d=0:=by unfold masterD;rw[if_pos h]
theorem masterD_yes {d:Dk}(h:¬ ((readD d 0).2≠0∨(readD d 0).1.size<10)):masterD d=masterL (readD d 0).1.data.toList:=by unfold masterD;rw[if_neg h]
theorem masterL_yes {l:List UInt8}(h:Oct.getL (l.take 4)=Oct.sumN ((l.drop 4).take 6)):masterL l=(Oct.getL ((l.drop 4).take 6):Int):=by unfold masterL;rw[if_pos h]
theorem masterL_no {l:List UInt8}(h:¬ Oct.getL (l.take 4)=Oct.sumN ((l.drop 4).take 6)):masterL l=0:=by unfold masterL;rw[if_neg h]
theorem sectorB_list (n:Int):(sectorB n).data.toList=placeL n++List.replicate 118 0:=by
 unfold sectorB pad128
 rw[placeL_len]
theorem master_sector (n:Int)(h0:0≤n)(h1:n<1099511627776):masterL (sectorB n).data.toList=n:=by
 have hw:((Oct.word n:Nat):Int)=n:=by unfold Oct.word;omega
 have hP:(Oct.putL (Oct.word n) 6).length=6:=Oct.putL_length _ _
 have hs:=Oct.sumN_lt (Oct.putL (Oct.word n) 6)
 have g6:Oct.getL (Oct.putL (Oct.word n) 6)=Oct.word n:=by rw[Oct.getL_putL,Nat.mod_eq_of_lt (by omega)]
 have hS:(Oct.putL (Oct.sumN (Oct.putL (Oct.word n) 6)) 4).length=4:=Oct.putL_length _ _
 have g4:Oct.getL (Oct.putL (Oct.sumN (Oct.putL (Oct.word n) 6)) 4)=Oct.sumN (Oct.putL (Oct.word n) 6):=by rw[Oct.getL_putL,Nat.mod_eq_of_lt (by omega)]
 have e:(sectorB n).data.toList=Oct.putL (Oct.sumN (Oct.putL (Oct.word n) 6)) 4++(Oct.putL (Oct.word n) 6++List.replicate 118 0):=by
  rw[sectorB_list];unfold placeL;rw[List.append_assoc]
 rw[e]
 unfold masterL
 rw[List.take_left' hS,List.drop_left' hS,List.take_left' hP,g4,g6,if_pos rfl,hw]
theorem set_master {d:Dk}{n:Int}(h:(setD d n).2=0):masterD (setD d n).1=n∧masterD (startD (setD d n).1)=n:=by
 by_cases hn:n<0∨1099511627776≤n
 ·rw[setD_no hn]at h
  exact absurd h (by show ¬ (1:Int)=0;decide)
 rw[setD_yes hn]at h ⊢
 have hm:=master_sector n (by omega) (by omega)
 unfold writeD at h ⊢
 split at h
 ·exact absurd h (by show ¬ (20:Int)=0;decide)
 rename_i hd
 rw[if_neg hd]
 split at h
 ·exact absurd h (by show ¬ (1:Int)=0;decide)
 rename_i hh
 rw[if_neg hh]
 split at h
 ·exact absurd h (by show ¬ (20:Int)=0;decide)
 rename_i hl
 rw[if_neg hl]
 have hh2:hasD d 0:=(Classical.not_not.1 hh).1
 have hlen:0<d.sectors.length:=by have:=hh2.2;omega
 have key:∀ (lf:Int) (dn:Bool),dn=false→masterD ⟨d.sectors.set 0 (sectorB n),lf,dn⟩=n:=by
  intro lf dn hdn
  subst hdn
  have hr:readD ⟨d.sectors.set 0 (sectorB n),lf,false⟩ 0=(sectorB n,0):=by
   unfold readD
   rw[if_neg (by simp),if_pos ⟨by decide,by show(0:Int)<((d.sectors.set 0 (sectorB n)).length:Int);rw[List.length_set];omega⟩]
   unfold secAt
   show((d.sectors.set 0 (sectorB n))[0]?.getD ⟨#[]⟩,(0:Int))=_
   rw[List.getElem?_set_self hlen]
   rfl
  unfold masterD
  rw[hr,if_neg (by rw[sectorB_size];simp)]
  exact hm
 refine⟨key _ _ ?_,key _ _ rfl⟩
 first|rfl|simpa using hd
end Ck
namespace Go.Proofs.YtilakddepaplhaaGreat
open Go.RowKit
theorem get_int (l:List UInt8)(a k:Nat)(hk:k≤6):Oct.intOf (Oct.getN l a k)=((Oct.getL ((l.drop a).take k):Nat):Int):=by
 unfold Oct.getN Oct.intOf
 have h:=Oct.getL_lt ((l.drop a).take k)
 have h2:256^((l.drop a).take k).length≤256^6:=Nat.pow_le_pow_right (by omega) (by rw[List.length_take];omega)
 rw[if_pos (by omega)]
theorem copen10_yes (s:ByteArray)(hs:s.size=10)(h:Oct.getL (s.data.toList.take 4)=Oct.sumN (s.data.toList.drop 4))(w:World):
 Calls Tryz.prog 37 #[s] w fun e w'=>e= .returned (.tuple #[.string (s.extract 4 s.size),true])∧Below w.heap.size w w':=by
 have HG:=Hq (fun W=>show Calls Tryz.prog 38 #[s,(),.int .i64 4] W fun e w'=>e= .returned (.tuple #[.int .i64 (Oct.intOf (Oct.getN s.data.toList 0 4)),true])∧Below W.heap.size W w' from get_yes s 0 4 (by omega) (by omega) (by omega) (by omega) W)
 have HS:=Hq (fun W=>sum_any (s.extract 4 s.size) (by rw[ByteArray.size_extract];omega) W)
 have hx:(s.extract 4 s.size).data.toList=s.data.toList.drop 4:=by
  have hl:s.data.toList.length=s.size:=by simp
  simp only[ByteArray.data_extract,Array.toList_extract,List.extract_eq_take_drop]
  rw[List.take_of_length_le (by rw[List.length_drop];omega)]
 rw[hx]at HS
 rw[get_int _ _ _ (by omega),List.drop_zero]at HG
 rw[h]at HG
 generalize ((Oct.sumN (s.data.toList.drop 4):Nat):Int)=m at HG HS
 have hmm:(m==m)=true:=by simp
 have h4:4≤s.size:=by omega
 have h5:(4:Int)≤(s.size:Int):=by omega
 clear h hx hs
 go_enter Tryz.func37,Tryz.ntmps37
 go_wp2_with (first
  |(go_at_call 38;(with_reducible refine(HG.out _).mono ?_);rintro e w1 ⟨rfl,hb1⟩)
  |(go_at_call 77;(with_reducible refine(HS.out _).mono ?_);rintro e w2 ⟨rfl,rfl⟩))
 go_ret2
 first|exact⟨rfl,hb1⟩|exact⟨rfl,Below.refl _ _⟩
theorem copen10_no (s:ByteArray)(hs:s.size=10)(h:¬ Oct.getL (s.data.toList.take 4)=Oct.sumN (s.data.toList.drop 4))(w:World):
 Calls Tryz.prog 37 #[s] w fun e w'=>e= .returned (.tuple #["",false])∧Below w.heap.size w w':=by
 have HG:=Hq (fun W=>show Calls Tryz.prog 38 #[s,(),.int .i64 4] W fun e w'=>e= .returned (.tuple #[.int .i64 (Oct.intOf (Oct.getN s.data.toList 0 4)),true])∧Below W.heap.size W w' from get_yes s 0 4 (by omega) (by omega) (by omega) (by omega) W)
 have HS:=Hq (fun W=>sum_any (s.extract 4 s.size) (by rw[ByteArray.size_extract];omega) W)
 have hx:(s.extract 4 s.size).data.toList=s.data.toList.drop 4:=by
  have hl:s.data.toList.length=s.size:=by simp
  simp only[ByteArray.data_extract,Array.toList_extract,List.extract_eq_take_drop]
  rw[List.take_of_length_le (by rw[List.length_drop];omega)]
 rw[hx]at HS
 rw[get_int _ _ _ (by omega),List.drop_zero]at HG
 have hmn:¬ ((Oct.getL (s.data.toList.take 4):Nat):Int)=((Oct.sumN (s.data.toList.drop 4):Nat):Int):=fun e=>h (by omega)
 generalize ((Oct.sumN (s.data.toList.drop 4):Nat):Int)=m at HS hmn
 generalize ((Oct.getL (s.data.toList.take 4):Nat):Int)=n at HG hmn
 have hmm:(n==m)=false:=by simpa using hmn
 have hm2:(n != m)=true:=by simpa using hmn
 clear hmn
 have h4:4≤s.size:=by omega
 have h5:(4:Int)≤(s.size:Int):=by omega
 clear h hx hs
 go_enter Tryz.func37,Tryz.ntmps37
 go_wp2_with (first
  |(go_at_call 38;(with_reducible refine(HG.out _).mono ?_);rintro e w1 ⟨rfl,hb1⟩)
  |(go_at_call 77;(with_reducible refine(HS.out _).mono ?_);rintro e w2 ⟨rfl,rfl⟩))
 go_ret2
 first|exact⟨rfl,hb1⟩|exact⟨rfl,Below.refl _ _⟩
theorem ropen10_yes (s:ByteArray)(hs:s.size=10)(h:Oct.getL (s.data.toList.take 4)=Oct.sumN (s.data.toList.drop 4))(w:World):
 Calls Tryz.prog 40 #[s] w fun e w'=>e= .returned (.tuple #[.string (s.extract 4 s.size),true])∧Below w.heap.size w w':=by
 have HG:=Hq (fun W=>show Calls Tryz.prog 41 #[s,(),.int .i64 4] W fun e w'=>e= .returned (.tuple #[.int .i64 (Oct.intOf (Oct.getN s.data.toList 0 4)),true])∧W=w' from rget_yes s 0 4 (by omega) (by omega) (by omega) (by omega) W)
 have HS:=Hq (fun W=>rsum_any (s.extract 4 s.size) (by rw[ByteArray.size_extract];omega) W)
 have hx:(s.extract 4 s.size).data.toList=s.data.toList.drop 4:=by
  have hl:s.data.toList.length=s.size:=by simp
  simp only[ByteArray.data_extract,Array.toList_extract,List.extract_eq_take_drop]
  rw[List.take_of_length_le (by rw[List.length_drop];omega)]
 rw[hx]at HS
 rw[get_int _ _ _ (by omega),List.drop_zero]at HG
 rw[h]at HG
 generalize ((Oct.sumN (s.data.toList.drop 4):Nat):Int)=m at HG HS
 have hmm:(m==m)=true:=by simp
 have h4:4≤s.size:=by omega
 have h5:(4:Int)≤(s.size:Int):=by omega
 clear h hx hs
 go_enter Tryz.func40,Tryz.ntmps40
 go_wp2_with (first
  |(go_at_call 41;(with_reducible refine(HG.out _).mono ?_);rintro e w1 ⟨rfl,rfl⟩)
  |(go_at_call 79;(with_reducible refine(HS.out _).mono ?_);rintro e w2 ⟨rfl,rfl⟩))
 go_ret2
 first|exact⟨rfl,hb1⟩|exact⟨rfl,Below.refl _ _⟩
theorem ropen10_no (s:ByteArray)(hs:s.size=10)(h:¬ Oct.getL (s.data.toList.take 4)=Oct.sumN (s.data.toList.drop 4))(w:World):
 Calls Tryz.prog 40 #[s] w fun e w'=>e= .returned (.tuple #["",false])∧Below w.heap.size w w':=by
 have HG:=Hq (fun W=>show Calls Tryz.prog 41 #[s,(),.int .i64 4] W fun e w'=>e= .returned (.tuple #[.int .i64 (Oct.intOf (Oct.getN s.data.toList 0 4)),true])∧W=w' from rget_yes s 0 4 (by omega) (by omega) (by omega) (by omega) W)
 have HS:=Hq (fun W=>rsum_any (s.extract 4 s.size) (by rw[ByteArray.size_extract];omega) W)
 have hx:(s.extract 4 s.size).data.toList=s.data.toList.drop 4:=by
  have hl:s.data.toList.length=s.size:=by simp
  simp only[ByteArray.data_extract,Array.toList_extract,List.extract_eq_take_drop]
  rw[List.take_of_length_le (by rw[List.length_drop];omega)]
 rw[hx]at HS
 rw[get_int _ _ _ (by omega),List.drop_zero]at HG
 have hmn:¬ ((Oct.getL (s.data.toList.take 4):Nat):Int)=((Oct.sumN (s.data.toList.drop 4):Nat):Int):=fun e=>h (by omega)
 generalize ((Oct.sumN (s.data.toList.drop 4):Nat):Int)=m at HS hmn
 generalize ((Oct.getL (s.data.toList.take 4):Nat):Int)=n at HG hmn
 have hmm:(n==m)=false:=by simpa using hmn
 have hm2:(n != m)=true:=by simpa using hmn
 clear hmn
 have h4:4≤s.size:=by omega
 have h5:(4:Int)≤(s.size:Int):=by omega
 clear h hx hs
 go_enter Tryz.func40,Tryz.ntmps40
 go_wp2_with (first
  |(go_at_call 41;(with_reducible refine(HG.out _).mono ?_);rintro e w1 ⟨rfl,rfl⟩)
  |(go_at_call 79;(with_reducible refine(HS.out _).mono ?_);rintro e w2 ⟨rfl,rfl⟩))
 go_ret2
 first|exact⟨rfl,hb1⟩|exact⟨rfl,Below.refl _ _⟩
theorem cmaster_any (d:Lg.Dk)(A:Option Addr)(c:Nat)(w:World)(h:DiskR w d A c):
 Calls Tryz.prog 13 #[diskV d A c] w fun e w'=>e= .returned (.int .i64 (Ck.masterD d))∧Below w.heap.size w w':=by
 have HR:=Hq (fun W (hb:Below w.heap.size w W)=>dread_any d A c 0 W (h.below hb))
 have k1:= @Ck.masterD_no d
 have k2:= @Ck.masterD_yes d
 generalize Lg.readD d 0=x at HR k1 k2
 generalize Ck.masterD d=M at k1 k2 ⊢
 obtain⟨b,e0⟩:=x
 obtain⟨L,left,down⟩:=d
 simp only at k1 k2
 dsimp only[diskV]at HR ⊢
 clear h
 have HA:=Hq (heap_alloc_new w (.cells #[.slice A L.length c,left,down] 29))
 have BA:=allocB w (.cells #[.slice A L.length c,left,down] 29)
 by_cases he:e0=0
 ·subst he
  by_cases hb:b.size<10
  ·have hM:=k1 (.inr hb)
   subst hM
   have hb1:(b.size:Int)<10:=by omega
   clear k1 k2 hb
   go_enter Tryz.func13,Tryz.ntmps13
   go_wp2_with (first
    |(with_reducible refine listLoad Kr 29 (.tmp 1) rfl w.heap.size rfl #[.slice A L.length c,left,down] _ HA.out _ Tryz.underlying29 Kr Kr ?_)
    |(go_at_call 36;(with_reducible refine(HR.out _ BA).mono ?_);rintro e w1 ⟨rfl,hb1'⟩))
   go_ret
   exact⟨rfl,joinB BA hb1'⟩
  ·have hM:=k2 (by intro hc;rcases hc with hc|hc;exact hc rfl;exact hb hc)
   have hb1:¬ (b.size:Int)<10:=by omega
   have hb2:10≤b.size:=by omega
   have hb3:(10:Int)≤(b.size:Int):=by omega
   obtain⟨s,hs⟩:∃ s,s=b.extract 0 10:=⟨_,rfl⟩
   have hsz:s.size=10:=by rw[hs,ByteArray.size_extract];omega
   have hsl:s.data.toList=b.data.toList.take 10:=by rw[hs];simp
   have q1:s.data.toList.take 4=b.data.toList.take 4:=by rw[hsl,List.take_take];rfl
   have q2:s.data.toList.drop 4=(b.data.toList.drop 4).take 6:=by rw[hsl,List.drop_take]
   have qx:(s.extract 4 s.size).data.toList=s.data.toList.drop 4:=by
    have hl:s.data.toList.length=s.size:=by simp
    simp only[ByteArray.data_extract,Array.toList_extract,List.extract_eq_take_drop]
    rw[List.take_of_length_le (by rw[List.length_drop];omega)]
   have qs:(s.extract 4 s.size).size=6:=by rw[ByteArray.size_extract];omega
   have HS:=Hq hs
   by_cases hy:Oct.getL (s.data.toList.take 4)=Oct.sumN (s.data.toList.drop 4)
   ·have HO:=Hq (fun W=>copen10_yes s hsz hy W)
    have HG:=Hq (fun W=>show Calls Tryz.prog 38 #[.string (s.extract 4 s.size),(),.int .i64 6] W fun e w'=>e= .returned (.tuple #[.int .i64 (Oct.intOf (Oct.getN (s.extract 4 s.size).data.toList 0 6)),true])∧Below W.heap.size W w' from get_yes (s.extract 4 s.size) 0 6 (by omega) (by omega) (by omega) (by omega) W)
    rw[get_int _ _ _ (by omega),List.drop_zero,qx,List.take_of_length_le (by have hl:s.data.toList.length=s.size:=(by simp);rw[List.length_drop];omega)]at HG
    have hM2:M=((Oct.getL (s.data.toList.drop 4):Nat):Int):=by
     rw[hM,Ck.masterL_yes (by rw[← q1,← q2];exact hy),q2]
    rw[← hM2]at HG
    generalize s.extract 4 s.size=t at HO HG
    clear k1 k2 hb hM hM2 hy q1 q2 qx qs hsl hsz hs
    go_enter Tryz.func13,Tryz.ntmps13
    go_wp2_with (first
     |(with_reducible refine listLoad Kr 29 (.tmp 1) rfl w.heap.size rfl #[.slice A L.length c,left,down] _ HA.out _ Tryz.underlying29 Kr Kr ?_)
     |(go_at_call 36;(with_reducible refine(HR.out _ BA).mono ?_);rintro e w1 ⟨rfl,hb1'⟩)
     |(go_at_call 37;rw[← HS.out];(with_reducible refine(HO.out _).mono ?_);rintro e w2 ⟨rfl,hb2'⟩)
     |(go_at_call 38;(with_reducible refine(HG.out _).mono ?_);rintro e w3 ⟨rfl,hb3'⟩))
    go_ret
    first|exact⟨rfl,joinB (joinB (joinB BA hb1') hb2') hb3'⟩|exact⟨rfl,joinB (joinB BA hb1') hb2'⟩
   ·have HO:=Hq (fun W=>copen10_no s hsz hy W)
    have hM2:M=0:=by rw[hM,Ck.masterL_no (by rw[← q1,← q2];exact hy)]
    subst hM2
    have HG:=Hq (fun W=>get_no ⟨#[]⟩ 0 6 (by decide) (by omega) (by omega) (by decide) W)
    clear k1 k2 hb hM hy q1 q2 qx qs hsl hsz hs
    go_enter Tryz.func13,Tryz.ntmps13
    go_wp2_with (first
     |(with_reducible refine listLoad Kr 29 (.tmp 1) rfl w.heap.size rfl #[.slice A L.length c,left,down] _ HA.out _ Tryz.underlying29 Kr Kr ?_)
     |(go_at_call 36;(with_reducible refine(HR.out _ BA).mono ?_);rintro e w1 ⟨rfl,hb1'⟩)
     |(go_at_call 37;rw[← HS.out];(with_reducible refine(HO.out _).mono ?_);rintro e w2 ⟨rfl,hb2'⟩)
     |(go_at_call 38;(with_reducible refine(HG.out _).mono ?_);rintro e w3 ⟨rfl,rfl⟩))
    go_ret
    exact⟨rfl,joinB (joinB BA hb1') hb2'⟩
 ·have hM:=k1 (.inl he)
  subst hM
  have he1:(e0==0)=false:=by simpa using he
  have he2:(e0 != 0)=true:=by simpa using he
  clear k1 k2 he
  go_enter Tryz.func13,Tryz.ntmps13
  go_wp2_with (first
   |(with_reducible refine listLoad Kr 29 (.tmp 1) rfl w.heap.size rfl #[.slice A L.length c,left,down] _ HA.out _ Tryz.underlying29 Kr Kr ?_)
   |(go_at_call 36;(with_reducible refine(HR.out _ BA).mono ?_);rintro e w1 ⟨rfl,hb1'⟩))
  go_ret
  exact⟨rfl,joinB BA hb1'⟩
theorem rmaster_any (d:Lg.Dk)(A:Option Addr)(c:Nat)(w:World)(h:DiskR w d A c):
 Calls Tryz.prog 14 #[diskV d A c] w fun e w'=>e= .returned (.int .i64 (Ck.masterD d))∧Below w.heap.size w w':=by
 have HR:=Hq (fun W (hb:Below w.heap.size w W)=>rdread_any d A c 0 W (h.below hb))
 have k1:= @Ck.masterD_no d
 have k2:= @Ck.masterD_yes d
 generalize Lg.readD d 0=x at HR k1 k2
 generalize Ck.masterD d=M at k1 k2 ⊢
 obtain⟨b,e0⟩:=x
 obtain⟨L,left,down⟩:=d
 simp only at k1 k2
 dsimp only[diskV]at HR ⊢
 clear h
 have HA:=Hq (heap_alloc_new w (.cells #[.slice A L.length c,left,down] 29))
 have BA:=allocB w (.cells #[.slice A L.length c,left,down] 29)
 by_cases he:e0=0
 ·subst he
  by_cases hb:b.size<10
  ·have hM:=k1 (.inr hb)
   subst hM
   have hb1:(b.size:Int)<10:=by omega
   clear k1 k2 hb
   go_enter Tryz.func14,Tryz.ntmps14
   go_wp2_with (first
    |(with_reducible refine listLoad Kr 29 (.tmp 1) rfl w.heap.size rfl #[.slice A L.length c,left,down] _ HA.out _ Tryz.underlying29 Kr Kr ?_)
    |(go_at_call 39;(with_reducible refine(HR.out _ BA).mono ?_);rintro e w1 ⟨rfl,hb1'⟩))
   go_ret
   exact⟨rfl,joinB BA hb1'⟩
  ·have hM:=k2 (by intro hc;rcases hc with hc|hc;exact hc rfl;exact hb hc)
   have hb1:¬ (b.size:Int)<10:=by omega
   have hb2:10≤b.size:=by omega
   have hb3:(10:Int)≤(b.size:Int):=by omega
   obtain⟨s,hs⟩:∃ s,s=b.extract 0 10:=⟨_,rfl⟩
   have hsz:s.size=10:=by rw[hs,ByteArray.size_extract];omega
   have hsl:s.data.toList=b.data.toList.take 10:=by rw[hs];simp
   have q1:s.data.toList.take 4=b.data.toList.take 4:=by rw[hsl,List.take_take];rfl
   have q2:s.data.toList.drop 4=(b.data.toList.drop 4).take 6:=by rw[hsl,List.drop_take]
   have qx:(s.extract 4 s.size).data.toList=s.data.toList.drop 4:=by
    have hl:s.data.toList.length=s.size:=by simp
    simp only[ByteArray.data_extract,Array.toList_extract,List.extract_eq_take_drop]
    rw[List.take_of_length_le (by rw[List.length_drop];omega)]
   have qs:(s.extract 4 s.size).size=6:=by rw[ByteArray.size_extract];omega
   have HS:=Hq hs
   by_cases hy:Oct.getL (s.data.toList.take 4)=Oct.sumN (s.data.toList.drop 4)
   ·have HO:=Hq (fun W=>ropen10_yes s hsz hy W)
    have HG:=Hq (fun W=>show Calls Tryz.prog 41 #[.string (s.extract 4 s.size),(),.int .i64 6] W fun e w'=>e= .returned (.tuple #[.int .i64 (Oct.intOf (Oct.getN (s.extract 4 s.size).data.toList 0 6)),true])∧W=w' from rget_yes (s.extract 4 s.size) 0 6 (by omega) (by omega) (by omega) (by omega) W)
    rw[get_int _ _ _ (by omega),List.drop_zero,qx,List.take_of_length_le (by have hl:s.data.toList.length=s.size:=(by simp);rw[List.length_drop];omega)]at HG
    have hM2:M=((Oct.getL (s.data.toList.drop 4):Nat):Int):=by
     rw[hM,Ck.masterL_yes (by rw[← q1,← q2];exact hy),q2]
    rw[← hM2]at HG
    generalize s.extract 4 s.size=t at HO HG
    clear k1 k2 hb hM hM2 hy q1 q2 qx qs hsl hsz hs
    go_enter Tryz.func14,Tryz.ntmps14
    go_wp2_with (first
     |(with_reducible refine listLoad Kr 29 (.tmp 1) rfl w.heap.size rfl #[.slice A L.length c,left,down] _ HA.out _ Tryz.underlying29 Kr Kr ?_)
     |(go_at_call 39;(with_reducible refine(HR.out _ BA).mono ?_);rintro e w1 ⟨rfl,hb1'⟩)
     |(go_at_call 40;rw[← HS.out];(with_reducible refine(HO.out _).mono ?_);rintro e w2 ⟨rfl,hb2'⟩)
     |(go_at_call 41;(with_reducible refine(HG.out _).mono ?_);rintro e w3 ⟨rfl,rfl⟩))
    go_ret
    first|exact⟨rfl,joinB (joinB (joinB BA hb1') hb2') hb3'⟩|exact⟨rfl,joinB (joinB BA hb1') hb2'⟩
   ·have HO:=Hq (fun W=>ropen10_no s hsz hy W)
    have hM2:M=0:=by rw[hM,Ck.masterL_no (by rw[← q1,← q2];exact hy)]
    subst hM2
    clear k1 k2 hb hM hy q1 q2 qx qs hsl hsz hs
    go_enter Tryz.func14,Tryz.ntmps14
    go_wp2_with (first
     |(with_reducible refine listLoad Kr 29 (.tmp 1) rfl w.heap.size rfl #[.slice A L.length c,left,down] _ HA.out _ Tryz.underlying29 Kr Kr ?_)
     |(go_at_call 39;(with_reducible refine(HR.out _ BA).mono ?_);rintro e w1 ⟨rfl,hb1'⟩)
     |(go_at_call 40;rw[← HS.out];(with_reducible refine(HO.out _).mono ?_);rintro e w2 ⟨rfl,hb2'⟩))
    go_ret
    exact⟨rfl,joinB (joinB BA hb1') hb2'⟩
 ·have hM:=k1 (.inl he)
  subst hM
  have he1:(e0==0)=false:=by simpa using he
  have he2:(e0 != 0)=true:=by simpa using he
  clear k1 k2 he
  go_enter Tryz.func14,Tryz.ntmps14
  go_wp2_with (first
   |(with_reducible refine listLoad Kr 29 (.tmp 1) rfl w.heap.size rfl #[.slice A L.length c,left,down] _ HA.out _ Tryz.underlying29 Kr Kr ?_)
   |(go_at_call 39;(with_reducible refine(HR.out _ BA).mono ?_);rintro e w1 ⟨rfl,hb1'⟩))
  go_ret
  exact⟨rfl,joinB BA hb1'⟩
def fillP (l:List UInt8)(size k:Nat):Array Value:=((List.range size).map fun i=>Value.int .u8 (if i<k then((l[i]?.getD 0).toNat:Int)else 0)).toArray
theorem fillP_start (l:List UInt8)(size:Nat):madeCells #[Value.int .u8 0] size=fillP l size 0:=by
 apply Array.ext_getElem?
 intro i
 simp only[madeCells,fillP]
 by_cases h:i<size
 ·simp[h,Nat.mod_one]
 ·simp[h]
theorem fillP_store (l:List UInt8)(size k:Nat)(_hk:k<size):(fillP l size k).setIfInBounds k (.int .u8 ((l[k]?.getD 0).toNat:Int))=fillP l size (k+1):=by
 apply Array.ext_getElem?
 intro i
 simp only[fillP,List.setIfInBounds_toArray,List.getElem?_toArray,List.getElem?_set,List.getElem?_map,List.length_map,List.length_range]
 by_cases hi:k=i
 ·subst hi
  simp[_hk]
 ·rw[if_neg hi]
  by_cases h:i<size
  ·simp only[List.getElem?_range h,Option.map_some]
   by_cases h2:i<k
   ·rw[if_pos h2,if_pos (by omega)]
   ·rw[if_neg h2,if_neg (by omega)]
  ·simp[h]
theorem fillP_cell (l:List UInt8)(size k j:Nat)(hj:j<size):(fillP l size k)[j]? =some (.int .u8 (if j<k then((l[j]?.getD 0).toNat:Int)else 0)):=by
 simp[fillP,hj]
theorem fillP_back (l:List UInt8)(hl:l.length≤128)(W:World):(convert 120 9 (.slice (some ⟨W.heap.size,0,none⟩) 128 128)).run Tryz.prog (W.alloc (.cells (fillP l 128 l.length) 5))= .ok (.string (Lg.pad128 l)) (W.alloc (.cells (fillP l 128 l.length) 5)):=by
 have h:=run_convert_bytes_back (P:=Tryz.prog) (W.alloc (.cells (fillP l 128 l.length) 5)) 120 9 5 ⟨W.heap.size,0,none⟩ 128 (l++List.replicate (128-l.length) 0) Tryz.underlying120 Tryz.underlying5 Tryz.underlying9 (fun j hj=>by
  have hj':j<128:=by rw[List.length_append,List.length_replicate]at hj;omega
  have ha:(⟨W.heap.size,0,none⟩:Addr).add j=⟨W.heap.size,j,none⟩:=by
   unfold Addr.add;split
   ·rename_i h;rw[h]
   ·simp
  rw[ha,World.cell?_alloc_new]
  show(fillP l 128 l.length)[j]? =_
  rw[fillP_cell _ _ _ _ hj']
  by_cases hk:j<l.length
  ·rw[if_pos hk,List.getElem?_eq_getElem hk,Option.getD_some,List.getElem_append_left hk]
  ·rw[if_neg hk,List.getElem_append_right (by omega),List.getElem_replicate];rfl)
 rw[List.length_append,List.length_replicate,show l.length+(128-l.length)=128 by omega]at h
 exact h
theorem csealed_any (n:Int)(w:World):
 Calls Tryz.prog 48 #[n] w fun e w'=>∃ x:ByteArray,e= .returned (.string x)∧x.data.toList=Ck.placeL n∧Below w.heap.size w w':=by
 have HP:=Hq (fun W=>put_any n 6 (by omega) (by omega) W)
 have hb:(Oct.putB n 6).data.toList=Oct.putL (Oct.word n) 6:=Oct.putB_list n 6 (by omega)
 have hz:(Oct.putB n 6).size=6:=Oct.putB_size n 6 (by omega)
 have HS:=Hq (fun W=>seal_any (Oct.putB n 6) (by omega) W)
 rw[hb]at HS
 have HL:=Hq (show Ck.placeL n=Oct.putL (Oct.sumN (Oct.putL (Oct.word n) 6)) 4++Oct.putL (Oct.word n) 6 from rfl)
 generalize Oct.putB n 6=y at HP HS
 clear hb hz
 go_enter Tryz.func48,Tryz.ntmps48
 go_wp2_with (first
  |(go_at_call 90;(with_reducible refine(HP.out _).mono ?_);rintro e w1 ⟨rfl,hb1⟩)
  |(go_at_call 89;(with_reducible refine(HS.out _).mono ?_);rintro e w2 ⟨x,rfl,hx,hb2⟩))
 go_ret
 exact⟨x,rfl,by rw[HL.out];exact hx,joinB hb1 hb2⟩
theorem rseal_any (s:ByteArray)(hs:s.size≤1000000)(w:World):
 Calls Tryz.prog 113 #[s] w fun e w'=>∃ x:ByteArray,e= .returned (.string x)∧x.data.toList=Oct.putL (Oct.sumN s.data.toList) 4++s.data.toList∧Below w.heap.size w w':=by
 have HS:=Hq (fun W=>rsum_any s (by omega) W)
 have hlt:Oct.sumN s.data.toList<18446744073709551616:=by have:=Oct.sumN_lt s.data.toList;omega
 have hfin0:(Oct.putB ((Oct.sumN s.data.toList:Nat):Int) 4).data.toList=Oct.putL (Oct.sumN s.data.toList) 4:=putW _ hlt 4 (by omega)
 generalize Oct.sumN s.data.toList=n at HS hfin0 ⊢
 have HP:=Hq (fun W=>rput_any (n:Int) 4 (by omega) (by omega) W)
 have hsz:(Oct.putB (n:Int) 4).size=4:=Oct.putB_size _ 4 (by omega)
 have hsum:(Oct.putB (n:Int) 4).size+s.size≤281474976710656:=by omega
 have hfin:(Oct.putB (n:Int) 4++s).data.toList=Oct.putL n 4++s.data.toList:=by
  rw[ByteArray.data_append,Array.toList_append,hfin0]
 clear hlt hfin0
 generalize Oct.putB (n:Int) 4=x at HP hsz hsum hfin
 go_enter Tryz.func113,Tryz.ntmps113
 go_wp2_with (first|(go_at_call 79;refine(HS.out _).mono ?_;rintro e w1 ⟨rfl,rfl⟩)|(go_at_call 111;refine(HP.out _).mono ?_;rintro e w2 ⟨rfl,hb2⟩))
 go_ret
 exact⟨_,rfl,hfin,hb2⟩
theorem rsector_any (n:Int)(w:World):
 Calls Tryz.prog 75 #[n] w fun e w'=>e= .returned (.string (Ck.sectorB n))∧Below w.heap.size w w':=by
 have HP:=Hq (fun W=>rput_any n 6 (by omega) (by omega) W)
 have hb:(Oct.putB n 6).data.toList=Oct.putL (Oct.word n) 6:=Oct.putB_list n 6 (by omega)
 have hz:(Oct.putB n 6).size=6:=Oct.putB_size n 6 (by omega)
 have HS:=Hq (fun W=>rseal_any (Oct.putB n 6) (by omega) W)
 rw[hb]at HS
 have HL:=Hq (show Ck.placeL n=Oct.putL (Oct.sumN (Oct.putL (Oct.word n) 6)) 4++Oct.putL (Oct.word n) 6 from rfl)
 have HLL:=Hq (Ck.placeL_len n)
 have HSB:=Hq (show Ck.sectorB n=Lg.pad128 (Ck.placeL n)from rfl)
 generalize Ck.sectorB n=R at HSB ⊢
 generalize Oct.putB n 6=y at HP HS
 clear hb hz
 go_enter Tryz.func75,Tryz.ntmps75
 go_upto_region 2 with(first
  |(go_at_call 111;(with_reducible refine(HP.out _).mono ?_);rintro e w1 ⟨rfl,hb1⟩)
  |(go_at_call 113;(with_reducible refine(HS.out _).mono ?_);rintro e w2 ⟨x,rfl,hx,hb2⟩))
 have HB:=Hq (joinB hb1 hb2)
 have hpl:x.data.toList=Ck.placeL n:=by rw[HL.out];exact hx
 have hxs:x.size=10:=by
  have h1:x.data.toList.length=x.size:=by simp
  rw[hpl,HLL.out]at h1
  omega
 have HX:=Hq hpl
 have HXS:=Hq hxs
 have hmk:=fun W=>make_zeros 128 (by omega) W
 have hst:=fillP_start x.data.toList 128
 rw[hst]at hmk
 clear hx hb1 hb2 hpl hst HS HP hxs
 have hmk2:=fun W=>show(Instr.makeSlice 120 (.int .i64 128) (.int .i64 128)).run Tryz.prog W= .ok (.slice (some ⟨W.heap.size,0,none⟩) 128 128) (W.alloc (.cells (fillP x.data.toList 128 0) 5))from hmk W
 clear hmk
 go_wp2_with fail
 clear hmk2
 go_loopw [5] (fun i wr=>∃ k:Nat,k≤x.size∧i= .int .i64 k∧wr=w2.alloc (.cells (fillP x.data.toList 128 k) 5)) (fun i _=>x.size-(intOf i).toNat)
 case atStart=>exact⟨0,Nat.zero_le _,rfl,rfl⟩
 case round=>
  obtain⟨k,hk,rfl,rfl⟩:=hrel
  by_cases hlt:k<x.size
  ·have hk128:k<128:=by have:=HXS.out;omega
   have hk1:(k:Int)<128:=by omega
   have hc:(fillP x.data.toList 128 k)[k]? =some (.int .u8 0):=by rw[fillP_cell _ _ _ _ hk128,if_neg (by omega)]
   have hbyte:(x.data.toList[k]?.getD 0)=x[k]:=by
    have h1:k<x.data.toList.length:=by simpa using hlt
    rw[List.getElem?_eq_getElem h1];rfl
   have hs:=fillP_store x.data.toList 128 k hk128
   rw[hbyte]at hs
   have HS:=Hq hs
   have hwk:IntKind.i64.wrap ((k:Int)+1)=(k:Int)+1:=IntWalk.i64_in _ (by omega)
   clear hs hbyte
   go_wp2_with fail
   go_roundw
   case rel=>exact⟨k+1,by omega,by go_num,by rw[← HS.out]⟩
   case measure=>simp[intOf];omega
  ·obtain rfl:x.size=k:=by omega
   have hxl:x.data.toList.length=x.size:=by simp
   have hcv:=fillP_back x.data.toList (by have:=HXS.out;omega) w2
   rw[hxl]at hcv
   rw[HX.out]at hcv
   rw[HX.out]
   rw[← HSB.out]at hcv
   go_wp2_with fail
   go_ret
   exact⟨rfl,pastAlloc HB.out⟩
theorem cset_any (d:Lg.Dk)(hlb: -9223372036854775808≤d.left∧d.left≤9223372036854775807)(A:Option Addr)(c:Nat)(n:Int)(w:World)(h:DiskR w d A c):
 Calls Tryz.prog 21 #[diskV d A c,n] w (WriteOut (Ck.setD d n) A w):=by
 have HNO:=Hq (@Ck.setD_no d n)
 have HYE:=Hq (@Ck.setD_yes d n)
 have HWR:=Hq (fun W (hb:Below w.heap.size w W)=>dwrite_any d hlb A c 0 (Ck.sectorB n) W (h.below hb))
 have HO:=Hq (fun x A' c' w' (hx:Ck.setD d n=x) (h1:DiskR w' x.1 A' c') (h2:A'=A∨NewT w.heap.size w' 9 A') (h3:Below w.heap.size w w')=>show WriteOut (Ck.setD d n) A w (.returned (.tuple #[diskV x.1 A' c',x.2])) w' from⟨A',c',by rw[hx],by rw[hx];exact h1,h2,h3⟩)
 have HD:=Hq (fun w' (hb:Below w.heap.size w w')=>h.below hb)
 generalize WriteOut (Ck.setD d n) A w=Q at HO ⊢
 generalize Ck.setD d n=X at HNO HYE HO
 by_cases hno:n<0∨1099511627776≤n
 ·have HX:=Hq (HNO.out hno)
  have hor:n<0∨(¬ n<0∧1099511627776≤n):=by omega
  clear HNO HYE HWR h hno hlb
  obtain⟨L,left,down⟩:=d
  dsimp only[diskV]at HO ⊢
  rcases hor with hn|⟨hn,hn2⟩
  ·
   go_enter Tryz.func21,Tryz.ntmps21
   go_upto_region 1 with fail
   have H0:=Hq (show BxL w.heap.size w [(#[.slice A L.length c,left,down],29),(#["s",(),false],29)] ((w.alloc (.cells #[.slice A L.length c,left,down] 29)).alloc (.cells #["s",(),false] 29))from(((BxL.nil (Below.refl w.heap.size w)).new (by simp) #[.slice A L.length c,left,down] 29).new (by simp) #["s",(),false] 29))
   obtain⟨W0,hW0⟩:∃ W,W=((w.alloc (.cells #[.slice A L.length c,left,down] 29)).alloc (.cells #["s",(),false] 29)):=⟨_,rfl⟩
   rw[← hW0]at H0 ⊢
   clear hW0
   go_wp2_with (first
    |(with_reducible refine listLoad Kr 29 (.tmp 2) rfl w.heap.size rfl #[.slice A L.length c,left,down] _ H0.out.get0 _ Tryz.underlying29 Kr Kr ?_)
    |(with_reducible refine listStore Kr 29 (.tmp 4) (.tmp 13) rfl (w.heap.size+1) #[.slice A L.length c,left,down] _ _ rfl rfl H0.out.get1 Kr Kr Kr ?_))
   refine bodyPost_ret (v:=.tuple #[.agg #[.slice A L.length c,left,down],.int .i64 1]) (results_cell2 rfl _ _ rfl (load_whole (setRow_heap _ _ _ _ _ _ H0.out.get1) Tryz.underlying29 Kr Kr) rfl) rfl ?_
   exact HO.out _ A c _ HX.out (HD.out _ ((H0.out.row 1 _ _ rfl).below)) (.inl rfl) ((H0.out.row 1 _ _ rfl).below)
  ·
   go_enter Tryz.func21,Tryz.ntmps21
   go_upto_region 1 with fail
   have H0:=Hq (show BxL w.heap.size w [(#[.slice A L.length c,left,down],29),(#["s",(),false],29)] ((w.alloc (.cells #[.slice A L.length c,left,down] 29)).alloc (.cells #["s",(),false] 29))from(((BxL.nil (Below.refl w.heap.size w)).new (by simp) #[.slice A L.length c,left,down] 29).new (by simp) #["s",(),false] 29))
   obtain⟨W0,hW0⟩:∃ W,W=((w.alloc (.cells #[.slice A L.length c,left,down] 29)).alloc (.cells #["s",(),false] 29)):=⟨_,rfl⟩
   rw[← hW0]at H0 ⊢
   clear hW0
   go_wp2_with (first
    |(with_reducible refine listLoad Kr 29 (.tmp 2) rfl w.heap.size rfl #[.slice A L.length c,left,down] _ H0.out.get0 _ Tryz.underlying29 Kr Kr ?_)
    |(with_reducible refine listStore Kr 29 (.tmp 4) (.tmp 13) rfl (w.heap.size+1) #[.slice A L.length c,left,down] _ _ rfl rfl H0.out.get1 Kr Kr Kr ?_))
   refine bodyPost_ret (v:=.tuple #[.agg #[.slice A L.length c,left,down],.int .i64 1]) (results_cell2 rfl _ _ rfl (load_whole (setRow_heap _ _ _ _ _ _ H0.out.get1) Tryz.underlying29 Kr Kr) rfl) rfl ?_
   exact HO.out _ A c _ HX.out (HD.out _ ((H0.out.row 1 _ _ rfl).below)) (.inl rfl) ((H0.out.row 1 _ _ rfl).below)
 ·have HX:=Hq (HYE.out hno)
  have hn1:¬ n<0:=by omega
  have hn2:¬ 1099511627776≤n:=by omega
  have hwlen:= @Lg.writeD_len d 0 (Ck.sectorB n)
  have hold0:=fun h0=>h.secs.old h0
  generalize Lg.writeD d 0 (Ck.sectorB n)=y at HWR HX hwlen
  obtain⟨d',e'⟩:=y
  have HOLD:=Hq (show 0<d'.sectors.length→∀ ad,A=some ad→ad.block<w.heap.size from fun h0=>hold0 (by rw[← hwlen];exact h0))
  clear HNO HYE h hno hlb HD hwlen hold0
  have HSE:=Hq (fun W=>csealed_any n W)
  have HZ:=Hq (fun W=>show Calls Tryz.prog 50 #[.string ⟨#[0]⟩,.int .i64 118] W fun e w'=>e= .returned (.string ⟨(List.replicate 118 0).toArray⟩)∧Below W.heap.size W w' from by
   have h1:=Tryz.strings_Repeat ⟨#[0]⟩ 118 W (by omega) (by show 1*118≤_;omega)
   have e:(⟨(Lib.repeatL (⟨#[0]⟩:ByteArray).data.toList 118).toArray⟩:ByteArray)=⟨(List.replicate 118 0).toArray⟩:=Lg.repeat_zero 118
   rw[e]at h1
   exact h1)
  have HADD:=Hq (fun(x:ByteArray) (hx:x.data.toList=Ck.placeL n) W=>show(Op.stringOp .add x ⟨(List.replicate 118 0).toArray⟩).run Tryz.prog W= .ok (.string (Ck.sectorB n)) W from by
   have hl:x.data.toList.length=x.size:=by simp
   rw[hx,Ck.placeL_len]at hl
   have hz:(⟨(List.replicate 118 0).toArray⟩:ByteArray).size=118:=by show(List.replicate 118 (0:UInt8)).toArray.size=_;simp
   have h9:=run_string_add_sum (P:=Tryz.prog) W x ⟨(List.replicate 118 0).toArray⟩ (by omega)
   have e:x++⟨(List.replicate 118 0).toArray⟩=Ck.sectorB n:=by
    apply ByteArray.ext
    rw[ByteArray.data_append]
    apply Array.toList_inj.1
    rw[Array.toList_append,hx,Ck.sectorB_list]
   rw[e]at h9
   exact h9)
  have HLEN:=Hq (Ck.placeL_len n)
  generalize (⟨(List.replicate 118 0).toArray⟩:ByteArray)=z at HZ HADD
  generalize Ck.sectorB n=sb at HADD HWR
  generalize Ck.placeL n=pl at HSE HADD HLEN
  obtain⟨L,left,down⟩:=d
  dsimp only[diskV]at HO HWR ⊢
  go_enter Tryz.func21,Tryz.ntmps21
  go_upto_region 1 with fail
  have H0:=Hq (show BxL w.heap.size w [(#[.slice A L.length c,left,down],29),(#["s",(),false],29)] ((w.alloc (.cells #[.slice A L.length c,left,down] 29)).alloc (.cells #["s",(),false] 29))from(((BxL.nil (Below.refl w.heap.size w)).new (by simp) #[.slice A L.length c,left,down] 29).new (by simp) #["s",(),false] 29))
  obtain⟨W0,hW0⟩:∃ W,W=((w.alloc (.cells #[.slice A L.length c,left,down] 29)).alloc (.cells #["s",(),false] 29)):=⟨_,rfl⟩
  rw[← hW0]at H0 ⊢
  clear hW0
  go_upto_region 4 with(go_at_call 48;(with_reducible refine(HSE.out _).mono ?_);rintro e w1 ⟨x,rfl,hx,hb1⟩)
  have hxs:x.size=10:=by
   have h1:x.data.toList.length=x.size:=by simp
   rw[hx,HLEN.out]at h1
   omega
  have hw:IntKind.i64.wrap (128-(x.size:Int))=118:=by rw[hxs];decide
  have hadd:=HADD.out x hx
  have HB:=Hq (H0.out.step hb1).drew
  clear hb1 hxs hx H0 HSE HADD HLEN
  refine wp_region_held_drew (S:=(fun u=>u.heap[w.heap.size]? =some (.cells #[.slice A L.length c,left,down] 29 (0,0)))) Kr ?_ (fun hHeld=>?_)
  ·first|exact hSn|exact HB.out.get0
  refine tkV 0 (some 16) (v:=.agg #[.slice A L.length c,left,down]) rfl (yieldsIf_load_mid (by rfl) 29 (.tmp 2) rfl w.heap.size 0 (by rfl) #[.slice A L.length c,.int .i64 left,.bool down].toList _ (fun u hu=>(by intro j v hj;rw[Nat.zero_add,blkCell hu];simpa using hj)) Tryz.underlying29 Kr Kr) ?_
  try simp only[Act.put,pS]
  refine tkW 1 (some 17) (v:=?_) rfl ?_ (tkW 2 (some 18) (v:=?_) rfl ?_ (tkW 3 (some 19) (v:=?_) rfl ?_ (tkW 4 (some 20) (v:=?_) rfl ?_ ?_)))
  iterate 4 (rotate_left;focus(intro u hSu;clear hSu;go_simp;(try with_reducible rfl)))
  try simp only[Act.put,pS]
  refine rdH 5 (some 21) rfl (fun K hK=>?_)
  go_simp
  refine(HZ.out _).mono ?_;rintro e w2 ⟨rfl,hb2⟩
  have HB:=Hq (HB.out.step hb2)
  clear hb2
  have hSn:=HB.out.get0
  refine hK.out _ _ ?_ (fun hHeld=>?_)
  ·first|exact hSn|exact HB.out.get0
  clear hK K
  try simp only[Act.put,pS]
  refine tkW 6 (some 22) (v:=?_) rfl ?_ ?_
  rotate_left
  ·intro u hSu;clear hSu;go_simp;(try with_reducible rfl)
  try simp only[Act.put,pS]
  refine rdH 7 (some 23) rfl (fun K hK=>?_)
  go_simp
  refine(HWR.out _ HB.out.below).mono ?_;rintro e w3 ⟨A',c',rfl,hd3,ha3,hb3⟩
  have HAA:=Hq (ha3.imp id (fun h=>h.mono HB.out.below.size))
  have HB:=Hq (HB.out.step hb3)
  have HDD:=Hq hd3
  clear hd3 ha3 hb3
  try clear hSn
  have hSn:=HB.out.get0
  refine hK.out _ _ ?_ (fun hHeld=>?_)
  ·first|exact hSn|exact HB.out.get0
  clear hK K
  refine tkW 8 (some 24) (v:=?_) rfl ?_ (tkW 9 (some 25) (v:=?_) rfl ?_ ?_)
  iterate 2 (rotate_left;focus(intro u hSu;clear hSu;go_simp;(try with_reducible rfl)))
  try simp only[Act.put,pS]
  refine rdH 10 none rfl (fun K hK=>?_)
  refine wantedIf (by rfl) ?_
  refine wp_store_whole 29 (.tmp 4) (.tmp 24) rfl (w.heap.size+1) #[.slice A' d'.sectors.length c',d'.left,d'.down] _ _ rfl rfl HB.out.get1 Kr Kr Kr ?_
  have HAP:=Hq ((Apart.refl (w.heap.size+1) (w.heap.size+2) w3).row (w.heap.size+1) #[.slice A' d'.sectors.length c',d'.left,d'.down] (Nat.le_refl _) (Nat.lt_succ_self _))
  have HG:=Hq HB.out.get1
  have HB:=Hq (HB.out.row 1 #[.slice A' d'.sectors.length c',d'.left,d'.down] _ rfl)
  clear hSn
  have hSn:=HB.out.get0
  refine hK.out _ _ ?_ (fun hHeld=>?_)
  ·first|exact hSn|exact HB.out.get0
  clear hK K
  try simp only[Act.put]
  refine tkW 11 (some 5) (v:=?_) rfl ?_ ?_
  rotate_left
  ·intro u hSu;clear hSu;go_simp;(try with_reducible rfl)
  try simp only[Act.put,pS]
  refine wpAnyH_done Kr ?_ _
  clear hHeld hSn
  go_wp2_with fail
  refine bodyPost_ret (v:=.tuple #[.agg #[.slice A' d'.sectors.length c',d'.left,d'.down],e']) (results_cell2 rfl _ _ rfl (load_whole HB.out.get1 Tryz.underlying29 Kr Kr) rfl) rfl ?_
  exact HO.out (d',e') A' c' _ HX.out ⟨HDD.out.secs.offRow _ _ (fun h0 ad e=>HAA.out.elim (fun h1=>by rw[h1]at e;have h5:=HOLD.out h0 ad e;intro e1;omega) (fun h1=>by intro e1;obtain⟨_,cs0,fr0,h2⟩:=h1 ad e;rw[e1,HG.out]at h2;injection h2 with h2;injection h2 with _ h2;exact absurd h2 (by decide))),HDD.out.small⟩ (HAA.out.imp id (fun h=>h.row _ _)) HB.out.below
theorem rset_any (d:Lg.Dk)(hlb: -9223372036854775808≤d.left∧d.left≤9223372036854775807)(A:Option Addr)(c:Nat)(n:Int)(w:World)(h:DiskR w d A c):
 Calls Tryz.prog 35 #[diskV d A c,n] w (WriteOut (Ck.setD d n) A w):=by
 have HNO:=Hq (@Ck.setD_no d n)
 have HYE:=Hq (@Ck.setD_yes d n)
 have HWR:=Hq (fun W (hb:Below w.heap.size w W)=>rwrite_any d hlb A c 0 (Ck.sectorB n) W (h.below hb))
 have HO:=Hq (fun x A' c' w' (hx:Ck.setD d n=x) (h1:DiskR w' x.1 A' c') (h2:A'=A∨NewT w.heap.size w' 9 A') (h3:Below w.heap.size w w')=>show WriteOut (Ck.setD d n) A w (.returned (.tuple #[diskV x.1 A' c',x.2])) w' from⟨A',c',by rw[hx],by rw[hx];exact h1,h2,h3⟩)
 have HD:=Hq (fun w' (hb:Below w.heap.size w w')=>h.below hb)
 generalize WriteOut (Ck.setD d n) A w=Q at HO ⊢
 generalize Ck.setD d n=X at HNO HYE HO
 by_cases hno:n<0∨1099511627776≤n
 ·have HX:=Hq (HNO.out hno)
  have hor:n<0∨(¬ n<0∧1099511627776≤n):=by omega
  clear HNO HYE HWR h hno hlb
  obtain⟨L,left,down⟩:=d
  dsimp only[diskV]at HO ⊢
  rcases hor with hn|⟨hn,hn2⟩
  ·
   go_enter Tryz.func35,Tryz.ntmps35
   go_upto_region 1 with fail
   have H0:=Hq (show BxL w.heap.size w [(#[.slice A L.length c,left,down],29),(#["s",(),false],29)] ((w.alloc (.cells #[.slice A L.length c,left,down] 29)).alloc (.cells #["s",(),false] 29))from(((BxL.nil (Below.refl w.heap.size w)).new (by simp) #[.slice A L.length c,left,down] 29).new (by simp) #["s",(),false] 29))
   obtain⟨W0,hW0⟩:∃ W,W=((w.alloc (.cells #[.slice A L.length c,left,down] 29)).alloc (.cells #["s",(),false] 29)):=⟨_,rfl⟩
   rw[← hW0]at H0 ⊢
   clear hW0
   go_wp2_with (first
    |(with_reducible refine listLoad Kr 29 (.tmp 2) rfl w.heap.size rfl #[.slice A L.length c,left,down] _ H0.out.get0 _ Tryz.underlying29 Kr Kr ?_)
    |(with_reducible refine listStore Kr 29 (.tmp 4) (.tmp 12) rfl (w.heap.size+1) #[.slice A L.length c,left,down] _ _ rfl rfl H0.out.get1 Kr Kr Kr ?_))
   refine bodyPost_ret (v:=.tuple #[.agg #[.slice A L.length c,left,down],.int .i64 1]) (results_cell2 rfl _ _ rfl (load_whole (setRow_heap _ _ _ _ _ _ H0.out.get1) Tryz.underlying29 Kr Kr) rfl) rfl ?_
   exact HO.out _ A c _ HX.out (HD.out _ ((H0.out.row 1 _ _ rfl).below)) (.inl rfl) ((H0.out.row 1 _ _ rfl).below)
  ·
   go_enter Tryz.func35,Tryz.ntmps35
   go_upto_region 1 with fail
   have H0:=Hq (show BxL w.heap.size w [(#[.slice A L.length c,left,down],29),(#["s",(),false],29)] ((w.alloc (.cells #[.slice A L.length c,left,down] 29)).alloc (.cells #["s",(),false] 29))from(((BxL.nil (Below.refl w.heap.size w)).new (by simp) #[.slice A L.length c,left,down] 29).new (by simp) #["s",(),false] 29))
   obtain⟨W0,hW0⟩:∃ W,W=((w.alloc (.cells #[.slice A L.length c,left,down] 29)).alloc (.cells #["s",(),false] 29)):=⟨_,rfl⟩
   rw[← hW0]at H0 ⊢
   clear hW0
   go_wp2_with (first
    |(with_reducible refine listLoad Kr 29 (.tmp 2) rfl w.heap.size rfl #[.slice A L.length c,left,down] _ H0.out.get0 _ Tryz.underlying29 Kr Kr ?_)
    |(with_reducible refine listStore Kr 29 (.tmp 4) (.tmp 12) rfl (w.heap.size+1) #[.slice A L.length c,left,down] _ _ rfl rfl H0.out.get1 Kr Kr Kr ?_))
   refine bodyPost_ret (v:=.tuple #[.agg #[.slice A L.length c,left,down],.int .i64 1]) (results_cell2 rfl _ _ rfl (load_whole (setRow_heap _ _ _ _ _ _ H0.out.get1) Tryz.underlying29 Kr Kr) rfl) rfl ?_
   exact HO.out _ A c _ HX.out (HD.out _ ((H0.out.row 1 _ _ rfl).below)) (.inl rfl) ((H0.out.row 1 _ _ rfl).below)
 ·have HX:=Hq (HYE.out hno)
  have hn1:¬ n<0:=by omega
  have hn2:¬ 1099511627776≤n:=by omega
  have hwlen:= @Lg.writeD_len d 0 (Ck.sectorB n)
  have hold0:=fun h0=>h.secs.old h0
  generalize Lg.writeD d 0 (Ck.sectorB n)=y at HWR HX hwlen
  obtain⟨d',e'⟩:=y
  have HOLD:=Hq (show 0<d'.sectors.length→∀ ad,A=some ad→ad.block<w.heap.size from fun h0=>hold0 (by rw[← hwlen];exact h0))
  clear HNO HYE h hno hlb HD hwlen hold0
  have HSE:=Hq (fun W=>rsector_any n W)
  generalize Ck.sectorB n=sb at HSE HWR
  obtain⟨L,left,down⟩:=d
  dsimp only[diskV]at HO HWR ⊢
  go_enter Tryz.func35,Tryz.ntmps35
  go_upto_region 1 with fail
  have H0:=Hq (show BxL w.heap.size w [(#[.slice A L.length c,left,down],29),(#["s",(),false],29)] ((w.alloc (.cells #[.slice A L.length c,left,down] 29)).alloc (.cells #["s",(),false] 29))from(((BxL.nil (Below.refl w.heap.size w)).new (by simp) #[.slice A L.length c,left,down] 29).new (by simp) #["s",(),false] 29))
  obtain⟨W0,hW0⟩:∃ W,W=((w.alloc (.cells #[.slice A L.length c,left,down] 29)).alloc (.cells #["s",(),false] 29)):=⟨_,rfl⟩
  rw[← hW0]at H0 ⊢
  clear hW0
  go_upto_region 3 with fail
  have HB:=Hq H0.out.drew
  clear H0
  refine wp_region_held_drew (S:=(fun u=>u.heap[w.heap.size]? =some (.cells #[.slice A L.length c,left,down] 29 (0,0)))) Kr ?_ (fun hHeld=>?_)
  ·first|exact hSn|exact HB.out.get0
  refine tkV 0 (some 13) (v:=.agg #[.slice A L.length c,left,down]) rfl (yieldsIf_load_mid (by rfl) 29 (.tmp 2) rfl w.heap.size 0 (by rfl) #[.slice A L.length c,.int .i64 left,.bool down].toList _ (fun u hu=>(by intro j v hj;rw[Nat.zero_add,blkCell hu];simpa using hj)) Tryz.underlying29 Kr Kr) ?_
  try simp only[Act.put,pS]
  refine tkW 1 (some 14) (v:=?_) rfl ?_ ?_
  rotate_left
  ·intro u hSu;clear hSu;go_simp;(try with_reducible rfl)
  try simp only[Act.put,pS]
  refine rdH 2 (some 15) rfl (fun K hK=>?_)
  go_simp
  refine(HSE.out _).mono ?_;rintro e w2 ⟨rfl,hb2⟩
  have HB:=Hq (HB.out.step hb2)
  clear hb2
  have hSn:=HB.out.get0
  refine hK.out _ _ ?_ (fun hHeld=>?_)
  ·first|exact hSn|exact HB.out.get0
  clear hK K
  try simp only[Act.put,pS]
  refine rdH 3 (some 16) rfl (fun K hK=>?_)
  go_simp
  refine(HWR.out _ HB.out.below).mono ?_;rintro e w3 ⟨A',c',rfl,hd3,ha3,hb3⟩
  have HAA:=Hq (ha3.imp id (fun h=>h.mono HB.out.below.size))
  have HB:=Hq (HB.out.step hb3)
  have HDD:=Hq hd3
  clear hd3 ha3 hb3
  try clear hSn
  have hSn:=HB.out.get0
  refine hK.out _ _ ?_ (fun hHeld=>?_)
  ·first|exact hSn|exact HB.out.get0
  clear hK K
  refine tkW 4 (some 17) (v:=?_) rfl ?_ (tkW 5 (some 18) (v:=?_) rfl ?_ ?_)
  iterate 2 (rotate_left;focus(intro u hSu;clear hSu;go_simp;(try with_reducible rfl)))
  try simp only[Act.put,pS]
  refine rdH 6 none rfl (fun K hK=>?_)
  refine wantedIf (by rfl) ?_
  refine wp_store_whole 29 (.tmp 4) (.tmp 17) rfl (w.heap.size+1) #[.slice A' d'.sectors.length c',d'.left,d'.down] _ _ rfl rfl HB.out.get1 Kr Kr Kr ?_
  have HAP:=Hq ((Apart.refl (w.heap.size+1) (w.heap.size+2) w3).row (w.heap.size+1) #[.slice A' d'.sectors.length c',d'.left,d'.down] (Nat.le_refl _) (Nat.lt_succ_self _))
  have HG:=Hq HB.out.get1
  have HB:=Hq (HB.out.row 1 #[.slice A' d'.sectors.length c',d'.left,d'.down] _ rfl)
  clear hSn
  have hSn:=HB.out.get0
  refine hK.out _ _ ?_ (fun hHeld=>?_)
  ·first|exact hSn|exact HB.out.get0
  clear hK K
  try simp only[Act.put]
  refine tkW 7 (some 5) (v:=?_) rfl ?_ ?_
  rotate_left
  ·intro u hSu;clear hSu;go_simp;(try with_reducible rfl)
  try simp only[Act.put,pS]
  refine wpAnyH_done Kr ?_ _
  clear hHeld hSn
  go_wp2_with fail
  refine bodyPost_ret (v:=.tuple #[.agg #[.slice A' d'.sectors.length c',d'.left,d'.down],e']) (results_cell2 rfl _ _ rfl (load_whole HB.out.get1 Tryz.underlying29 Kr Kr) rfl) rfl ?_
  exact HO.out (d',e') A' c' _ HX.out ⟨HDD.out.secs.offRow _ _ (fun h0 ad e=>HAA.out.elim (fun h1=>by rw[h1]at e;have h5:=HOLD.out h0 ad e;intro e1;omega) (fun h1=>by intro e1;obtain⟨_,cs0,fr0,h2⟩:=h1 ad e;rw[e1,HG.out]at h2;injection h2 with h2;injection h2 with _ h2;exact absurd h2 (by decide))),HDD.out.small⟩ (HAA.out.imp id (fun h=>h.row _ _)) HB.out.below
end Go.Proofs.YtilakddepaplhaaGreat
