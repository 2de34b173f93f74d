import Derived.Test.YtmfkhdhnbkambaaGreatDoorHp00
import Derived.Test.YtmfkhdhnbkambaaGreatDoorHp01
import Derived.Test.YtmfkhdhnbkambaaGreatDoorHp05
import Derived.Test.YtmfkhdhnbkambaaGreatDoorHp06
set_option maxRecDepth 100000
set_option maxHeartbeats 16000000
set_option linter.unusedSimpArgs false
namespace Go.Proofs.YtmfkhdhnbkambaaGreatDoor
open Go.RowKit
def BldW (B b:Nat)(l:List UInt8)(w:World):Prop:=
 b<B∧∃ p v,w.heap[b]? =some (.cells #[p,v] 237 (0,0))∧(p= .pointer none∨p= .pointer (some ⟨b,0,none⟩))∧w.ownsRow B 5 1 v l.length (Lib.byteCells l)
def noBytes (o:Option Obj):Prop:=∃ cs t fr,o=some (.cells cs t fr)∧t≠5
structure KeptW (B b:Nat) (w w':World):Prop where
 os:w'.os=w.os
 tape:w'.tape=w.tape
 output:w'.output=w.output
 size:w.heap.size≤w'.heap.size
 block:∀ k,k<w.heap.size→k≠b→k<B∨noBytes w.heap[k]?→w'.heap[k]? =w.heap[k]?
theorem KeptW.refl (B b:Nat)(w:World):KeptW B b w w:=⟨rfl,rfl,rfl,Nat.le_refl _,fun _ _ _ _=>rfl⟩
theorem KeptW.trans {B b:Nat}{u v w:World}(h:KeptW B b u v)(k:KeptW B b v w):KeptW B b u w:=
 ⟨k.os.trans h.os,k.tape.trans h.tape,k.output.trans h.output,Nat.le_trans h.size k.size,fun i hi hb hc=>by
   have e:=h.block i hi hb hc
   exact(k.block i (Nat.lt_of_lt_of_le hi h.size) hb (by rw[e];exact hc)).trans e⟩
theorem KeptW.of_below {B b:Nat}{u v:World}(h:Below u.heap.size u v):KeptW B b u v:=
 ⟨h.os,h.tape,h.output,h.size,fun i hi _ _=>h.block i hi⟩
theorem KeptW.below {B b lo:Nat}{u v:World}(h:KeptW B b u v)(h1:lo≤B)(h2:lo≤b)(h3:lo≤u.heap.size):Below lo u v:=
 ⟨h.os,h.tape,h.output,h.size,fun i hi=>h.block i (by omega) (by omega) (.inl (by omega))⟩
theorem KeptW.at_ {B b:Nat}{u v:World}(h:KeptW B b u v){g:Nat}{cs:Array Value}{t:TypeId}{fr:Nat×Nat}(hg:u.heap[g]? =some (.cells cs t fr))(hb:g≠b)(ht:t≠5):v.heap[g]? =some (.cells cs t fr):=
 (h.block g (heapLt hg) hb (.inr ⟨cs,t,fr,hg,ht⟩)).trans hg
theorem bldw_size {B b:Nat}{l:List UInt8}{w:World}(h:BldW B b l w):b<w.heap.size:=by
 obtain⟨_,p,v,hb,_⟩:=h
 exact heapLt hb
theorem BldW.below {B b:Nat}{l:List UInt8}{w w':World}(h:BldW B b l w)(hb:Below w.heap.size w w'):BldW B b l w':=by
 obtain⟨hbB,p,v,hbk,hp,hown⟩:=h
 exact⟨hbB,p,v,blkOld hbk hb,hp,ownBelow hown hb⟩
theorem BldW.fresh (B b:Nat)(w:World)(hb:b<B)(h:w.heap[b]? =some (.cells #[.pointer none,"s"] 237 (0,0))):BldW B b [] w:=
 ⟨hb,_,_,h,.inl rfl,⟨rfl,.inl ⟨rfl,rfl⟩⟩⟩
theorem copyCheckW_fresh (b:Nat)(w:World)(h0:w.cell? ⟨b,0,none⟩=some (.pointer none))(hsh:w.shape? b=some (237,2))(hfz:w.frozen? ⟨b,0,none⟩=false):
 Calls Tryz.prog 208 #[.pointer (some ⟨b,0,none⟩)] w fun e w'=>e= .returned (.tuple #[])∧w'=w.setCell ⟨b,0,none⟩ (.pointer (some ⟨b,0,none⟩)):=by
 obtain⟨j,hj,hjs⟩:=Option.map_eq_some_iff.1 (show(Tryz.prog.info? 189).map (·.size)=some 2 by kernel_rfl)
 have hlies:liesAt Tryz.prog Tryz.prog.depth 237 (2/Tryz.prog.cellsOf 237) 0 189 1=true:=by kernel_rfl
 go_enter Tryz.func208,Tryz.ntmps208
 go_wp2
 rw[Lib.run_to_unsafe w ⟨b,0,none⟩ Tryz.underlying187 Tryz.underlying241 hj (by rw[hjs];decide) hsh (Nat.zero_lt_succ 1)]
 simp only[Result.andThen]
 rw[Oper.upon_value]
 go_wp2
 rw[run_callFunc_extern Tryz.func258 Kr Kr Kr (e:=Extern.AbiNoEscape.same) Kr]
 rw[Lib.run_noEscape]
 simp only[Result.andThen]
 rw[Oper.upon_value]
 go_wp2
 rw[Lib.run_from_unsafe w ⟨b,0,none⟩ Tryz.underlying241 Tryz.underlying187 hj hsh hlies]
 simp only[Result.andThen]
 rw[Oper.upon_value]
 go_wp2
 go_end0
 exact⟨rfl,rfl⟩
theorem setW (B b:Nat)(w:World)(i:Nat)(v:Value):KeptW B b w (w.setCell ⟨b,i,none⟩ v):=
 ⟨rfl,rfl,rfl,by simp[World.setCell],fun k _ hk _=>Below.heap_setCell _ _ _ _ hk⟩
theorem copyCheckW_any (B b:Nat)(l:List UInt8)(w:World)(h:BldW B b l w):
 Calls Tryz.prog 208 #[.pointer (some ⟨b,0,none⟩)] w fun e w'=>e= .returned (.tuple #[])∧
  (b<B∧∃ v,w'.heap[b]? =some (.cells #[.pointer (some ⟨b,0,none⟩),v] 237 (0,0))∧w'.ownsRow B 5 1 v l.length (Lib.byteCells l))∧KeptW B b w w':=by
 obtain⟨hbB,p,v,hb,hp,hown⟩:=h
 rcases hp with rfl|rfl
 ·refine(copyCheckW_fresh b w (by rw[blkCell hb];rfl) (by simp[World.shape?,hb]) (by simp[World.frozen?,hb])).mono ?_
  rintro e w' ⟨rfl,rfl⟩
  exact⟨rfl,⟨hbB,v,heap_set w b 0 _ _ _ _ hb,own_set hbB hown⟩,setW B b w 0 _⟩
 ·refine(copyCheck_used b w (by rw[blkCell hb];rfl)).mono ?_
  rintro e w' ⟨rfl,rfl⟩
  exact⟨rfl,⟨hbB,v,hb,hown⟩,KeptW.refl _ _ _⟩
theorem writeW_any (B b:Nat)(l:List UInt8)(s:ByteArray)(w:World)(h:BldW B b l w)(hlen:l.length+s.size≤140737488355328)(hBw:B≤w.heap.size):
 Calls Tryz.prog 175 #[.pointer (some ⟨b,0,none⟩),s] w fun e w'=>e= .returned (.tuple #[s.size,.nilIface])∧BldW B b (l++s.data.toList) w'∧KeptW B b w w':=by
 obtain⟨i0,hi,hz0,hz1,hz2⟩:=info_parts info_byte
 have HC:=Hq (copyCheckW_any B b l w h)
 clear h
 go_enter Tryz.func175,Tryz.ntmps175
 go_wp2_with (go_at_call 208;refine HC.out.mono ?_)
 rintro e w1 ⟨rfl,⟨hbB,v,hbk,hown⟩,hk1⟩
 have hs1:=hk1.size
 have c1:w1.cell? ⟨b,1,none⟩=some v:=by rw[blkCell hbk];rfl
 go_wp2_with (at_builtin;refine Lib.wpList_append_own_string _ rfl _ _ 112 9 rfl B 5 i0 Tryz.underlying112 Tryz.underlying9 hi hz0 hz1 hz2 _ _ _ rfl hown s rfl ?c3 ?c4 ?c5 ?_)
 case c3=>unfold maxLen;omega
 case c4=>omega
 case c5=>omega
 intro v' w2 hown' hgrow _
 have hlt:b<w1.heap.size:=heapLt hbk
 have hne:v.ownBlock≠some b:=fun e=>by
  have:=(hown.lt b e).1;omega
 have hb2:w2.heap[b]? =some (.cells #[.pointer (some ⟨b,0,none⟩),v] 237 (0,0)):=by
  rw[hgrow.block b hlt (fun e=>hne e.symm)];exact hbk
 have d1:w2.cell? ⟨b,1,none⟩=some v:=by rw[blkCell hb2];rfl
 have f1:w2.frozen? ⟨b,1,none⟩=false:=by simp[World.frozen?,hb2]
 obtain⟨ao,n',cap,rfl⟩:∃ ao n' cap,v'= .slice ao n' cap:=by
  rcases hown'.2 with⟨hv,_⟩|⟨g,cap,cur,hv,_⟩
  ·exact⟨_,_,_,hv⟩
  ·exact⟨_,_,_,hv⟩
 have hk2:KeptW B b w1 w2:=⟨hgrow.os,hgrow.tape,hgrow.output,hgrow.size,fun k hk hkb hc=>hgrow.block k hk (fun e=>by
  have h1:=(hown.lt k e.symm).1
  rcases hc with hc|⟨cs,t,fr,hcs,ht⟩
  ·omega
  ·rcases hown.2 with⟨hv,_⟩|⟨g,cap',cur,hv,_,hg,_⟩
   ·rw[hv]at e;simp[Value.ownBlock]at e
   ·rw[hv]at e
    have hkg:g=k:=by simpa[Value.ownBlock]using e.symm
    subst hkg
    rw[hcs]at hg
    injection hg with hg
    injection hg with _ hg2
    exact ht hg2)⟩
 have HKW:=Hq (hk1.trans hk2)
 clear hk1 hk2
 go_wp2_with fail
 go_ret2
 refine⟨rfl,?_,HKW.out.trans (setW B b w2 1 _)⟩
 have hbs:Lib.byteCells (l++s.data.toList)=Lib.byteCells l++Lib.strCells s:=by
  simp[Lib.byteCells,Lib.strCells]
 refine⟨hbB,_,_,heap_set w2 b 1 _ _ _ _ hb2,.inr rfl,?_⟩
 have:=own_set (i:=1) (u:=.slice ao n' cap) hbB hown'
 rw[hbs,List.length_append,show s.data.toList.length=s.size by simp]
 exact this
theorem stringW_any (B b:Nat)(l:List UInt8)(w:World)(h:BldW B b l w)(h0:l≠[]):
 Calls Tryz.prog 176 #[.pointer (some ⟨b,0,none⟩)] w fun e w'=>e= .returned (.string ⟨l.toArray⟩)∧KeptW B b w w':=by
 obtain⟨hbB,p,v,hbk,hp,hown⟩:=h
 have hl0:l.length≠0:=by simpa using h0
 obtain⟨g,cap,cur,rfl,hbg,hgc,hnc,hcm,hcs,htake⟩:∃ g cap cur,v= .slice (some ⟨g,0,none⟩) l.length cap∧B≤g∧w.heap[g]? =some (.cells cur 5 (0,0))∧l.length≤cap∧cap≤maxLen∧cur.size=cap*1∧cur.toList.take (l.length*1)=Lib.byteCells l:=by
  rcases hown.2 with⟨_,hz⟩|⟨g,cap,cur,hv,r⟩
  ·exact absurd hz hl0
  ·exact⟨g,cap,cur,hv,r⟩
 have c1:w.drew.cell? ⟨b,1,none⟩=some (.slice (some ⟨g,0,none⟩) l.length cap):=by
  have:w.drew.heap[b]? =some (.cells #[p,.slice (some ⟨g,0,none⟩) l.length cap] 237 (0,0)):=hbk
  rw[blkCell this];rfl
 have hSD:(Builtin.unsafeSliceData_ #[112] 205 #[.slice (some ⟨g,0,none⟩) l.length cap]).run Tryz.prog w.drew= .ok (.pointer (some ⟨g,0,none⟩)) w.drew:=
  Lib.run_unsafeSliceData_row _ _ _ _ _ _ (by omega)
 have hUS:(Builtin.unsafeString_ #[205,3] 9 #[.pointer (some ⟨g,0,none⟩),l.length]).run Tryz.prog w.drew= .ok (.string ⟨l.toArray⟩) (w.drew.freeze ⟨g,0,none⟩ l.length):=by
  refine Lib.run_unsafeString_row w.drew 205 3 9 5 ptr_type cells_byte g cur.size (by have hg':w.drew.heap[g]? =some (.cells cur 5 (0,0)):=hgc;simp[World.shape?,hg']) l h0 (by omega) (by unfold maxLen at hcm;omega) ?_
  intro j x hx
  have:=hown.cells (g:=g) rfl j (.int .u8 x.toNat) (by simp[Lib.byteCells,hx])
  exact this
 have HK:KeptW B b w (w.drew.freeze ⟨g,0,none⟩ l.length):=by
  have h1:=KeptR.freeze g (g+1) g l.length w (Nat.le_refl _) (Nat.lt_succ_self _)
  refine⟨h1.os,h1.tape,h1.output,h1.size,fun k hk hkb hc=>h1.block k hk ?_⟩
  rcases Nat.lt_trichotomy k g with h|h|h
  ·exact .inl h
  ·subst h
   rcases hc with hc|⟨cs,t,fr,hcs,ht⟩
   ·omega
   ·rw[hcs]at hgc
    injection hgc with hgc
    injection hgc with _ h2
    exact absurd h2 ht
  ·exact .inr h
 clear hown hbk htake hcs hcm hnc hgc h0
 go_enter Tryz.func176,Tryz.ntmps176
 go_wp2
 go_region
 all_goals (go_wp2;go_ret;exact⟨rfl,HK⟩)
theorem p_bytes (n:Int)(size:Nat)(h8:size≤8):(Oct.putB n size).data.toList=Rc.p n size:=by
 unfold Oct.putB
 rw[if_neg (by omega)]
 simp[Rc.p]
theorem p_size (n:Int)(size:Nat):(Rc.p n size).length=size:=Oct.putL_length _ _
theorem t_size (s:ByteArray):(Rc.t s).length=2+s.size:=by
 unfold Rc.t
 rw[List.length_append,p_size]
 simp
theorem putText_any (s:ByteArray)(hs:s.size≤65535)(w:World):
 Calls Tryz.prog 288 #[s] w fun e w'=>∃ x:ByteArray,e= .returned (.string x)∧x.data.toList=Rc.t s∧Below w.heap.size w w':=by
 have HP:=Hq (fun W=>put_any s.size 2 (by omega) (by omega) W)
 have hmin:min (s.size:Int) 65535=s.size:=by omega
 have hex:s.extract 0 s.size=s:=ByteArray.extract_zero_size
 have hsz:(Oct.putB (s.size:Int) 2).size=2:=Oct.putB_size _ 2 (by omega)
 have hsum:(Oct.putB (s.size:Int) 2).size+s.size≤281474976710656:=by omega
 have hfin:(Oct.putB (s.size:Int) 2++s).data.toList=Rc.t s:=by
  have e:(Oct.putB (s.size:Int) 2).data.toList=Rc.p s.size 2:=p_bytes _ 2 (by omega)
  rw[ByteArray.data_append,Array.toList_append,e];rfl
 go_enter Tryz.func288,Tryz.ntmps288
 go_wp2_with ((go_at_call 153;refine(HP.out _).mono ?_;rintro e w1 ⟨rfl,hb1⟩))
 go_ret
 exact⟨_,rfl,hfin,hb1⟩
theorem flat_int (size:Nat)(h8:size≤8)(xs:List Int)(k:Nat):((xs.take k).flatMap (fun n=>Rc.p n size)).length≤k*8:=by
 refine Nat.le_trans ?_ (Nat.mul_le_mul_right _ (show(xs.take k).length≤k by rw[List.length_take];omega))
 have hh:∀ ys:List Int,(∀ y∈ys,((fun n=>Rc.p n size) y).length≤8)→(ys.flatMap (fun n=>Rc.p n size)).length≤ys.length*8:=by
  intro ys
  induction ys with
  |nil=>intro _;simp
  |cons y ys ih=>
   intro h
   rw[List.flatMap_cons,List.length_append,List.length_cons,Nat.succ_mul]
   have h1:(Rc.p y size).length≤8:=h y (List.mem_cons_self ..)
   show(Rc.p y size).length+_≤_
   have h2:=ih (fun z hz=>h z (List.mem_cons_of_mem _ hz))
   omega
 exact hh _ (fun y hy=>by show(Rc.p y size).length≤8;rw[p_size];exact h8)
theorem wput_any (B b g:Nat)(l:List UInt8)(size:Nat)(h8:size≤8)(xs:List Int)(w:World)(h:BldW B b l w)(hB:B≤w.heap.size)(hg:w.heap[g]? =some (.cells (xs.map (Value.int .i64)).toArray 3 (0,0)))(hgb:g≠b)(hlen:l.length+xs.length*8≤140737488355328):
 Calls Tryz.prog 255 #[.pointer (some ⟨b,0,none⟩),.int .i64 (size:Int),.slice (some ⟨g,0,none⟩) xs.length xs.length] w fun e w'=>e= .returned (.tuple #[])∧BldW B b (l++xs.flatMap (fun n=>Rc.p n size)) w'∧KeptW B b w w':=by
 have HW:=Hq h
 have HG:=Hq hg
 have hFL:=Hq (flat_int size h8 xs)
 have HP:=Hq (fun n W=>put_any n (size:Int) (by omega) (by omega) W)
 have HPB:=Hq (fun n=>p_bytes n size h8)
 have HPZ:=Hq (fun n=>Oct.putB_size n size h8)
 clear h hg
 go_enter Tryz.func255,Tryz.ntmps255
 go_wp2_with fail
 go_loopw [7,10] (fun _ i wr=>∃ k:Nat,k≤xs.length∧i= .int .i64 k∧BldW B b (l++(xs.take k).flatMap (fun n=>Rc.p n size)) wr∧KeptW B b w wr) (fun _ i _=>xs.length-(intOf i).toNat)
 case atStart=>exact⟨0,Nat.zero_le _,rfl,by simpa using HW.out,KeptW.refl _ _ _⟩
 case round=>
  obtain⟨k,hk,rfl,hbw,hkw⟩:=hrel
  have HBW:=Hq hbw
  have HKW:=Hq hkw
  clear hbw hkw
  by_cases hlt:k<xs.length
  ·have q0:wr.cell? ⟨g,k,none⟩=some (Value.int .i64 xs[k]):=by
    rw[blkCell (HKW.out.at_ HG.out hgb (by decide))]
    simp[hlt]
   have hst:(xs.take (k+1)).flatMap (fun n=>Rc.p n size)=(xs.take k).flatMap (fun n=>Rc.p n size)++(fun n=>Rc.p n size) xs[k]:=by
    rw[List.take_add_one,List.flatMap_append,List.getElem?_eq_getElem hlt]
    simp
   have HST:=Hq hst
   generalize xs[k]=x at q0 HST
   clear hst
   go_upto_region 3 with fail
   refine rgH (S:=(fun _=>True)) (fun hHeld=>?_) (by trivial)
   refine tkW 0 (some 14) (v:=?_) rfl ?_ (tkW 1 (some 15) (v:=?_) rfl ?_ (tkW 2 (some 16) (v:=?_) rfl ?_ (tkW 3 (some 17) (v:=?_) rfl ?_ (tkW 4 (some 18) (v:=?_) rfl ?_ ?_))))
   iterate 5 (rotate_left;focus(intro w hSw;(try dsimp only at hSw);go_simp;(try with_reducible rfl)))
   try simp only[Act.put,pS]
   refine rdP 5 fun K hK=>?_
   go_simp
   refine(HP.out x _).mono ?_;rintro e w1 ⟨rfl,hb1⟩;have HB1:=Hq (HBW.out.below ((Below.refl _ wr).drew.trans hb1));have HS1:=Hq hb1.size;try go_simp
   refine hKo hK (fun hHeld=>?_) (by trivial)
   clear hK K
   refine rdP 6 fun K hK=>?_
   go_simp
   refine(writeW_any B b _ (Oct.putB x (size:Int)) _ HB1.out (by have:=HPZ.out x;have:=hFL.out k;rw[List.length_append];omega) (by have h1:=HKW.out.size;have h2:=HS1.out;have h3:wr.drew.heap.size=wr.heap.size:=rfl;omega)).mono ?_;rintro e w2 ⟨rfl,hbw2,hkw2⟩;have HBW2:=Hq hbw2;have HKW2:=Hq ((HKW.out.trans (KeptW.of_below ((Below.refl _ wr).drew.trans hb1))).trans hkw2);clear hbw2 hkw2;try go_simp
   refine hKo hK (fun hHeld=>?_) (by trivial)
   clear hK K
   refine wpAnyH_done Kr ?_ _
   clear hHeld
   go_wp2_with fail
   go_roundw
   case rel=>exact⟨k+1,by omega,by go_num,by rw[HST.out,← List.append_assoc];have h:=HBW2.out;rw[HPB.out]at h;exact h,HKW2.out⟩
   case measure=>simp[intOf];omega
  ·obtain rfl:k=xs.length:=by omega
   go_wp2_with fail
   first|go_end0|go_ret
   refine⟨rfl,?_,HKW.out⟩
   have h:=HBW.out
   rw[List.take_length]at h
   exact h
theorem flat_str (xs:List ByteArray)(hx:∀ s∈xs,s.size≤65535)(k:Nat):((xs.take k).flatMap Rc.t).length≤k*65537:=by
 refine Nat.le_trans ?_ (Nat.mul_le_mul_right _ (show(xs.take k).length≤k by rw[List.length_take];omega))
 have hh:∀ ys:List ByteArray,(∀ y∈ys,(Rc.t y).length≤65537)→(ys.flatMap Rc.t).length≤ys.length*65537:=by
  intro ys
  induction ys with
  |nil=>intro _;simp
  |cons y ys ih=>
   intro h
   rw[List.flatMap_cons,List.length_append,List.length_cons,Nat.succ_mul]
   have h1:(Rc.t y).length≤65537:=h y (List.mem_cons_self ..)
   show(Rc.t y).length+_≤_
   have h2:=ih (fun z hz=>h z (List.mem_cons_of_mem _ hz))
   omega
 exact hh _ (fun y hy=>by rw[t_size];have:=hx y (List.mem_of_mem_take hy);omega)
theorem wtexts_any (B b g:Nat)(l:List UInt8)(xs:List ByteArray)(hx:∀ s∈xs,s.size≤65535)(w:World)(h:BldW B b l w)(hB:B≤w.heap.size)(hg:w.heap[g]? =some (.cells (xs.map Value.string).toArray 9 (0,0)))(hgb:g≠b)(hlen:l.length+xs.length*65537≤140737488355328):
 Calls Tryz.prog 256 #[.pointer (some ⟨b,0,none⟩),.slice (some ⟨g,0,none⟩) xs.length xs.length] w fun e w'=>e= .returned (.tuple #[])∧BldW B b (l++xs.flatMap Rc.t) w'∧KeptW B b w w':=by
 have HW:=Hq h
 have HG:=Hq hg
 have hFL:=Hq (flat_str xs hx)
 have HP:=Hq (fun s hs W=>putText_any s hs W)
 have HXS:=Hq hx
 clear h hg hx
 go_enter Tryz.func256,Tryz.ntmps256
 go_wp2_with fail
 go_loopw [5,8] (fun _ i wr=>∃ k:Nat,k≤xs.length∧i= .int .i64 k∧BldW B b (l++(xs.take k).flatMap Rc.t) wr∧KeptW B b w wr) (fun _ i _=>xs.length-(intOf i).toNat)
 case atStart=>exact⟨0,Nat.zero_le _,rfl,by simpa using HW.out,KeptW.refl _ _ _⟩
 case round=>
  obtain⟨k,hk,rfl,hbw,hkw⟩:=hrel
  have HBW:=Hq hbw
  have HKW:=Hq hkw
  clear hbw hkw
  by_cases hlt:k<xs.length
  ·have q0:wr.cell? ⟨g,k,none⟩=some (Value.string xs[k]):=by
    rw[blkCell (HKW.out.at_ HG.out hgb (by decide))]
    simp[hlt]
   have hst:(xs.take (k+1)).flatMap Rc.t=(xs.take k).flatMap Rc.t++Rc.t xs[k]:=by
    rw[List.take_add_one,List.flatMap_append,List.getElem?_eq_getElem hlt]
    simp
   have HST:=Hq hst
   have HXK:=Hq (HXS.out _ (List.getElem_mem hlt))
   generalize xs[k]=x at q0 HST HXK
   clear hst
   go_upto_region 3 with fail
   refine rgH (S:=(fun _=>True)) (fun hHeld=>?_) (by trivial)
   refine tkW 0 (some 12) (v:=?_) rfl ?_ (tkW 1 (some 13) (v:=?_) rfl ?_ (tkW 2 (some 14) (v:=?_) rfl ?_ (tkW 3 (some 15) (v:=?_) rfl ?_ ?_)))
   iterate 4 (rotate_left;focus(intro w hSw;(try dsimp only at hSw);go_simp;(try with_reducible rfl)))
   try simp only[Act.put,pS]
   refine rdP 4 fun K hK=>?_
   go_simp
   refine(HP.out x HXK.out _).mono ?_;rintro e w1 ⟨y,rfl,hy,hb1⟩;have HB1:=Hq (HBW.out.below ((Below.refl _ wr).drew.trans hb1));have HY:=Hq hy;have HS1:=Hq hb1.size;clear hy;try go_simp
   refine hKo hK (fun hHeld=>?_) (by trivial)
   clear hK K
   refine rdP 5 fun K hK=>?_
   go_simp
   refine(writeW_any B b _ (y) _ HB1.out (by have h1:=hFL.out k;have h2:=t_size x;have h3:y.size=(Rc.t x).length:=(by rw[← HY.out];first|done|simp);have h4:=HXK.out;rw[List.length_append];omega) (by have h1:=HKW.out.size;have h2:=HS1.out;have h3:wr.drew.heap.size=wr.heap.size:=rfl;omega)).mono ?_;rintro e w2 ⟨rfl,hbw2,hkw2⟩;have HBW2:=Hq hbw2;have HKW2:=Hq ((HKW.out.trans (KeptW.of_below ((Below.refl _ wr).drew.trans hb1))).trans hkw2);clear hbw2 hkw2;try go_simp
   refine hKo hK (fun hHeld=>?_) (by trivial)
   clear hK K
   refine wpAnyH_done Kr ?_ _
   clear hHeld
   go_wp2_with fail
   go_roundw
   case rel=>exact⟨k+1,by omega,by go_num,by rw[HST.out,← List.append_assoc];have h:=HBW2.out;rw[HY.out]at h;exact h,HKW2.out⟩
   case measure=>simp[intOf];omega
  ·obtain rfl:k=xs.length:=by omega
   go_wp2_with fail
   first|go_end0|go_ret
   refine⟨rfl,?_,HKW.out⟩
   have h:=HBW.out
   rw[List.take_length]at h
   exact h
structure Wr (w:World) (a f b:Nat) (R F:Array Value) (l:List UInt8) (u:World):Prop where
 br:u.heap[a]? =some (.cells R 49 (0,0))
 bf:u.heap[f]? =some (.cells F 228 (0,0))
 wr:BldW (b+1) b l u
 ab:a<b∧f<b
 low:w.heap.size≤a
 below:Below w.heap.size w u
theorem Wr.step {w u v:World}{a f b:Nat}{R F:Array Value}{l:List UInt8}(h:Wr w a f b R F l u)(hb:Below u.heap.size u v):Wr w a f b R F l v:=
 ⟨blkOld h.br hb,blkOld h.bf hb,h.wr.below hb,h.ab,h.low,joinB h.below hb⟩
theorem Wr.turn {w u v:World}{a f b:Nat}{R F:Array Value}{l l':List UInt8}(h:Wr w a f b R F l u)(hw:BldW (b+1) b l' v)(hk:KeptW (b+1) b u v):Wr w a f b R F l' v:=
 ⟨hk.at_ h.br (by have:=h.ab;omega) (by decide),hk.at_ h.bf (by have:=h.ab;omega) (by decide),hw,h.ab,h.low,h.below.trans (hk.below (by have:=h.ab;have:=h.low;omega) (by have:=h.ab;have:=h.low;omega) h.below.size)⟩
theorem Wr.size {w u:World}{a f b:Nat}{R F:Array Value}{l:List UInt8}(h:Wr w a f b R F l u):b+1≤u.heap.size:=bldw_size h.wr
theorem Wr.put {w u:World}{a f b:Nat}{R F:Array Value}{l:List UInt8}(h:Wr w a f b R F l u)(size:Nat)(h8:size≤8)(xs:List Int)(hlen:l.length+xs.length*8≤140737488355328):
 Calls Tryz.prog 255 #[.pointer (some ⟨b,0,none⟩),.int .i64 (size:Int),.slice (some ⟨u.heap.size,0,none⟩) xs.length xs.length] (u.alloc (.cells (xs.map (Value.int .i64)).toArray 3)) fun e w'=>e= .returned (.tuple #[])∧Wr w a f b R F (l++xs.flatMap (fun n=>Rc.p n size)) w':=by
 have h2:=h.step (allocB u (.cells (xs.map (Value.int .i64)).toArray 3))
 refine(wput_any (b+1) b u.heap.size l size h8 xs _ h2.wr h2.size (heap_alloc_new u _) (by have:=h.size;omega) hlen).mono ?_
 rintro e w' ⟨rfl,h3,h4⟩
 exact⟨rfl,h2.turn h3 h4⟩
theorem Wr.put1 {w u:World}{a f b:Nat}{R F:Array Value}{l:List UInt8}(h:Wr w a f b R F l u)(size:Nat)(h8:size≤8)(x:Int)(hlen:l.length+8≤140737488355328):
 Calls Tryz.prog 255 #[.pointer (some ⟨b,0,none⟩),.int .i64 (size:Int),.slice (some ⟨u.heap.size,0,none⟩) 1 1] (u.alloc (.cells #[x] 3)) fun e w'=>e= .returned (.tuple #[])∧Wr w a f b R F (l++Rc.p x size) w':=by
 refine(h.put size h8 [x] (by simpa using hlen)).mono ?_
 rintro e w' ⟨rfl,h3⟩
 exact⟨rfl,by simpa using h3⟩
theorem Wr.put2 {w u:World}{a f b:Nat}{R F:Array Value}{l:List UInt8}(h:Wr w a f b R F l u)(size:Nat)(h8:size≤8)(x y:Int)(hlen:l.length+16≤140737488355328):
 Calls Tryz.prog 255 #[.pointer (some ⟨b,0,none⟩),.int .i64 (size:Int),.slice (some ⟨u.heap.size,0,none⟩) 2 2] (u.alloc (.cells #[x,y] 3)) fun e w'=>e= .returned (.tuple #[])∧Wr w a f b R F (l++(Rc.p x size++Rc.p y size)) w':=by
 refine(h.put size h8 [x,y] (by simpa using hlen)).mono ?_
 rintro e w' ⟨rfl,h3⟩
 exact⟨rfl,by simpa using h3⟩
theorem Wr.put3 {w u:World}{a f b:Nat}{R F:Array Value}{l:List UInt8}(h:Wr w a f b R F l u)(size:Nat)(h8:size≤8)(x y z:Int)(hlen:l.length+24≤140737488355328):
 Calls Tryz.prog 255 #[.pointer (some ⟨b,0,none⟩),.int .i64 (size:Int),.slice (some ⟨u.heap.size,0,none⟩) 3 3] (u.alloc (.cells #[x,y,z] 3)) fun e w'=>e= .returned (.tuple #[])∧Wr w a f b R F (l++(Rc.p x size++(Rc.p y size++Rc.p z size))) w':=by
 refine(h.put size h8 [x,y,z] (by simpa using hlen)).mono ?_
 rintro e w' ⟨rfl,h3⟩
 exact⟨rfl,by simpa using h3⟩
theorem Wr.texts {w u:World}{a f b:Nat}{R F:Array Value}{l:List UInt8}(h:Wr w a f b R F l u)(xs:List ByteArray)(hx:∀ s∈xs,s.size≤65535)(hlen:l.length+xs.length*65537≤140737488355328):
 Calls Tryz.prog 256 #[.pointer (some ⟨b,0,none⟩),.slice (some ⟨u.heap.size,0,none⟩) xs.length xs.length] (u.alloc (.cells (xs.map Value.string).toArray 9)) fun e w'=>e= .returned (.tuple #[])∧Wr w a f b R F (l++xs.flatMap Rc.t) w':=by
 have h2:=h.step (allocB u (.cells (xs.map Value.string).toArray 9))
 refine(wtexts_any (b+1) b u.heap.size l xs hx _ h2.wr h2.size (heap_alloc_new u _) (by have:=h.size;omega) hlen).mono ?_
 rintro e w' ⟨rfl,h3,h4⟩
 exact⟨rfl,h2.turn h3 h4⟩
theorem Wr.text1 {w u:World}{a f b:Nat}{R F:Array Value}{l:List UInt8}(h:Wr w a f b R F l u)(x:ByteArray)(hx:x.size≤65535)(hlen:l.length+65537≤140737488355328):
 Calls Tryz.prog 256 #[.pointer (some ⟨b,0,none⟩),.slice (some ⟨u.heap.size,0,none⟩) 1 1] (u.alloc (.cells #[x] 9)) fun e w'=>e= .returned (.tuple #[])∧Wr w a f b R F (l++Rc.t x) w':=by
 refine(h.texts [x] (by simpa using hx) (by simpa using hlen)).mono ?_
 rintro e w' ⟨rfl,h3⟩
 exact⟨rfl,by simpa using h3⟩
theorem Wr.text2 {w u:World}{a f b:Nat}{R F:Array Value}{l:List UInt8}(h:Wr w a f b R F l u)(x y:ByteArray)(hx:x.size≤65535)(hy:y.size≤65535)(hlen:l.length+131074≤140737488355328):
 Calls Tryz.prog 256 #[.pointer (some ⟨b,0,none⟩),.slice (some ⟨u.heap.size,0,none⟩) 2 2] (u.alloc (.cells #[x,y] 9)) fun e w'=>e= .returned (.tuple #[])∧Wr w a f b R F (l++(Rc.t x++Rc.t y)) w':=by
 refine(h.texts [x,y] (by simpa using⟨hx,hy⟩) (by simpa using hlen)).mono ?_
 rintro e w' ⟨rfl,h3⟩
 exact⟨rfl,by simpa using h3⟩
theorem Wr.done {w u:World}{a f b:Nat}{R F:Array Value}{l:List UInt8}(h:Wr w a f b R F l u)(h0:l≠[]):
 Calls Tryz.prog 176 #[.pointer (some ⟨b,0,none⟩)] u fun e w'=>e= .returned (.string ⟨l.toArray⟩)∧Below w.heap.size w w':=by
 refine(stringW_any (b+1) b l u h.wr h0).mono ?_
 rintro e w' ⟨rfl,hk⟩
 exact⟨rfl,(h.turn (h.wr) (KeptW.refl _ _ _)).below.trans (hk.below (by have:=h.ab;have:=h.low;omega) (by have:=h.ab;have:=h.low;omega) h.below.size)⟩
theorem wr_new {w w1:World}{R F:Array Value}(hb1:Below (w.alloc (.cells R 49)).heap.size (w.alloc (.cells R 49)) w1):
 Wr w w.heap.size w1.heap.size (w1.heap.size+1) R F [] ((w1.alloc (.cells F 228)).alloc (.cells #[.pointer none,"s"] 237)):=by
 have h1:Below w.heap.size w w1:=joinB (allocB _ _) hb1
 have hs1:=hb1.size
 simp at hs1
 refine⟨?_,new21 _ _ _,?_,⟨by omega,by omega⟩,Nat.le_refl _,pastAlloc (pastAlloc h1)⟩
 ·exact blkOld (blkNew hb1) (pastAlloc (allocB _ _))
 ·refine BldW.fresh _ _ _ (Nat.lt_succ_self _) ?_
  have:=heap_alloc_new (w1.alloc (.cells F 228)) (.cells #[.pointer none,"s"] 237)
  simpa using this
theorem body_bare (kind:Int)(hk:kind=1∨kind=5∨kind=6∨kind=7)(lsn prev txn page next nu ok os how root ep es:Int)(oo on ek:ByteArray)(ts:List Rc.TxnAt)(ds:List Rc.DirtyAt)(T D:Value)(_zo:oo.size≤65535)(_zn:on.size≤65535)(_ze:ek.size≤65535)(w:World):
 Calls Tryz.prog 207 #[.agg (rcA lsn prev txn kind page next nu ok os oo on how root ek ep es (T) (D))] w fun e w'=>e= .returned (.string ⟨(Rc.bodyB ⟨lsn,prev,txn,kind,page,next,nu,⟨ok,os,oo,on⟩,how,root,⟨ek,ep,es⟩,ts,ds⟩).toArray⟩)∧Below w.heap.size w w':=by
 have HOF:=Hq (fun W=>of_any kind W)
 rw[show ofV kind= .tuple #[formV false false false false true,true]from by rcases hk with rfl|rfl|rfl|rfl<;>rfl]at HOF
 have HBB:=Hq (show Rc.bodyB ⟨lsn,prev,txn,kind,page,next,nu,⟨ok,os,oo,on⟩,how,root,⟨ek,ep,es⟩,ts,ds⟩=Rc.headB ⟨lsn,prev,txn,kind,page,next,nu,⟨ok,os,oo,on⟩,how,root,⟨ek,ep,es⟩,ts,ds⟩++[]from by unfold Rc.bodyB;congr 1;unfold Rc.restB;simp only;rw[if_neg (by omega),if_neg (by omega),if_neg (by omega),if_neg (by omega),if_neg (by omega)])
 clear hk
 generalize Rc.bodyB ⟨lsn,prev,txn,kind,page,next,nu,⟨ok,os,oo,on⟩,how,root,⟨ek,ep,es⟩,ts,ds⟩=bb at HBB ⊢
 go_enter Tryz.func207,Tryz.ntmps207
 go_upto_region 3 with((go_at_call 245;(with_reducible refine(HOF.out _).mono ?_);rintro e w1 ⟨rfl,hb1⟩))
 have H0:=Hq (wr_new (R:=(rcA lsn prev txn kind page next nu ok os oo on how root ek ep es (T) (D))) (F:=#[false,false,false,false,true]) hb1)
 obtain⟨V,hV⟩:=ex ((w1.alloc (.cells #[false,false,false,false,true] 228)).alloc (.cells #[.pointer none,"s"] 237))
 rw[← hV]at H0 ⊢
 clear hV
 have hR0:=blkCell H0.out.br
 have hF0:=blkCell H0.out.bf
 clear hb1 HOF
 go_upto_region 4 with((go_at_call 255;refine(H0.out.put1 1 (by omega) kind (by simp only[List.length_nil];omega)).mono ?_;rintro e v1 ⟨rfl,hx⟩;have H1:=Hq hx;clear hx;have hR1:=blkCell H1.out.br;have hF1:=blkCell H1.out.bf))
 clear hR0 hF0 H0
 go_upto_region 20 with((go_at_call 255;refine(H1.out.put3 6 (by omega) lsn prev txn (by simp only[List.length_append,p_size,List.length_nil];omega)).mono ?_;rintro e v2 ⟨rfl,hx⟩;have H2:=Hq hx;clear hx;have hR2:=blkCell H2.out.br;have hF2:=blkCell H2.out.bf))
 clear hR1 hF1 H1
 go_wp2_with ((go_at_call 176;refine(H2.out.done (by intro h;have:=congrArg List.length h;simp only[List.length_append,p_size,List.length_nil]at this;omega)).mono ?_;rintro e w9 ⟨rfl,hb9⟩))
 go_ret
 refine⟨?_,hb9⟩
 rw[HBB.out]
 simp[Rc.headB]
theorem body_nest (lsn prev txn page next nu ok os how root ep es:Int)(oo on ek:ByteArray)(ts:List Rc.TxnAt)(ds:List Rc.DirtyAt)(T D:Value)(_zo:oo.size≤65535)(_zn:on.size≤65535)(_ze:ek.size≤65535)(w:World):
 Calls Tryz.prog 207 #[.agg (rcA lsn prev txn 4 page next nu ok os oo on how root ek ep es (T) (D))] w fun e w'=>e= .returned (.string ⟨(Rc.bodyB ⟨lsn,prev,txn,4,page,next,nu,⟨ok,os,oo,on⟩,how,root,⟨ek,ep,es⟩,ts,ds⟩).toArray⟩)∧Below w.heap.size w w':=by
 have HOF:=Hq (fun W=>of_any 4 W)
 rw[show ofV 4= .tuple #[formV false false true false true,true]from rfl]at HOF
 have HBB:=Hq (show Rc.bodyB ⟨lsn,prev,txn,4,page,next,nu,⟨ok,os,oo,on⟩,how,root,⟨ek,ep,es⟩,ts,ds⟩=Rc.headB ⟨lsn,prev,txn,4,page,next,nu,⟨ok,os,oo,on⟩,how,root,⟨ek,ep,es⟩,ts,ds⟩++Rc.restB ⟨lsn,prev,txn,4,page,next,nu,⟨ok,os,oo,on⟩,how,root,⟨ek,ep,es⟩,ts,ds⟩from rfl)
 rw[Rc.restB_4 rfl]at HBB
 generalize Rc.bodyB ⟨lsn,prev,txn,4,page,next,nu,⟨ok,os,oo,on⟩,how,root,⟨ek,ep,es⟩,ts,ds⟩=bb at HBB ⊢
 go_enter Tryz.func207,Tryz.ntmps207
 go_upto_region 3 with((go_at_call 245;(with_reducible refine(HOF.out _).mono ?_);rintro e w1 ⟨rfl,hb1⟩))
 have H0:=Hq (wr_new (R:=(rcA lsn prev txn 4 page next nu ok os oo on how root ek ep es (T) (D))) (F:=#[false,false,true,false,true]) hb1)
 obtain⟨V,hV⟩:=ex ((w1.alloc (.cells #[false,false,true,false,true] 228)).alloc (.cells #[.pointer none,"s"] 237))
 rw[← hV]at H0 ⊢
 clear hV
 have hR0:=blkCell H0.out.br
 have hF0:=blkCell H0.out.bf
 clear hb1 HOF
 go_upto_region 4 with((go_at_call 255;refine(H0.out.put1 1 (by omega) 4 (by simp only[List.length_nil];omega)).mono ?_;rintro e v1 ⟨rfl,hx⟩;have H1:=Hq hx;clear hx;have hR1:=blkCell H1.out.br;have hF1:=blkCell H1.out.bf))
 clear hR0 hF0 H0
 go_upto_region 17 with((go_at_call 255;refine(H1.out.put3 6 (by omega) lsn prev txn (by simp only[List.length_append,p_size,List.length_nil];omega)).mono ?_;rintro e v2 ⟨rfl,hx⟩;have H2:=Hq hx;clear hx;have hR2:=blkCell H2.out.br;have hF2:=blkCell H2.out.bf))
 clear hR1 hF1 H1
 go_upto_region 20 with((go_at_call 255;refine(H2.out.put1 6 (by omega) next (by simp only[List.length_append,p_size,List.length_nil];omega)).mono ?_;rintro e v3 ⟨rfl,hx⟩;have H3:=Hq hx;clear hx;have hR3:=blkCell H3.out.br;have hF3:=blkCell H3.out.bf))
 clear hR2 hF2 H2
 go_wp2_with ((go_at_call 176;refine(H3.out.done (by intro h;have:=congrArg List.length h;simp only[List.length_append,p_size,List.length_nil]at this;omega)).mono ?_;rintro e w9 ⟨rfl,hb9⟩))
 go_ret
 refine⟨?_,hb9⟩
 rw[HBB.out]
 simp[Rc.headB,List.append_assoc]
theorem body_image (lsn prev txn page next nu ok os how root ep es:Int)(oo on ek:ByteArray)(ts:List Rc.TxnAt)(ds:List Rc.DirtyAt)(T D:Value)(zo:oo.size≤65535)(zn:on.size≤65535)(_ze:ek.size≤65535)(w:World):
 Calls Tryz.prog 207 #[.agg (rcA lsn prev txn 8 page next nu ok os oo on how root ek ep es (T) (D))] w fun e w'=>e= .returned (.string ⟨(Rc.bodyB ⟨lsn,prev,txn,8,page,next,nu,⟨ok,os,oo,on⟩,how,root,⟨ek,ep,es⟩,ts,ds⟩).toArray⟩)∧Below w.heap.size w w':=by
 have HOF:=Hq (fun W=>of_any 8 W)
 rw[show ofV 8= .tuple #[formV true false false false true,true]from rfl]at HOF
 have HBB:=Hq (show Rc.bodyB ⟨lsn,prev,txn,8,page,next,nu,⟨ok,os,oo,on⟩,how,root,⟨ek,ep,es⟩,ts,ds⟩=Rc.headB ⟨lsn,prev,txn,8,page,next,nu,⟨ok,os,oo,on⟩,how,root,⟨ek,ep,es⟩,ts,ds⟩++Rc.restB ⟨lsn,prev,txn,8,page,next,nu,⟨ok,os,oo,on⟩,how,root,⟨ek,ep,es⟩,ts,ds⟩from rfl)
 rw[Rc.restB_8 rfl]at HBB
 generalize Rc.bodyB ⟨lsn,prev,txn,8,page,next,nu,⟨ok,os,oo,on⟩,how,root,⟨ek,ep,es⟩,ts,ds⟩=bb at HBB ⊢
 go_enter Tryz.func207,Tryz.ntmps207
 go_upto_region 3 with((go_at_call 245;(with_reducible refine(HOF.out _).mono ?_);rintro e w1 ⟨rfl,hb1⟩))
 have H0:=Hq (wr_new (R:=(rcA lsn prev txn 8 page next nu ok os oo on how root ek ep es (T) (D))) (F:=#[true,false,false,false,true]) hb1)
 obtain⟨V,hV⟩:=ex ((w1.alloc (.cells #[true,false,false,false,true] 228)).alloc (.cells #[.pointer none,"s"] 237))
 rw[← hV]at H0 ⊢
 clear hV
 have hR0:=blkCell H0.out.br
 have hF0:=blkCell H0.out.bf
 clear hb1 HOF
 go_upto_region 4 with((go_at_call 255;refine(H0.out.put1 1 (by omega) 8 (by simp only[List.length_nil];omega)).mono ?_;rintro e v1 ⟨rfl,hx⟩;have H1:=Hq hx;clear hx;have hR1:=blkCell H1.out.br;have hF1:=blkCell H1.out.bf))
 clear hR0 hF0 H0
 go_upto_region 6 with((go_at_call 255;refine(H1.out.put3 6 (by omega) lsn prev txn (by simp only[List.length_append,p_size,List.length_nil];omega)).mono ?_;rintro e v2 ⟨rfl,hx⟩;have H2:=Hq hx;clear hx;have hR2:=blkCell H2.out.br;have hF2:=blkCell H2.out.bf))
 clear hR1 hF1 H1
 go_upto_region 7 with((go_at_call 255;refine(H2.out.put1 3 (by omega) page (by simp only[List.length_append,p_size,List.length_nil];omega)).mono ?_;rintro e v3 ⟨rfl,hx⟩;have H3:=Hq hx;clear hx;have hR3:=blkCell H3.out.br;have hF3:=blkCell H3.out.bf))
 clear hR2 hF2 H2
 go_upto_region 8 with((go_at_call 255;refine(H3.out.put1 1 (by omega) ok (by simp only[List.length_append,p_size,List.length_nil];omega)).mono ?_;rintro e v4 ⟨rfl,hx⟩;have H4:=Hq hx;clear hx;have hR4:=blkCell H4.out.br;have hF4:=blkCell H4.out.bf))
 clear hR3 hF3 H3
 go_upto_region 9 with((go_at_call 255;refine(H4.out.put1 2 (by omega) os (by simp only[List.length_append,p_size,List.length_nil];omega)).mono ?_;rintro e v5 ⟨rfl,hx⟩;have H5:=Hq hx;clear hx;have hR5:=blkCell H5.out.br;have hF5:=blkCell H5.out.bf))
 clear hR4 hF4 H4
 go_upto_region 20 with((go_at_call 256;refine(H5.out.text2 oo on zo zn (by simp only[List.length_append,p_size,List.length_nil];omega)).mono ?_;rintro e v6 ⟨rfl,hx⟩;have H6:=Hq hx;clear hx;have hR6:=blkCell H6.out.br;have hF6:=blkCell H6.out.bf))
 clear hR5 hF5 H5
 go_wp2_with ((go_at_call 176;refine(H6.out.done (by intro h;have:=congrArg List.length h;simp only[List.length_append,p_size,List.length_nil]at this;omega)).mono ?_;rintro e w9 ⟨rfl,hb9⟩))
 go_ret
 refine⟨?_,hb9⟩
 rw[HBB.out]
 simp[Rc.headB,Rc.opB,List.append_assoc]
theorem body_clr (lsn prev txn page next nu ok os how root ep es:Int)(oo on ek:ByteArray)(ts:List Rc.TxnAt)(ds:List Rc.DirtyAt)(T D:Value)(zo:oo.size≤65535)(zn:on.size≤65535)(_ze:ek.size≤65535)(w:World):
 Calls Tryz.prog 207 #[.agg (rcA lsn prev txn 3 page next nu ok os oo on how root ek ep es (T) (D))] w fun e w'=>e= .returned (.string ⟨(Rc.bodyB ⟨lsn,prev,txn,3,page,next,nu,⟨ok,os,oo,on⟩,how,root,⟨ek,ep,es⟩,ts,ds⟩).toArray⟩)∧Below w.heap.size w w':=by
 have HOF:=Hq (fun W=>of_any 3 W)
 rw[show ofV 3= .tuple #[formV true false true false true,true]from rfl]at HOF
 have HBB:=Hq (show Rc.bodyB ⟨lsn,prev,txn,3,page,next,nu,⟨ok,os,oo,on⟩,how,root,⟨ek,ep,es⟩,ts,ds⟩=Rc.headB ⟨lsn,prev,txn,3,page,next,nu,⟨ok,os,oo,on⟩,how,root,⟨ek,ep,es⟩,ts,ds⟩++Rc.restB ⟨lsn,prev,txn,3,page,next,nu,⟨ok,os,oo,on⟩,how,root,⟨ek,ep,es⟩,ts,ds⟩from rfl)
 rw[Rc.restB_3 rfl]at HBB
 generalize Rc.bodyB ⟨lsn,prev,txn,3,page,next,nu,⟨ok,os,oo,on⟩,how,root,⟨ek,ep,es⟩,ts,ds⟩=bb at HBB ⊢
 go_enter Tryz.func207,Tryz.ntmps207
 go_upto_region 3 with((go_at_call 245;(with_reducible refine(HOF.out _).mono ?_);rintro e w1 ⟨rfl,hb1⟩))
 have H0:=Hq (wr_new (R:=(rcA lsn prev txn 3 page next nu ok os oo on how root ek ep es (T) (D))) (F:=#[true,false,true,false,true]) hb1)
 obtain⟨V,hV⟩:=ex ((w1.alloc (.cells #[true,false,true,false,true] 228)).alloc (.cells #[.pointer none,"s"] 237))
 rw[← hV]at H0 ⊢
 clear hV
 have hR0:=blkCell H0.out.br
 have hF0:=blkCell H0.out.bf
 clear hb1 HOF
 go_upto_region 4 with((go_at_call 255;refine(H0.out.put1 1 (by omega) 3 (by simp only[List.length_nil];omega)).mono ?_;rintro e v1 ⟨rfl,hx⟩;have H1:=Hq hx;clear hx;have hR1:=blkCell H1.out.br;have hF1:=blkCell H1.out.bf))
 clear hR0 hF0 H0
 go_upto_region 6 with((go_at_call 255;refine(H1.out.put3 6 (by omega) lsn prev txn (by simp only[List.length_append,p_size,List.length_nil];omega)).mono ?_;rintro e v2 ⟨rfl,hx⟩;have H2:=Hq hx;clear hx;have hR2:=blkCell H2.out.br;have hF2:=blkCell H2.out.bf))
 clear hR1 hF1 H1
 go_upto_region 7 with((go_at_call 255;refine(H2.out.put1 3 (by omega) page (by simp only[List.length_append,p_size,List.length_nil];omega)).mono ?_;rintro e v3 ⟨rfl,hx⟩;have H3:=Hq hx;clear hx;have hR3:=blkCell H3.out.br;have hF3:=blkCell H3.out.bf))
 clear hR2 hF2 H2
 go_upto_region 8 with((go_at_call 255;refine(H3.out.put1 1 (by omega) ok (by simp only[List.length_append,p_size,List.length_nil];omega)).mono ?_;rintro e v4 ⟨rfl,hx⟩;have H4:=Hq hx;clear hx;have hR4:=blkCell H4.out.br;have hF4:=blkCell H4.out.bf))
 clear hR3 hF3 H3
 go_upto_region 9 with((go_at_call 255;refine(H4.out.put1 2 (by omega) os (by simp only[List.length_append,p_size,List.length_nil];omega)).mono ?_;rintro e v5 ⟨rfl,hx⟩;have H5:=Hq hx;clear hx;have hR5:=blkCell H5.out.br;have hF5:=blkCell H5.out.bf))
 clear hR4 hF4 H4
 go_upto_region 17 with((go_at_call 256;refine(H5.out.text2 oo on zo zn (by simp only[List.length_append,p_size,List.length_nil];omega)).mono ?_;rintro e v6 ⟨rfl,hx⟩;have H6:=Hq hx;clear hx;have hR6:=blkCell H6.out.br;have hF6:=blkCell H6.out.bf))
 clear hR5 hF5 H5
 go_upto_region 20 with((go_at_call 255;refine(H6.out.put1 6 (by omega) next (by simp only[List.length_append,p_size,t_size,List.length_nil];omega)).mono ?_;rintro e v7 ⟨rfl,hx⟩;have H7:=Hq hx;clear hx;have hR7:=blkCell H7.out.br;have hF7:=blkCell H7.out.bf))
 clear hR6 hF6 H6
 go_wp2_with ((go_at_call 176;refine(H7.out.done (by intro h;have:=congrArg List.length h;simp only[List.length_append,p_size,List.length_nil]at this;omega)).mono ?_;rintro e w9 ⟨rfl,hb9⟩))
 go_ret
 refine⟨?_,hb9⟩
 rw[HBB.out]
 simp[Rc.headB,Rc.opB,List.append_assoc]
theorem body_change (lsn prev txn page next nu ok os how root ep es:Int)(oo on ek:ByteArray)(ts:List Rc.TxnAt)(ds:List Rc.DirtyAt)(T D:Value)(zo:oo.size≤65535)(zn:on.size≤65535)(ze:ek.size≤65535)(w:World):
 Calls Tryz.prog 207 #[.agg (rcA lsn prev txn 2 page next nu ok os oo on how root ek ep es (T) (D))] w fun e w'=>e= .returned (.string ⟨(Rc.bodyB ⟨lsn,prev,txn,2,page,next,nu,⟨ok,os,oo,on⟩,how,root,⟨ek,ep,es⟩,ts,ds⟩).toArray⟩)∧Below w.heap.size w w':=by
 have HOF:=Hq (fun W=>of_any 2 W)
 rw[show ofV 2= .tuple #[formV true true false false true,true]from rfl]at HOF
 have HBB:=Hq (show Rc.bodyB ⟨lsn,prev,txn,2,page,next,nu,⟨ok,os,oo,on⟩,how,root,⟨ek,ep,es⟩,ts,ds⟩=Rc.headB ⟨lsn,prev,txn,2,page,next,nu,⟨ok,os,oo,on⟩,how,root,⟨ek,ep,es⟩,ts,ds⟩++Rc.restB ⟨lsn,prev,txn,2,page,next,nu,⟨ok,os,oo,on⟩,how,root,⟨ek,ep,es⟩,ts,ds⟩from rfl)
 rw[Rc.restB_2 rfl]at HBB
 generalize Rc.bodyB ⟨lsn,prev,txn,2,page,next,nu,⟨ok,os,oo,on⟩,how,root,⟨ek,ep,es⟩,ts,ds⟩=bb at HBB ⊢
 go_enter Tryz.func207,Tryz.ntmps207
 go_upto_region 3 with((go_at_call 245;(with_reducible refine(HOF.out _).mono ?_);rintro e w1 ⟨rfl,hb1⟩))
 have H0:=Hq (wr_new (R:=(rcA lsn prev txn 2 page next nu ok os oo on how root ek ep es (T) (D))) (F:=#[true,true,false,false,true]) hb1)
 obtain⟨V,hV⟩:=ex ((w1.alloc (.cells #[true,true,false,false,true] 228)).alloc (.cells #[.pointer none,"s"] 237))
 rw[← hV]at H0 ⊢
 clear hV
 have hR0:=blkCell H0.out.br
 have hF0:=blkCell H0.out.bf
 clear hb1 HOF
 go_upto_region 4 with((go_at_call 255;refine(H0.out.put1 1 (by omega) 2 (by simp only[List.length_nil];omega)).mono ?_;rintro e v1 ⟨rfl,hx⟩;have H1:=Hq hx;clear hx;have hR1:=blkCell H1.out.br;have hF1:=blkCell H1.out.bf))
 clear hR0 hF0 H0
 go_upto_region 6 with((go_at_call 255;refine(H1.out.put3 6 (by omega) lsn prev txn (by simp only[List.length_append,p_size,List.length_nil];omega)).mono ?_;rintro e v2 ⟨rfl,hx⟩;have H2:=Hq hx;clear hx;have hR2:=blkCell H2.out.br;have hF2:=blkCell H2.out.bf))
 clear hR1 hF1 H1
 go_upto_region 7 with((go_at_call 255;refine(H2.out.put1 3 (by omega) page (by simp only[List.length_append,p_size,List.length_nil];omega)).mono ?_;rintro e v3 ⟨rfl,hx⟩;have H3:=Hq hx;clear hx;have hR3:=blkCell H3.out.br;have hF3:=blkCell H3.out.bf))
 clear hR2 hF2 H2
 go_upto_region 8 with((go_at_call 255;refine(H3.out.put1 1 (by omega) ok (by simp only[List.length_append,p_size,List.length_nil];omega)).mono ?_;rintro e v4 ⟨rfl,hx⟩;have H4:=Hq hx;clear hx;have hR4:=blkCell H4.out.br;have hF4:=blkCell H4.out.bf))
 clear hR3 hF3 H3
 go_upto_region 9 with((go_at_call 255;refine(H4.out.put1 2 (by omega) os (by simp only[List.length_append,p_size,List.length_nil];omega)).mono ?_;rintro e v5 ⟨rfl,hx⟩;have H5:=Hq hx;clear hx;have hR5:=blkCell H5.out.br;have hF5:=blkCell H5.out.bf))
 clear hR4 hF4 H4
 go_upto_region 11 with((go_at_call 256;refine(H5.out.text2 oo on zo zn (by simp only[List.length_append,p_size,List.length_nil];omega)).mono ?_;rintro e v6 ⟨rfl,hx⟩;have H6:=Hq hx;clear hx;have hR6:=blkCell H6.out.br;have hF6:=blkCell H6.out.bf))
 clear hR5 hF5 H5
 go_upto_region 12 with((go_at_call 255;refine(H6.out.put1 1 (by omega) how (by simp only[List.length_append,p_size,t_size,List.length_nil];omega)).mono ?_;rintro e v7 ⟨rfl,hx⟩;have H7:=Hq hx;clear hx;have hR7:=blkCell H7.out.br;have hF7:=blkCell H7.out.bf))
 clear hR6 hF6 H6
 by_cases hh:how=1
 ·subst hh
  go_upto_region 20 with fail
  go_wp2_with ((go_at_call 176;refine(H7.out.done (by intro h;have:=congrArg List.length h;simp only[List.length_append,p_size,List.length_nil]at this;omega)).mono ?_;rintro e w9 ⟨rfl,hb9⟩))
  go_ret
  refine⟨?_,hb9⟩
  rw[HBB.out]
  simp[Rc.headB,Rc.opB,Rc.treeB,List.append_assoc]
 ·have hh2:(how != 1)=true:=by simpa using hh
  have HH:=Hq hh
  clear hh
  go_upto_region 13 with fail
  go_upto_region 14 with((go_at_call 255;refine(H7.out.put2 3 (by omega) root ep (by simp only[List.length_append,p_size,t_size,List.length_nil];omega)).mono ?_;rintro e v8 ⟨rfl,hx⟩;have H8:=Hq hx;clear hx;have hR8:=blkCell H8.out.br;have hF8:=blkCell H8.out.bf))
  clear hR7 hF7 H7
  go_upto_region 15 with((go_at_call 255;refine(H8.out.put1 2 (by omega) es (by simp only[List.length_append,p_size,t_size,List.length_nil];omega)).mono ?_;rintro e v9 ⟨rfl,hx⟩;have H9:=Hq hx;clear hx;have hR9:=blkCell H9.out.br;have hF9:=blkCell H9.out.bf))
  clear hR8 hF8 H8
  go_upto_region 20 with((go_at_call 256;refine(H9.out.text1 ek ze (by simp only[List.length_append,p_size,t_size,List.length_nil];omega)).mono ?_;rintro e v10 ⟨rfl,hx⟩;have H10:=Hq hx;clear hx;have hR10:=blkCell H10.out.br;have hF10:=blkCell H10.out.bf))
  clear hR9 hF9 H9
  go_wp2_with ((go_at_call 176;refine(H10.out.done (by intro h;have:=congrArg List.length h;simp only[List.length_append,p_size,List.length_nil]at this;omega)).mono ?_;rintro e w9 ⟨rfl,hb9⟩))
  go_ret
  refine⟨?_,hb9⟩
  rw[HBB.out]
  have hh3:=HH.out
  simp[hh3,Rc.headB,Rc.opB,Rc.treeB,List.append_assoc]
theorem bput1 {b:Nat}{l:List UInt8}{v:World}(h:BldW (b+1) b l v)(size:Nat)(h8:size≤8)(x:Int)(hlen:l.length+8≤140737488355328):
 Calls Tryz.prog 255 #[.pointer (some ⟨b,0,none⟩),.int .i64 (size:Int),.slice (some ⟨v.heap.size,0,none⟩) 1 1] (v.alloc (.cells #[x] 3)) fun e w'=>e= .returned (.tuple #[])∧BldW (b+1) b (l++Rc.p x size) w'∧KeptW (b+1) b v w':=by
 have hs:=bldw_size h
 refine(wput_any (b+1) b v.heap.size l size h8 [x] _ (h.below (allocB v _)) (by simp;omega) (heap_alloc_new v _) (by omega) (by simpa using hlen)).mono ?_
 rintro e w' ⟨rfl,h3,h4⟩
 exact⟨rfl,by simpa using h3,(KeptW.of_below (allocB v _)).trans h4⟩
theorem bput3 {b:Nat}{l:List UInt8}{v:World}(h:BldW (b+1) b l v)(size:Nat)(h8:size≤8)(x y z:Int)(hlen:l.length+24≤140737488355328):
 Calls Tryz.prog 255 #[.pointer (some ⟨b,0,none⟩),.int .i64 (size:Int),.slice (some ⟨v.heap.size,0,none⟩) 3 3] (v.alloc (.cells #[x,y,z] 3)) fun e w'=>e= .returned (.tuple #[])∧BldW (b+1) b (l++(Rc.p x size++(Rc.p y size++Rc.p z size))) w'∧KeptW (b+1) b v w':=by
 have hs:=bldw_size h
 refine(wput_any (b+1) b v.heap.size l size h8 [x,y,z] _ (h.below (allocB v _)) (by simp;omega) (heap_alloc_new v _) (by omega) (by simpa using hlen)).mono ?_
 rintro e w' ⟨rfl,h3,h4⟩
 exact⟨rfl,by simpa using h3,(KeptW.of_below (allocB v _)).trans h4⟩
theorem txnB_size (t:Rc.TxnAt):(Rc.txnB t).length=19:=by unfold Rc.txnB;simp only[List.length_append,p_size]
theorem dirtyB_size (t:Rc.DirtyAt):(Rc.dirtyB t).length=9:=by unfold Rc.dirtyB;simp only[List.length_append,p_size]
theorem flat_txn (ts:List Rc.TxnAt):(ts.flatMap Rc.txnB).length=ts.length*19:=by
 induction ts with
 |nil=>rfl
 |cons t ts ih=>rw[List.flatMap_cons,List.length_append,txnB_size,ih,List.length_cons];omega
theorem flat_dirty (ts:List Rc.DirtyAt):(ts.flatMap Rc.dirtyB).length=ts.length*9:=by
 induction ts with
 |nil=>rfl
 |cons t ts ih=>rw[List.flatMap_cons,List.length_append,dirtyB_size,ih,List.length_cons];omega
theorem flat_next {α:Type}(f:α→List UInt8)(xs:List α){k:Nat}(hk:k<xs.length):(xs.take (k+1)).flatMap f=(xs.take k).flatMap f++f xs[k]:=by
 rw[List.take_add_one,List.flatMap_append,List.getElem?_eq_getElem hk]
 simp
theorem lists_any (b:Nat)(l:List UInt8)(lsn prev txn kind page next nu ok os how root ep es:Int)(oo on ek:ByteArray)(ts:List Rc.TxnAt)(ds:List Rc.DirtyAt)(A D:Option Addr)(c d:Nat)(u:World)(h:BldW (b+1) b l u)
 (hT:∀ v,KeptW (b+1) b u v→TxR v A c ts) (hD:∀ v,KeptW (b+1) b u v→DiR v D d ds) (hl:l.length≤1000000) (ht:ts.length≤1048576) (hd:ds.length≤1048576):
 Calls Tryz.prog 257 #[.pointer (some ⟨b,0,none⟩),.agg (rcA lsn prev txn kind page next nu ok os oo on how root ek ep es (.slice A ts.length c) (.slice D ds.length d))] u fun e w'=>e= .returned (.tuple #[])∧BldW (b+1) b (l++(Rc.p nu 6++(Rc.p ts.length 2++(ts.flatMap Rc.txnB++(Rc.p ds.length 2++ds.flatMap Rc.dirtyB))))) w'∧KeptW (b+1) b u w':=by
 have hbu:=bldw_size h
 obtain⟨L1,hL1⟩:=ex (l++Rc.p nu 6)
 obtain⟨L2,hL2⟩:=ex (L1++Rc.p ts.length 2)
 obtain⟨L3,hL3⟩:=ex (L2++ts.flatMap Rc.txnB)
 obtain⟨L4,hL4⟩:=ex (L3++Rc.p ds.length 2)
 have z1:L1.length=l.length+6:=by rw[hL1,List.length_append,p_size]
 have z2:L2.length=l.length+8:=by rw[hL2,List.length_append,p_size,z1]
 have z3:L3.length=l.length+8+ts.length*19:=by rw[hL3,List.length_append,flat_txn,z2]
 have z4:L4.length=l.length+10+ts.length*19:=by rw[hL4,List.length_append,p_size,z3];omega
 have HFIN:=Hq (show l++(Rc.p nu 6++(Rc.p ts.length 2++(ts.flatMap Rc.txnB++(Rc.p ds.length 2++ds.flatMap Rc.dirtyB))))=L4++ds.flatMap Rc.dirtyB by rw[hL4,hL3,hL2,hL1];simp only[List.append_assoc])
 have HL1:=Hq hL1
 have HL2:=Hq hL2
 have HL3:=Hq hL3
 have HL4:=Hq hL4
 have HZ:=Hq (And.intro z1 (And.intro z2 (And.intro z3 (And.intro z4 (And.intro hl (And.intro ht hd))))))
 have HT:=Hq hT
 have HD:=Hq hD
 have HW:=Hq h
 clear hL1 hL2 hL3 hL4 z1 z2 z3 z4 hT hD h
 go_enter Tryz.func257,Tryz.ntmps257
 go_upto_region 1 with fail
 have HB0:=Hq (HW.out.below (allocB u (.cells (rcA lsn prev txn kind page next nu ok os oo on how root ek ep es (.slice A ts.length c) (.slice D ds.length d)) 49)))
 have HK0:=Hq (KeptW.of_below (B:=b+1) (b:=b) (allocB u (.cells (rcA lsn prev txn kind page next nu ok os oo on how root ek ep es (.slice A ts.length c) (.slice D ds.length d)) 49)))
 have HR0:=Hq (heap_alloc_new u (.cells (rcA lsn prev txn kind page next nu ok os oo on how root ek ep es (.slice A ts.length c) (.slice D ds.length d)) 49))
 obtain⟨a,ha⟩:=ex u.heap.size
 obtain⟨v0,hv0⟩:=ex (u.alloc (.cells (rcA lsn prev txn kind page next nu ok os oo on how root ek ep es (.slice A ts.length c) (.slice D ds.length d)) 49))
 rw[← hv0]at HB0 HK0 HR0 ⊢
 rw[← ha]at HR0 ⊢
 have hab:a≠b:=by omega
 clear hv0 ha hbu HW
 have hR0:=blkCell HR0.out
 go_upto_region 2 with((go_at_call 255;refine(bput1 HB0.out 6 (by omega) nu (by have:=HZ.out;omega)).mono ?_;rintro e v1 ⟨rfl,hw,hk⟩))
 rw[← HL1.out]at hw
 have HB1:=Hq hw
 have HK1:=Hq (HK0.out.trans hk)
 have HR1:=Hq (hk.at_ HR0.out hab (by decide))
 clear hR0 HB0 HK0 HR0 hw hk
 have hR1:=blkCell HR1.out
 go_upto_region 3 with((go_at_call 255;refine(bput1 HB1.out 2 (by omega) ts.length (by have:=HZ.out;omega)).mono ?_;rintro e v2 ⟨rfl,hw,hk⟩))
 rw[← HL2.out]at hw
 have HB2:=Hq hw
 have HK2:=Hq (HK1.out.trans hk)
 have HR2:=Hq (hk.at_ HR1.out hab (by decide))
 clear hR1 HB1 HK1 HR1 hw hk
 have hR2:=blkCell HR2.out
 go_wp2_with fail
 clear hR2
 go_loopw [23] (fun i wr=>∃ k:Nat,k≤ts.length∧i= .int .i64 k∧BldW (b+1) b (L2++(ts.take k).flatMap Rc.txnB) wr∧KeptW (b+1) b v2 wr) (fun i _=>ts.length-(intOf i).toNat)
 case atStart=>exact⟨0,Nat.zero_le _,rfl,by simpa using HB2.out,KeptW.refl _ _ _⟩
 case round=>
  obtain⟨k,hk,rfl,hbw,hkw⟩:=hrel
  have HBW:=Hq hbw
  have HKW:=Hq hkw
  clear hbw hkw
  by_cases hlt:k<ts.length
  ·obtain⟨g,off,rfl,hc,hgl,hcell⟩:=read_at txC_len (HT.out wr (HK2.out.trans HKW.out)) hlt
   have q0:=hcell 0 _ rfl
   have q1:=hcell 1 _ rfl
   have q2:=hcell 2 _ rfl
   have q3:=hcell 3 _ rfl
   simp only[Nat.add_zero]at q0
   have HST:=Hq (flat_next Rc.txnB ts hlt)
   have HLN:=Hq (flat_txn (ts.take k))
   rw[List.length_take]at HLN
   generalize ts[k]=x at q0 q1 q2 q3 HST
   obtain⟨xt,xl,xn,xd⟩:=x
   dsimp only at q0 q1 q2 q3
   clear hcell
   go_upto_region 6 with((with_reducible refine sN #[xt,xl,xn,xd] ?_))
   have HX:=Hq (heap_alloc_new wr (.cells #[xt,xl,xn,xd] 59))
   have HB3:=Hq (HBW.out.below (allocB wr (.cells #[xt,xl,xn,xd] 59)))
   have HK3:=Hq (HKW.out.trans (KeptW.of_below (allocB wr (.cells #[xt,xl,xn,xd] 59))))
   have hgb:wr.heap.size≠b:=by have:=bldw_size HBW.out;omega
   obtain⟨xa,hxa⟩:=ex wr.heap.size
   obtain⟨v3,hv3⟩:=ex (wr.alloc (.cells #[xt,xl,xn,xd] 59))
   rw[← hv3]at HX HB3 HK3 ⊢
   rw[← hxa]at HX hgb ⊢
   clear q0 q1 q2 q3 hv3 hxa HBW HKW hgl
   have hX:=blkCell HX.out
   go_upto_region 7 with((go_at_call 255;refine(bput3 HB3.out 6 (by omega) xt xl xn (by have:=HZ.out;have:=HLN.out;rw[List.length_append];omega)).mono ?_;rintro e v4 ⟨rfl,hw,hk⟩))
   have HB4:=Hq hw
   have HK4:=Hq (HK3.out.trans hk)
   have HX4:=Hq (hk.at_ HX.out hgb (by decide))
   clear hX HB3 HK3 HX hw hk
   have hX4:=blkCell HX4.out
   cases xd with
   |true=>
    go_wp2_with ((go_at_call 255;refine(bput1 HB4.out 1 (by omega) 1 (by have:=HZ.out;have:=HLN.out;simp only[List.length_append,p_size];omega)).mono ?_;rintro e v5 ⟨rfl,hw,hk⟩))
    go_roundw
    case rel=>exact⟨k+1,by omega,by go_num,by rw[HST.out];simpa[Rc.txnB,List.append_assoc]using hw,HK4.out.trans hk⟩
    case measure=>simp[intOf];omega
   |false=>
    go_wp2_with ((go_at_call 255;refine(bput1 HB4.out 1 (by omega) 0 (by have:=HZ.out;have:=HLN.out;simp only[List.length_append,p_size];omega)).mono ?_;rintro e v5 ⟨rfl,hw,hk⟩))
    go_roundw
    case rel=>exact⟨k+1,by omega,by go_num,by rw[HST.out];simpa[Rc.txnB,List.append_assoc]using hw,HK4.out.trans hk⟩
    case measure=>simp[intOf];omega
  ·obtain rfl:k=ts.length:=by omega
   obtain⟨v6,rfl⟩:=ex wr
   rw[List.take_length,← HL3.out]at HBW
   have HK6:=Hq (HK2.out.trans HKW.out)
   have HR6:=Hq (HKW.out.at_ HR2.out hab (by decide))
   have hR6:=blkCell HR6.out
   go_upto_region 13 with((go_at_call 255;refine(bput1 HBW.out 2 (by omega) ds.length (by have:=HZ.out;omega)).mono ?_;rintro e v7 ⟨rfl,hw,hk⟩))
   rw[← HL4.out]at hw
   have HB7:=Hq hw
   have HK7:=Hq (HK6.out.trans hk)
   have HR7:=Hq (hk.at_ HR6.out hab (by decide))
   clear hR6 HBW HKW HK6 HR6 HB2 HK2 HR2 hw hk
   have hR7:=blkCell HR7.out
   go_wp2_with fail
   clear hR7
   go_loopw [52] (fun i wr=>∃ k:Nat,k≤ds.length∧i= .int .i64 k∧BldW (b+1) b (L4++(ds.take k).flatMap Rc.dirtyB) wr∧KeptW (b+1) b v7 wr) (fun i _=>ds.length-(intOf i).toNat)
   case atStart=>exact⟨0,Nat.zero_le _,rfl,by simpa using HB7.out,KeptW.refl _ _ _⟩
   case round=>
    obtain⟨k,hk,rfl,hbw,hkw⟩:=hrel
    have HBW:=Hq hbw
    have HKW:=Hq hkw
    clear hbw hkw
    by_cases hlt:k<ds.length
    ·obtain⟨g,off,rfl,hc,hgl,hcell⟩:=read_at diC_len (HD.out wr (HK7.out.trans HKW.out)) hlt
     have q0:=hcell 0 _ rfl
     have q1:=hcell 1 _ rfl
     simp only[Nat.add_zero]at q0
     have HST:=Hq (flat_next Rc.dirtyB ds hlt)
     have HLN:=Hq (flat_dirty (ds.take k))
     rw[List.length_take]at HLN
     generalize ds[k]=x at q0 q1 HST
     obtain⟨xp,xf⟩:=x
     dsimp only at q0 q1
     clear hcell
     go_upto_region 16 with((with_reducible refine sN #[xp,xf] ?_))
     have HX:=Hq (heap_alloc_new wr (.cells #[xp,xf] 138))
     have HB3:=Hq (HBW.out.below (allocB wr (.cells #[xp,xf] 138)))
     have HK3:=Hq (HKW.out.trans (KeptW.of_below (allocB wr (.cells #[xp,xf] 138))))
     have hgb:wr.heap.size≠b:=by have:=bldw_size HBW.out;omega
     obtain⟨xa,hxa⟩:=ex wr.heap.size
     obtain⟨v3,hv3⟩:=ex (wr.alloc (.cells #[xp,xf] 138))
     rw[← hv3]at HX HB3 HK3 ⊢
     rw[← hxa]at HX hgb ⊢
     clear q0 q1 hv3 hxa HBW HKW hgl
     have hX:=blkCell HX.out
     go_upto_region 17 with((go_at_call 255;refine(bput1 HB3.out 3 (by omega) xp (by have:=HZ.out;have:=HLN.out;rw[List.length_append];omega)).mono ?_;rintro e v4 ⟨rfl,hw,hk⟩))
     have HB4:=Hq hw
     have HK4:=Hq (HK3.out.trans hk)
     have HX4:=Hq (hk.at_ HX.out hgb (by decide))
     clear hX HB3 HK3 HX hw hk
     have hX4:=blkCell HX4.out
     go_wp2_with ((go_at_call 255;refine(bput1 HB4.out 6 (by omega) xf (by have:=HZ.out;have:=HLN.out;simp only[List.length_append,p_size];omega)).mono ?_;rintro e v5 ⟨rfl,hw,hk⟩))
     go_roundw
     case rel=>exact⟨k+1,by omega,by go_num,by rw[HST.out];simpa[Rc.dirtyB,List.append_assoc]using hw,HK4.out.trans hk⟩
     case measure=>simp[intOf];omega
    ·obtain rfl:k=ds.length:=by omega
     rw[List.take_length,← HFIN.out]at HBW
     have HK9:=Hq (HK7.out.trans HKW.out)
     go_wp2_with fail
     first|go_end0|go_ret
     exact⟨rfl,HBW.out,HK9.out⟩
end Go.Proofs.YtmfkhdhnbkambaaGreatDoor
namespace Rc
theorem right_sizes {r:Rec}(h:Right r):r.op.old.size≤65535∧r.op.new.size≤65535∧r.e.key.size≤65535∧r.txns.length≤1048576∧r.dirty.length≤1048576∧1≤r.kind∧r.kind≤9:=by
 have no1:noOp.old.size=0:=rfl
 have no2:noOp.new.size=0:=rfl
 have no3:noKey.key.size=0:=rfl
 cases h with
 |small kind lsn prev txn hk h1 h2 h3=>
  unfold bare
  refine⟨by show noOp.old.size≤_;omega,by show noOp.new.size≤_;omega,by show noKey.key.size≤_;omega,by simp,by simp,?_,?_⟩<;>simp only<;>omega
 |change lsn prev txn page op how root e h1 h2 h3 h4 h5 h6=>
  obtain⟨_,_,_,o1,o2⟩:=h5
  have h7:e.key.size≤65535:=by
   rcases h6 with⟨_,_,h8⟩|⟨_,_,_,_,h8⟩
   ·simp only at h8;rw[h8];omega
   ·simp only at h8;omega
  exact⟨by simp only;omega,by simp only;omega,h7,by simp,by simp,by simp only;omega,by simp only;omega⟩
 |clr lsn prev txn page op next h1 h2 h3 h4 h5 h6=>
  obtain⟨_,_,_,o1,o2⟩:=h5
  exact⟨by simp only;omega,by simp only;omega,by show noKey.key.size≤_;omega,by simp,by simp,by simp only;omega,by simp only;omega⟩
 |nest lsn prev txn next h1 h2 h3 h6=>
  exact⟨by show noOp.old.size≤_;omega,by show noOp.new.size≤_;omega,by show noKey.key.size≤_;omega,by simp,by simp,by simp only;omega,by simp only;omega⟩
 |image lsn prev txn page op h1 h2 h3 h4 h5=>
  obtain⟨_,_,_,o1,o2⟩:=h5
  exact⟨by simp only;omega,by simp only;omega,by show noKey.key.size≤_;omega,by simp,by simp,by simp only;omega,by simp only;omega⟩
 |check lsn prev txn n ts ds h1 h2 h3 h4 h5=>
  obtain⟨l1,l2,_,_⟩:=h5
  simp only at l1 l2
  exact⟨by show noOp.old.size≤_;omega,by show noOp.new.size≤_;omega,by show noKey.key.size≤_;omega,by simp only;omega,by simp only;omega,by simp only;omega,by simp only;omega⟩
end Rc
namespace Go.Proofs.YtmfkhdhnbkambaaGreatDoor
open Go.RowKit
theorem Wr.old {w u v:World}{a f b:Nat}{R F:Array Value}{l:List UInt8}(h:Wr w a f b R F l u)(hk:KeptW (b+1) b u v):Below w.heap.size w v:=
 h.below.trans (hk.below (by have:=h.ab;have:=h.low;omega) (by have:=h.ab;have:=h.low;omega) h.below.size)
theorem body_check (lsn prev txn page next nu ok os how root ep es:Int)(oo on ek:ByteArray)(ts:List Rc.TxnAt)(ds:List Rc.DirtyAt)(A D:Option Addr)(c d:Nat)(ht:ts.length≤1048576)(hd:ds.length≤1048576)(w:World)(hT:TxR w A c ts)(hD:DiR w D d ds):
 Calls Tryz.prog 207 #[.agg (rcA lsn prev txn 9 page next nu ok os oo on how root ek ep es (.slice A ts.length c) (.slice D ds.length d))] w fun e w'=>e= .returned (.string ⟨(Rc.bodyB ⟨lsn,prev,txn,9,page,next,nu,⟨ok,os,oo,on⟩,how,root,⟨ek,ep,es⟩,ts,ds⟩).toArray⟩)∧Below w.heap.size w w':=by
 have HOF:=Hq (fun W=>of_any 9 W)
 rw[show ofV 9= .tuple #[formV false false false true true,true]from rfl]at HOF
 have HBB:=Hq (show Rc.bodyB ⟨lsn,prev,txn,9,page,next,nu,⟨ok,os,oo,on⟩,how,root,⟨ek,ep,es⟩,ts,ds⟩=Rc.headB ⟨lsn,prev,txn,9,page,next,nu,⟨ok,os,oo,on⟩,how,root,⟨ek,ep,es⟩,ts,ds⟩++Rc.restB ⟨lsn,prev,txn,9,page,next,nu,⟨ok,os,oo,on⟩,how,root,⟨ek,ep,es⟩,ts,ds⟩from rfl)
 rw[Rc.restB_9 rfl]at HBB
 have HT:=Hq hT
 have HD:=Hq hD
 clear hT hD
 generalize Rc.bodyB ⟨lsn,prev,txn,9,page,next,nu,⟨ok,os,oo,on⟩,how,root,⟨ek,ep,es⟩,ts,ds⟩=bb at HBB ⊢
 go_enter Tryz.func207,Tryz.ntmps207
 go_upto_region 3 with((go_at_call 245;(with_reducible refine(HOF.out _).mono ?_);rintro e w1 ⟨rfl,hb1⟩))
 have H0:=Hq (wr_new (R:=(rcA lsn prev txn 9 page next nu ok os oo on how root ek ep es (.slice A ts.length c) (.slice D ds.length d))) (F:=#[false,false,false,true,true]) hb1)
 obtain⟨V,hV⟩:=ex ((w1.alloc (.cells #[false,false,false,true,true] 228)).alloc (.cells #[.pointer none,"s"] 237))
 rw[← hV]at H0 ⊢
 clear hV
 have hR0:=blkCell H0.out.br
 have hF0:=blkCell H0.out.bf
 clear hb1 HOF
 go_upto_region 4 with((go_at_call 255;refine(H0.out.put1 1 (by omega) 9 (by simp only[List.length_nil];omega)).mono ?_;rintro e v1 ⟨rfl,hx⟩;have H1:=Hq hx;clear hx;have hR1:=blkCell H1.out.br;have hF1:=blkCell H1.out.bf))
 clear hR0 hF0 H0
 go_upto_region 19 with((go_at_call 255;refine(H1.out.put3 6 (by omega) lsn prev txn (by simp only[List.length_append,p_size,List.length_nil];omega)).mono ?_;rintro e v2 ⟨rfl,hx⟩;have H2:=Hq hx;clear hx;have hR2:=blkCell H2.out.br;have hF2:=blkCell H2.out.bf))
 clear hR1 hF1 H1
 have HLS:=Hq (lists_any _ _ lsn prev txn 9 page next nu ok os how root ep es oo on ek ts ds A D c d v2 H2.out.wr (fun v hk=>HT.out.below (H2.out.old hk)) (fun v hk=>HD.out.below (H2.out.old hk)) (by simp only[List.length_append,p_size,List.length_nil];omega) ht hd)
 go_upto_region 20 with(first
  |(with_reducible refine lL H2.out.br Tryz.underlying49 ?_)
  |(go_at_call 257;(with_reducible refine HLS.out.mono ?_);rintro e v3 ⟨rfl,hw,hk⟩;have H3:=Hq (H2.out.turn hw hk);clear hw hk))
 clear hR2 hF2 H2 HLS
 go_wp2_with ((go_at_call 176;refine(H3.out.done (by intro h;have:=congrArg List.length h;simp only[List.length_append,p_size,List.length_nil]at this;omega)).mono ?_;rintro e w9 ⟨rfl,hb9⟩))
 go_ret
 refine⟨?_,hb9⟩
 rw[HBB.out]
 simp[Rc.headB,Rc.listsB,List.append_assoc]
theorem body_any (x:Rc.Rec)(hx:Rc.Right x)(A D:Option Addr)(c d:Nat)(w:World)(hr:RecR w x A c D d):
 Calls Tryz.prog 207 #[recV x (.slice A x.txns.length c) (.slice D x.dirty.length d)] w fun e w'=>e= .returned (.string ⟨(Rc.bodyB x).toArray⟩)∧Below w.heap.size w w':=by
 obtain⟨z1,z2,z3,z4,z5,k1,k9⟩:=Rc.right_sizes hx
 obtain⟨lsn,prev,txn,kind,page,next,nu,⟨ok,os,oo,on⟩,how,root,⟨ek,ep,es⟩,ts,ds⟩:=x
 simp only at z1 z2 z3 z4 z5 k1 k9
 have h9:kind=2∨kind=3∨kind=4∨kind=8∨kind=9∨kind=1∨kind=5∨kind=6∨kind=7:=by omega
 rcases h9 with rfl|rfl|rfl|rfl|rfl|h9
 ·exact body_change lsn prev txn page next nu ok os how root ep es oo on ek ts ds _ _ z1 z2 z3 w
 ·exact body_clr lsn prev txn page next nu ok os how root ep es oo on ek ts ds _ _ z1 z2 z3 w
 ·exact body_nest lsn prev txn page next nu ok os how root ep es oo on ek ts ds _ _ z1 z2 z3 w
 ·exact body_image lsn prev txn page next nu ok os how root ep es oo on ek ts ds _ _ z1 z2 z3 w
 ·exact body_check lsn prev txn page next nu ok os how root ep es oo on ek ts ds A D c d z4 z5 w hr.txns hr.dirty
 ·exact body_bare kind h9 lsn prev txn page next nu ok os how root ep es oo on ek ts ds _ _ z1 z2 z3 w
end Go.Proofs.YtmfkhdhnbkambaaGreatDoor
