import Derived.Test.YtilakddepaplhaaGreatHb00
import Derived.Test.YtilakddepaplhaaGreatHb05
import Derived.Test.YtilakddepaplhaaGreatHb01
import Derived.Test.YtilakddepaplhaaGreatHb07
import Derived.Lib.ConvBytes
import Derived.Lib.AppendStr
import Derived.Lib.FrozenHead
import Derived.Deep.MidRow
import Derived.Lib.LazyBuf
import Derived.Test.YtilakddepaplhaaGreatHb04
set_option maxRecDepth 100000
set_option maxHeartbeats 16000000
set_option linter.unusedSimpArgs false
namespace Go.Proofs.YtilakddepaplhaaGreat
open Go.RowKit
theorem rsmall_any (n b:Int)(w:World):
 Calls Tryz.prog 197 #[n,b] w fun e w'=>e= .returned (.bool (decide (0≤n∧n<b)))∧Below w.heap.size w w':=by
 by_cases h0:0≤n
 ·by_cases h1:n<b
  ·rw[decide_eq_true (And.intro h0 h1)]
   go_enter Tryz.func197,Tryz.ntmps197
   go_wp2_with fail
   go_ret
   exact⟨by simp,Below.refl _ _⟩
  ·rw[decide_eq_false (fun h:0≤n∧n<b=>h1 h.2)]
   go_enter Tryz.func197,Tryz.ntmps197
   go_wp2_with fail
   go_ret
   exact⟨by simp,Below.refl _ _⟩
 ·rw[decide_eq_false (fun h:0≤n∧n<b=>h0 h.1)]
  go_enter Tryz.func197,Tryz.ntmps197
  go_wp2_with fail
  go_ret
  exact⟨by simp,Below.refl _ _⟩
theorem rnumber_any (n:Int)(w:World):
 Calls Tryz.prog 166 #[n] w fun e w'=>e= .returned (.bool (decide (Rc.num n)))∧Below w.heap.size w w':=by
 have HC:=Hq (fun W=>by(have h:=rsmall_any n 1099511627776 W);rw[show decide (0≤n∧n<1099511627776)=decide (Rc.num n)from decide_eq_decide.2 Iff.rfl]at h;exact h)
 go_enter Tryz.func166,Tryz.ntmps166
 go_wp2_with (go_at_call 197;(with_reducible refine(HC.out _).mono ?_);rintro e w2 ⟨rfl,hb2⟩)
 go_ret
 exact⟨rfl,hb2⟩
theorem rpage_any (n:Int)(w:World):
 Calls Tryz.prog 170 #[n] w fun e w'=>e= .returned (.bool (decide (Rc.pg n)))∧Below w.heap.size w w':=by
 have HC:=Hq (fun W=>by(have h:=rsmall_any n 8388608 W);rw[show decide (0≤n∧n<8388608)=decide (Rc.pg n)from decide_eq_decide.2 Iff.rfl]at h;exact h)
 go_enter Tryz.func170,Tryz.ntmps170
 go_wp2_with (go_at_call 197;(with_reducible refine(HC.out _).mono ?_);rintro e w2 ⟨rfl,hb2⟩)
 go_ret
 exact⟨rfl,hb2⟩
theorem rslot_any (n:Int)(w:World):
 Calls Tryz.prog 199 #[n] w fun e w'=>e= .returned (.bool (decide (Rc.sl n)))∧Below w.heap.size w w':=by
 have HC:=Hq (fun W=>by(have h:=rsmall_any n 32768 W);rw[show decide (0≤n∧n<32768)=decide (Rc.sl n)from decide_eq_decide.2 Iff.rfl]at h;exact h)
 go_enter Tryz.func199,Tryz.ntmps199
 go_wp2_with (go_at_call 197;(with_reducible refine(HC.out _).mono ?_);rintro e w2 ⟨rfl,hb2⟩)
 go_ret
 exact⟨rfl,hb2⟩
theorem rop_any (o:Rc.Op)(w:World):
 Calls Tryz.prog 171 #[opV o] w fun e w'=>e= .returned (.bool (decide (Rc.opR o)))∧Below w.heap.size w w':=by
 obtain⟨k,s,o,n⟩:=o
 by_cases h0:1≤k
 rotate_left
 ·have g0:k<1:=by omega
  clear h0
  rw[show decide (Rc.opR ⟨k,s,o,n⟩)=false from decide_eq_false (fun h=>by obtain⟨h1,h2,h3,h4,h5⟩:=h;simp only at h1 h2 h3 h4 h5;omega)]
  go_enter Tryz.func171,Tryz.ntmps171
  go_wp2_with fail
  go_ret
  exact⟨by simp[*],allocB _ _⟩
 by_cases h1:k≤7
 rotate_left
 ·have g1:7<k:=by omega
  clear h1
  rw[show decide (Rc.opR ⟨k,s,o,n⟩)=false from decide_eq_false (fun h=>by obtain⟨h1,h2,h3,h4,h5⟩:=h;simp only at h1 h2 h3 h4 h5;omega)]
  go_enter Tryz.func171,Tryz.ntmps171
  go_wp2_with fail
  go_ret
  exact⟨by simp[*],allocB _ _⟩
 cases hs:decide (Rc.sl s)with
 |false=>
  rw[show decide (Rc.opR ⟨k,s,o,n⟩)=false from decide_eq_false (fun h=>by obtain⟨h1,h2,h3,h4,h5⟩:=h;simp only at h1 h2 h3 h4 h5;exact of_decide_eq_false hs h3)]
  have hS:=Hq hs
  clear hs
  go_enter Tryz.func171,Tryz.ntmps171
  go_wp2_with (first|(go_at_call 199;(with_reducible refine(rslot_any s _).mono ?_);rintro e w2 ⟨rfl,hb2⟩;rw[hS.out];have hx:=blkOld (heap_alloc_new w _) hb2;have h22:=blkCell hx 2;have h33:=blkCell hx 3;clear hx;simp at h22 h33))
  go_ret
  exact⟨by simp[*],joinB (allocB _ _) hb2⟩
 |true=>
 have hS:=Hq hs
 have hS2:=Hq (of_decide_eq_true hs)
 clear hs
 by_cases h3:(o.size:Int)≤512
 rotate_left
 ·have g3:512<(o.size:Int):=by omega
  clear h3
  rw[show decide (Rc.opR ⟨k,s,o,n⟩)=false from decide_eq_false (fun h=>by obtain⟨h1,h2,h3,h4,h5⟩:=h;simp only at h1 h2 h3 h4 h5;omega)]
  go_enter Tryz.func171,Tryz.ntmps171
  go_wp2_with (first|(go_at_call 199;(with_reducible refine(rslot_any s _).mono ?_);rintro e w2 ⟨rfl,hb2⟩;rw[hS.out];have hx:=blkOld (heap_alloc_new w _) hb2;have h22:=blkCell hx 2;have h33:=blkCell hx 3;clear hx;simp at h22 h33))
  go_ret
  exact⟨by simp[*],joinB (allocB _ _) hb2⟩
 by_cases h4:(n.size:Int)≤512
 rotate_left
 ·have g4:512<(n.size:Int):=by omega
  clear h4
  rw[show decide (Rc.opR ⟨k,s,o,n⟩)=false from decide_eq_false (fun h=>by obtain⟨h1,h2,h3,h4,h5⟩:=h;simp only at h1 h2 h3 h4 h5;omega)]
  go_enter Tryz.func171,Tryz.ntmps171
  go_wp2_with (first|(go_at_call 199;(with_reducible refine(rslot_any s _).mono ?_);rintro e w2 ⟨rfl,hb2⟩;rw[hS.out];have hx:=blkOld (heap_alloc_new w _) hb2;have h22:=blkCell hx 2;have h33:=blkCell hx 3;clear hx;simp at h22 h33))
  go_ret
  exact⟨by simp[*],joinB (allocB _ _) hb2⟩
 rw[show decide (Rc.opR ⟨k,s,o,n⟩)=true from decide_eq_true ⟨by assumption,by assumption,hS2.out,by show o.size≤512;omega,by show n.size≤512;omega⟩]
 go_enter Tryz.func171,Tryz.ntmps171
 go_wp2_with (first|(go_at_call 199;(with_reducible refine(rslot_any s _).mono ?_);rintro e w2 ⟨rfl,hb2⟩;rw[hS.out];have hx:=blkOld (heap_alloc_new w _) hb2;have h22:=blkCell hx 2;have h33:=blkCell hx 3;clear hx;simp at h22 h33))
 go_ret
 exact⟨by simp[*],joinB (allocB _ _) hb2⟩
theorem rentry_any (e0:Rc.Key)(w:World):
 Calls Tryz.prog 198 #[keyV e0] w fun e w'=>e= .returned (.bool (decide (e0.key.size≤100∧Rc.pg e0.page∧Rc.sl e0.slot)))∧Below w.heap.size w w':=by
 obtain⟨k,p,s⟩:=e0
 dsimp only
 by_cases h0:(k.size:Int)≤100
 ·have h0n:k.size≤100:=by omega
  have HP:=Hq (fun W=>rpage_any p W)
  have HS:=Hq (fun W=>rslot_any s W)
  by_cases hp:Rc.pg p
  ·rw[decide_eq_true hp]at HP
   by_cases hs:Rc.sl s
   ·rw[decide_eq_true hs]at HS
    rw[decide_eq_true (show k.size≤100∧Rc.pg p∧Rc.sl s from⟨h0n,hp,hs⟩)]
    clear hp hs
    go_enter Tryz.func198,Tryz.ntmps198
    go_wp2_with (first
     |(go_at_call 170;(with_reducible refine(HP.out _).mono ?_);rintro e w2 ⟨rfl,hb2⟩;have hx:=blkCell (blkOld (heap_alloc_new w _) hb2))
     |(go_at_call 199;(with_reducible refine(HS.out _).mono ?_);rintro e w3 ⟨rfl,hb3⟩))
    go_ret
    exact⟨rfl,joinB (joinB (allocB _ _) hb2) hb3⟩
   ·rw[decide_eq_false hs]at HS
    rw[decide_eq_false (show ¬ (k.size≤100∧Rc.pg p∧Rc.sl s)from fun h=>hs h.2.2)]
    clear hp hs
    go_enter Tryz.func198,Tryz.ntmps198
    go_wp2_with (first
     |(go_at_call 170;(with_reducible refine(HP.out _).mono ?_);rintro e w2 ⟨rfl,hb2⟩;have hx:=blkCell (blkOld (heap_alloc_new w _) hb2))
     |(go_at_call 199;(with_reducible refine(HS.out _).mono ?_);rintro e w3 ⟨rfl,hb3⟩))
    go_ret
    exact⟨rfl,joinB (joinB (allocB _ _) hb2) hb3⟩
  ·rw[decide_eq_false hp]at HP
   rw[decide_eq_false (show ¬ (k.size≤100∧Rc.pg p∧Rc.sl s)from fun h=>hp h.2.1)]
   clear hp
   go_enter Tryz.func198,Tryz.ntmps198
   go_wp2_with (go_at_call 170;(with_reducible refine(HP.out _).mono ?_);rintro e w2 ⟨rfl,hb2⟩)
   go_ret
   exact⟨rfl,joinB (allocB _ _) hb2⟩
 ·have h0n:100<(k.size:Int):=by omega
  rw[decide_eq_false (show ¬ (k.size≤100∧Rc.pg p∧Rc.sl s)from fun h=>by have:=h.1;omega)]
  go_enter Tryz.func198,Tryz.ntmps198
  go_wp2_with fail
  go_ret
  exact⟨by simp,allocB _ _⟩
end Go.Proofs.YtilakddepaplhaaGreat
namespace Rc
def tB (s:ByteArray):ByteArray:=⟨(t s).toArray⟩
theorem tB_size (s:ByteArray):(tB s).size=2+s.size:=by
 unfold tB
 show(t s).toArray.size=_
 rw[List.size_toArray]
 unfold t
 rw[List.length_append,p_length];simp
theorem tB_eq (s:ByteArray)(_h:s.size≤65535):Oct.putB s.size 2++s=tB s:=by
 apply ByteArray.ext
 rw[ByteArray.data_append]
 apply Array.toList_inj.1
 rw[Array.toList_append,show Oct.putB (s.size:Int) 2=Oct.putB (s.size:Int) ((2:Nat):Int)from rfl,Oct.putB_list _ _ (by omega)]
 unfold tB t p
 rfl
end Rc
namespace Go.Proofs.YtilakddepaplhaaGreat
open Go.RowKit
theorem rputtext_any (s:ByteArray)(hs:s.size≤65535)(w:World):
 Calls Tryz.prog 174 #[s] w fun e w'=>e= .returned (.string (Rc.tB s))∧Below w.heap.size w w':=by
 have HP:=Hq (fun W=>rput_any (s.size:Int) 2 (by omega) (by omega) W)
 have HE:=Hq (Rc.tB_eq s hs)
 have hz:(Oct.putB (s.size:Int) ((2:Nat):Int)).size=2:=Oct.putB_size _ 2 (by omega)
 have hz2:(Oct.putB (s.size:Int) 2).size=2:=hz
 have h1:¬ (65535:Int)<(s.size:Int):=by omega
 have hadd:∀ W:World,(Op.stringOp .add (Oct.putB (s.size:Int) 2) s).run Tryz.prog W= .ok (.string (Rc.tB s)) W:=fun W=>by
  rw[← HE.out];exact run_string_add_sum W _ _ (by rw[hz2];omega)
 go_enter Tryz.func174,Tryz.ntmps174
 go_wp2_with (go_at_call 111;(with_reducible refine(HP.out _).mono ?_);rintro e w2 ⟨rfl,hb2⟩)
 go_ret
 exact⟨rfl,hb2⟩
theorem ropb_any (o:Rc.Op)(h1:o.old.size≤65535)(h2:o.new.size≤65535)(w:World):
 Calls Tryz.prog 173 #[opV o] w fun e w'=>e= .returned (.string ⟨(Rc.opB o).toArray⟩)∧Below w.heap.size w w':=by
 obtain⟨k,sl,oo,on⟩:=o
 dsimp only at h1 h2 ⊢
 have HP1:=Hq (fun W=>rput_any k 1 (by omega) (by omega) W)
 have HP2:=Hq (fun W=>rput_any sl 2 (by omega) (by omega) W)
 have HT1:=Hq (fun W=>rputtext_any oo h1 W)
 have HT2:=Hq (fun W=>rputtext_any on h2 W)
 have z1:(Oct.putB k ((1:Nat):Int)).size=1:=Oct.putB_size _ 1 (by omega)
 have z2:(Oct.putB sl ((2:Nat):Int)).size=2:=Oct.putB_size _ 2 (by omega)
 have z3:=Rc.tB_size oo
 have z4:=Rc.tB_size on
 have HE:=Hq (show Oct.putB k 1++Oct.putB sl 2++Rc.tB oo++Rc.tB on=⟨(Rc.opB ⟨k,sl,oo,on⟩).toArray⟩from by
  apply ByteArray.ext
  rw[ByteArray.data_append,ByteArray.data_append,ByteArray.data_append]
  apply Array.toList_inj.1
  rw[Array.toList_append,Array.toList_append,Array.toList_append,show Oct.putB k 1=Oct.putB k ((1:Nat):Int)from rfl,show Oct.putB sl 2=Oct.putB sl ((2:Nat):Int)from rfl,Oct.putB_list _ 1 (by omega),Oct.putB_list _ 2 (by omega)]
  unfold Rc.opB Rc.tB Rc.p
  simp only[List.append_assoc])
 rw[← HE.out]
 clear HE
 have y1:(Oct.putB k 1).size=1:=z1
 have y2:(Oct.putB sl 2).size=2:=z2
 clear z1 z2
 generalize Oct.putB k 1=B1 at HP1 y1 ⊢
 generalize Oct.putB sl 2=B2 at HP2 y2 ⊢
 generalize Rc.tB oo=B3 at HT1 z3 ⊢
 generalize Rc.tB on=B4 at HT2 z4 ⊢
 have a1:∀ W:World,(Op.stringOp .add B1 B2).run Tryz.prog W= .ok (.string (B1++B2)) W:=fun W=>run_string_add_sum W _ _ (by omega)
 have y3:(B1++B2).size=3:=by rw[ByteArray.size_append];omega
 generalize B1++B2=C1 at a1 y3 ⊢
 have a2:∀ W:World,(Op.stringOp .add C1 B3).run Tryz.prog W= .ok (.string (C1++B3)) W:=fun W=>run_string_add_sum W _ _ (by omega)
 have y4:(C1++B3).size=3+B3.size:=by rw[ByteArray.size_append];omega
 generalize C1++B3=C2 at a2 y4 ⊢
 have a3:∀ W:World,(Op.stringOp .add C2 B4).run Tryz.prog W= .ok (.string (C2++B4)) W:=fun W=>run_string_add_sum W _ _ (by omega)
 generalize C2++B4=C3 at a3 ⊢
 clear y1 y2 y3 y4 z3 z4 h1 h2
 have HX:=Hq (heap_alloc_new w (.cells #[k,sl,oo,on] 48))
 have HB:=Hq (allocB w (.cells #[k,sl,oo,on] 48))
 go_enter Tryz.func173,Tryz.ntmps173
 go_upto_region 1 with fail
 obtain⟨g,hg⟩:=ex w.heap.size
 obtain⟨W0,hW0⟩:=ex (w.alloc (.cells #[k,sl,oo,on] 48))
 rw[← hg,← hW0]at HX
 rw[← hW0]at HB
 rw[← hg,← hW0]
 clear hg hW0
 have X0:=blkOld HX.out (Below.refl _ W0).drew
 have B0:=joinB HB.out (Below.refl _ W0).drew
 refine rgH (S:=(fun u=>u.heap[g]? =some (.cells #[k,sl,oo,on] 48 (0,0)))) (fun hHeld=>?_)
 refine tkP 0 ?_;refine tkP 1 ?_;refine tkP 3 ?_;refine tkP 4 ?_;refine tkP 7 ?_;refine tkP 8 ?_;refine tkP 11 ?_;refine tkP 12 ?_
 refine rdP 2 fun K hK=>?_
 go_simp
 refine(HP1.out _).mono ?_;rintro e v1 ⟨rfl,hb⟩;have X1:=blkOld X0 hb;have B1:=joinB B0 hb;try clear hSn
 have hSn:=X1
 clear hb
 refine hKo hK (fun hHeld=>?_)
 clear hK K
 refine rdP 5 fun K hK=>?_
 go_simp
 refine(HP2.out _).mono ?_;rintro e v2 ⟨rfl,hb⟩;have X2:=blkOld X1 hb;have B2:=joinB B1 hb;try clear hSn
 have hSn:=X2
 clear hb
 refine hKo hK (fun hHeld=>?_)
 clear hK K
 refine tkP 6 ?_
 refine rdP 9 fun K hK=>?_
 go_simp
 refine(HT1.out _).mono ?_;rintro e v3 ⟨rfl,hb⟩;have X3:=blkOld X2 hb;have B3:=joinB B2 hb;try clear hSn
 have hSn:=X3
 clear hb
 refine hKo hK (fun hHeld=>?_)
 clear hK K
 refine tkP 10 ?_
 refine rdP 13 fun K hK=>?_
 go_simp
 refine(HT2.out _).mono ?_;rintro e v4 ⟨rfl,hb⟩;have X4:=blkOld X3 hb;have B4:=joinB B3 hb;try clear hSn
 have hSn:=X4
 clear hb
 refine hKo hK (fun hHeld=>?_)
 clear hK K
 refine tkP 14 ?_;refine tkP 15 ?_
 refine wpAnyH_done Kr ?_ _
 clear hHeld hSn
 go_wp2_with fail
 go_ret
 exact⟨rfl,B4⟩
end Go.Proofs.YtilakddepaplhaaGreat
namespace Rc
def mk (l:List UInt8):ByteArray:=⟨l.toArray⟩
theorem mk_size (l:List UInt8):(mk l).size=l.length:=by unfold mk;show l.toArray.size=_;simp
theorem mk_app (a b:List UInt8):mk a++mk b=mk (a++b):=by
 apply ByteArray.ext
 rw[ByteArray.data_append]
 unfold mk
 simp
theorem put_mk (n:Int)(k:Nat)(hk:k≤8):Oct.putB n (k:Int)=mk (p n k):=by
 apply ByteArray.ext
 apply Array.toList_inj.1
 rw[Oct.putB_list _ _ hk]
 rfl
end Rc
namespace Go.Proofs.YtilakddepaplhaaGreat
open Go.RowKit
theorem rput_mk (n:Int)(k:Nat)(hk:k≤8)(w:World):
 Calls Tryz.prog 111 #[n,.int .i64 (k:Int)] w fun e w'=>e= .returned (.string (Rc.mk (Rc.p n k)))∧Below w.heap.size w w':=by
 rw[← Rc.put_mk n k hk]
 exact rput_any n k (by omega) (by omega) w
theorem add_mk (a b:List UInt8)(h:a.length+b.length≤1000000)(W:World):(Op.stringOp .add (Rc.mk a) (Rc.mk b)).run Tryz.prog W= .ok (.string (Rc.mk (a++b))) W:=by
 rw[← Rc.mk_app]
 exact run_string_add_sum W _ _ (by rw[Rc.mk_size,Rc.mk_size];omega)
def OwnB (B:Nat)(w:World)(v:Value)(l:List UInt8):Prop:=
 ∃ g cap,v= .slice (some ⟨g,0,none⟩) l.length cap∧B≤g∧g<w.heap.size∧l.length≤cap∧cap≤maxLen∧
  (∀ j,j<cap→(w.cell? ⟨g,j,none⟩).isSome=true∧w.frozen? ⟨g,j,none⟩=false)∧∀ (j:Nat) (hj:j<l.length),w.cell? ⟨g,j,none⟩=some (.int .u8 (l[j].toNat:Int))
theorem OwnB.below {B:Nat}{w w':World}{v:Value}{l:List UInt8}(h:OwnB B w v l)(hb:Below w.heap.size w w'):OwnB B w' v l:=by
 obtain⟨g,cap,h1,h2,h3,h4,h5,h6,h7⟩:=h
 refine⟨g,cap,h1,h2,Nat.lt_of_lt_of_le h3 hb.size,h4,h5,fun j hj=>?_,fun j hj=>?_⟩
 ·rw[hb.cell (p:=⟨g,j,none⟩) h3,hb.frozen (p:=⟨g,j,none⟩) h3];exact h6 j hj
 ·rw[hb.cell (p:=⟨g,j,none⟩) h3];exact h7 j hj
theorem OwnB.mono {B B':Nat}{w:World}{v:Value}{l:List UInt8}(h:OwnB B w v l)(hb:B'≤B):OwnB B' w v l:=by
 obtain⟨g,cap,h1,h2,h3⟩:=h
 exact⟨g,cap,h1,Nat.le_trans hb h2,h3⟩
theorem ownB_conv (w:World)(s:ByteArray)(hs:s.size≤1000000):OwnB w.heap.size (Lib.bytesWorld w 5 s) (.slice (some ⟨w.heap.size,0,none⟩) s.size (grownCap w s.size 0 5)) s.data.toList:=by
 have hsz:s.data.toList.length=s.size:=by simp
 have hge:=grownCap_ge w s.size 0 5
 have hcm:=grownCap_le_maxLen w s.size 0 5 (by simp only[maxLen];omega)
 have hcs:(Lib.bytesCells w 5 s).size=grownCap w s.size 0 5:=by
  unfold Lib.bytesCells
  rw[Array.size_append,Array.size_map,Array.size_replicate]
  show s.size+_=_
  omega
 have hn:=Lib.bytesWorld_at_new w 5 s
 refine⟨w.heap.size,_,by rw[hsz],Nat.le_refl _,by rw[Lib.bytesWorld_size];omega,by rw[hsz];exact hge,hcm,fun j hj=>⟨?_,?_⟩,fun j hj=>?_⟩
 ·unfold World.cell?
  rw[hn]
  simp only
  rw[Array.getElem?_eq_getElem (by rw[hcs];exact hj)]
  rfl
 ·unfold World.frozen?
  rw[hn]
  simp only[Bool.and_eq_false_iff,decide_eq_false_iff_not]
  left
  rw[hcs];omega
 ·rw[Lib.bytesWorld_cell w 5 s j (by omega)]
  rw[List.getD_eq_getElem?_getD,List.getElem?_eq_getElem hj,Option.getD_some]
theorem run_appB {P:Program}{w:World}(t u ty e:TypeId)(i:TypeInfo)(ht:P.underlying t=some (.slice e))(hu:P.underlying u=some .string)(hi:P.info? e=some i)(hz:i.zero=some (.int .u8 0))(hsize:i.size=1)(hby:i.bytes=1)
 {B:Nat} {v:Value} {l:List UInt8} (h:OwnB B w v l) (s:ByteArray) (hlen:l.length+s.size≤140737488355328) (hB:B≤w.heap.size):
 ∃ v' w',(Builtin.append_ #[t,u] ty #[v,s]).run P w= .ok v' w'∧OwnB B w' v' (l++s.data.toList)∧Below B w w':=by
 obtain⟨g,cap,rfl,hBg,hg,hlc,hcm,hok,hread⟩:=h
 have hsl:s.data.toList.length=s.size:=by simp
 have hcl:(Lib.strCells s).length=s.size:=Lib.strCells_length s
 have hcell:∀ (j:Nat) (hj:j<s.size),(Lib.strCells s)[j]? =some (.int .u8 ((s.data.toList[j]'(by rw[hsl];exact hj)).toNat:Int)):=fun j hj=>by
  unfold Lib.strCells
  rw[List.getElem?_map,List.getElem?_eq_getElem (by rw[hsl];exact hj)]
  rfl
 by_cases hroom:l.length+s.size≤cap
 ·have hf:=Lib.run_firstCells_string (P:=P) w 1 s
  have hst:=run_storeCells_cells (P:=P) g l.length (Lib.strCells s) 0 w (fun j hj=>(hok _ (by omega)).1) (fun j hj=>(hok _ (by omega)).2) (Lib.strCells_oneCell s)
  simp only[Nat.add_zero]at hst
  refine⟨.slice (some ⟨g,0,none⟩) (l.length+s.size) cap,w.setCells g l.length (Lib.strCells s),?_,⟨g,cap,by rw[List.length_append,hsl],hBg,?_,by rw[List.length_append,hsl];exact hroom,hcm,fun j hj=>⟨?_,?_⟩,fun j hj=>?_⟩,?_⟩
  ·simp[Builtin.append_,run_underlying ht,run_underlying hu,sizeOf,typeInfo,hi,hsize,Builtin.lenOf,hroom,hf,Addr.add_lit,hst]
  ·exact Nat.lt_of_lt_of_le hg (below_setCells (B:=B) (a:=w) hBg _ _ _ (Below.refl _ _)).size
  ·exact World.isSome_setCells g _ _ _ _ (hok j hj).1
  ·rw[World.frozen?_setCells];exact(hok j hj).2
  ·rw[List.length_append,hsl]at hj
   by_cases hjl:j<l.length
   ·rw[World.cell?_setCells_out g _ _ _ _ (fun _ _=>.inl hjl),List.getElem_append_left hjl]
    exact hread j hjl
   ·obtain⟨m,rfl⟩:∃ m,j=l.length+m:=⟨j-l.length,by omega⟩
    have hm:m<s.size:=by omega
    rw[World.cell?_setCells_in g _ _ _ (fun k hk=>(hok _ (by omega)).1) m (by omega)]
    have h2:=hcell m hm
    rw[List.getElem?_eq_getElem (by omega)]at h2
    rw[List.getElem_append_right (by omega)]
    simpa using h2
  ·exact below_setCells (B:=B) (a:=w) hBg _ _ _ (Below.refl _ _)
 ·obtain⟨olds,ho⟩:=ex (Lib.byteCells l)
  have hol:olds.length=l.length:=by rw[ho];exact Lib.byteCells_length l
  have hr:=Lib.run_append_grow_string (P:=P) w t u ty e i (.int .u8 0) ht hu hi hz ⟨g,0,none⟩ l.length cap olds (by rw[hsize,hol,Nat.mul_one]) (fun j x hx=>by
   have hj:j<l.length:=by rw[← hol];exact(List.getElem?_eq_some_iff.1 hx).1
   have ha:(⟨g,0,none⟩:Addr).add j=⟨g,j,none⟩:=by rw[Addr.add_mid,Nat.zero_add]
   rw[ha,hread j hj]
   rw[ho]at hx
   unfold Lib.byteCells at hx
   rw[List.getElem?_map,List.getElem?_eq_getElem hj]at hx
   simpa using hx) s (by omega) (by omega) (by rw[hby];exact growslice_fits (by omega) (by omega))
  have hge:=grownCap_ge w (l.length+s.size) cap e
  have hcm2:=grownCap_le_maxLen w (l.length+s.size) cap e (by simp only[maxLen];omega)
  have hzc:(Builtin.zeroCells (Value.int IntKind.u8 0).cells (grownCap w (l.length+s.size) cap e-(l.length+s.size))).size=grownCap w (l.length+s.size) cap e-(l.length+s.size):=by
   rw[size_zeroCells];show _*1=_;omega
  have hnew:=heap_alloc_new w.drew (.cells (olds.toArray++(Lib.strCells s).toArray++Builtin.zeroCells (Value.int IntKind.u8 0).cells (grownCap w (l.length+s.size) cap e-(l.length+s.size))) e)
  have hsize2:(olds.toArray++(Lib.strCells s).toArray++Builtin.zeroCells (Value.int IntKind.u8 0).cells (grownCap w (l.length+s.size) cap e-(l.length+s.size))).size=grownCap w (l.length+s.size) cap e:=by
   rw[Array.size_append,Array.size_append,hzc,List.size_toArray,List.size_toArray,hol,hcl];omega
  have hds:w.drew.heap.size=w.heap.size:=rfl
  rw[hds]at hnew
  refine⟨_,_,hr,⟨w.heap.size,_,by rw[List.length_append,hsl],hB,?_,by rw[List.length_append,hsl];exact hge,hcm2,fun j hj=>⟨?_,?_⟩,fun j hj=>?_⟩,?_⟩
  ·exact heapLt hnew
  ·rw[blkCell hnew,Array.getElem?_eq_getElem (by rw[hsize2];exact hj)];rfl
  ·exact blkFrozen hnew j
  ·rw[List.length_append,hsl]at hj
   rw[blkCell hnew]
   by_cases hjl:j<l.length
   ·rw[List.getElem_append_left hjl,Array.getElem?_append_left (by rw[Array.size_append,List.size_toArray,List.size_toArray,hol];omega),Array.getElem?_append_left (by rw[List.size_toArray,hol];exact hjl),List.getElem?_toArray,ho]
    unfold Lib.byteCells
    rw[List.getElem?_map,List.getElem?_eq_getElem hjl];rfl
   ·obtain⟨m,rfl⟩:∃ m,j=l.length+m:=⟨j-l.length,by omega⟩
    have hm:m<s.size:=by omega
    rw[Array.getElem?_append_left (by rw[Array.size_append,List.size_toArray,List.size_toArray,hol,hcl];omega),Array.getElem?_append_right (by rw[List.size_toArray,hol];omega),List.size_toArray,hol,List.getElem?_toArray,List.getElem_append_right (by omega)]
    have h2:=hcell m hm
    simp only[Nat.add_sub_cancel_left]
    rw[h2]
  ·exact((Below.refl B w).drew).alloc (by show B≤w.heap.size;exact hB) _
theorem wp_appB {P:Program}{o:Oper}{a:Act}{K:Act→World→Prop}{Q:Exit→Act→World→Prop}(w:World)(s x:Operand)(t u e:TypeId)
 (ht:P.underlying t=some (.slice e)) (hu:P.underlying u=some .string) (hi:(P.info? e).map (fun i=>(i.zero,i.size,i.bytes))=some (some (.int .u8 0),1,1))
 (ho:o.op= .call {callee:=.builtin .append,args:=#[s,x],argTypes:=#[t,u]})
 (B:Nat) (v:Value) (l:List UInt8) (hs:a.eval s=v) (hown:OwnB B w v l) (b:ByteArray) (hx:a.eval x= .string b) (hlen:l.length+b.size≤140737488355328) (hB:B≤w.heap.size)
 (h:∀ v' w',OwnB B w' v' (l++b.data.toList)→Below B w w'→K (a.put o.dst v') w'):o.wp P a w K Q:=by
 obtain⟨i0,hi,hz0,hz1,hz2⟩:=info_parts hi
 obtain⟨v',w',hr,h2,h3⟩:=run_appB (P:=P) (w:=w) t u o.type e i0 ht hu hi hz0 hz1 hz2 hown b hlen hB
 unfold Oper.wp execOp
 simp only[ho,resolve,invoke,builtin,Sem.run_bind,Sem.run_pure,Result.andThen_ok,List.map_toArray,List.map_cons,List.map_nil,hs,hx,hr]
 exact h v' w' h2 h3
theorem wpList_appB {P:Program}{ops:Array Oper}{rest:List Oper}{o:Oper}{a:Act}{Q:Exit→Act→World→Prop}{w:World}(hw:Region.wanted o (yielded ops a.tmps)=true)(s x:Operand)(t u e:TypeId)
 (ht:P.underlying t=some (.slice e)) (hu:P.underlying u=some .string) (hi:(P.info? e).map (fun i=>(i.zero,i.size,i.bytes))=some (some (.int .u8 0),1,1))
 (ho:o.op= .call {callee:=.builtin .append,args:=#[s,x],argTypes:=#[t,u]})
 (B:Nat) (v:Value) (l:List UInt8) (hs:a.eval s=v) (hown:OwnB B w v l) (b:ByteArray) (hx:a.eval x= .string b) (hlen:l.length+b.size≤140737488355328) (hB:B≤w.heap.size)
 (h:∀ v' w',OwnB B w' v' (l++b.data.toList)→Below B w w'→wpList P ops Q rest (a.put o.dst v') w'):wpList P ops Q (o::rest) a w:=
 listWants hw fun _ hK=>wp_appB w s x t u e ht hu hi ho B v l hs hown b hx hlen hB (fun v' w' a b=>hK _ _ (h v' w' a b))
theorem OwnB.back {P:Program}{B:Nat}{w:World}{v:Value}{l:List UInt8}(h:OwnB B w v l){t u e:TypeId}(ht:P.underlying t=some (.slice e))(he:P.underlying e=some (.int .u8))(hu:P.underlying u=some .string):
 (convert t u v).run P w= .ok (.string ⟨l.toArray⟩) w:=by
 obtain⟨g,cap,rfl,_,hg,_,_,_,h7⟩:=h
 exact run_convert_bytes_back w t u e ⟨g,0,none⟩ cap l ht he hu (fun j hj=>by rw[Addr.add_mid,Nat.zero_add];exact h7 j hj)
end Go.Proofs.YtilakddepaplhaaGreat
namespace Rc
theorem txnB_true (x1 x2 x3:Int):txnB ⟨x1,x2,x3,true⟩=p x1 6++(p x2 6++(p x3 6++p 1 1)):=rfl
theorem txnB_false (x1 x2 x3:Int):txnB ⟨x1,x2,x3,false⟩=p x1 6++(p x2 6++(p x3 6++p 0 1)):=rfl
theorem mk_list (l:List UInt8):(mk l).data.toList=l:=by unfold mk;rfl
theorem flat_take {α:Type}(f:α→List UInt8)(l:List α)(k:Nat)(h:k<l.length):(l.take (k+1)).flatMap f=(l.take k).flatMap f++f l[k]:=by
 rw[List.take_add_one,List.getElem?_eq_getElem h,List.flatMap_append]
 simp
end Rc
namespace Go.Proofs.YtilakddepaplhaaGreat
open Go.RowKit
theorem rcheck_any (r:Rc.Rec)(A B:Option Addr)(c d:Nat)(hts:r.txns.length≤1000)(hds:r.dirty.length≤2000)(w:World)(hr:RecR w r A c B d):
 Calls Tryz.prog 175 #[recV r (.slice A r.txns.length c) (.slice B r.dirty.length d)] w fun e w'=>e= .returned (.string (Rc.mk (Rc.listsB r)))∧Below w.heap.size w w':=by
 obtain⟨lsn,prev,txn,kind,page,next,nu,⟨ok,os,oo,on⟩,how,root,⟨ek,ep,es⟩,ts,ds⟩:=r
 dsimp only[recV,recA]at hts hds ⊢
 obtain⟨R,hR⟩:=ex (Rc.mk (Rc.listsB ⟨lsn,prev,txn,kind,page,next,nu,⟨ok,os,oo,on⟩,how,root,⟨ek,ep,es⟩,ts,ds⟩))
 rw[← hR]
 obtain⟨w0,hw0⟩:=ex (w.alloc (.cells (rcA lsn prev txn kind page next nu ok os oo on how root ek ep es (.slice A ts.length c) (.slice B ds.length d)) 55))
 have HB0:=Hq (show Below w.heap.size w w0 from by rw[hw0];exact allocB _ _)
 have HX0:=Hq (show w0.heap[w.heap.size]? =some (.cells (rcA lsn prev txn kind page next nu ok os oo on how root ek ep es (.slice A ts.length c) (.slice B ds.length d)) 55 (0,0))from by rw[hw0];exact heap_alloc_new _ _)
 have HT:=Hq (show TxR w0 A c ts from hr.txns.below HB0.out)
 have HD:=Hq (show DiR w0 B d ds from hr.dirty.below HB0.out)
 have hbw:w.heap.size≤w0.heap.size:=HB0.out.size
 clear hr
 obtain⟨B1,hB1⟩:=ex (Rc.mk (Rc.p nu 6))
 have HC1:=Hq (show ∀ W,Calls Tryz.prog 111 #[nu,.int .i64 6] W fun e w'=>e= .returned (.string B1)∧Below W.heap.size W w' from fun W=>by rw[hB1];exact rput_mk nu 6 (by omega) W)
 obtain⟨B2,hB2⟩:=ex (Rc.mk (Rc.p (ts.length:Int) 2))
 have HC2:=Hq (show ∀ W,Calls Tryz.prog 111 #[.int .i64 (ts.length:Int),.int .i64 2] W fun e w'=>e= .returned (.string B2)∧Below W.heap.size W w' from fun W=>by rw[hB2];exact rput_mk (ts.length:Int) 2 (by omega) W)
 obtain⟨S2,hS2⟩:=ex (Rc.mk (Rc.p nu 6++Rc.p (ts.length:Int) 2))
 have ha2:∀ W:World,(Op.stringOp .add B1 B2).run Tryz.prog W= .ok (.string S2) W:=fun W=>by rw[hB1,hB2,hS2];exact add_mk _ _ (by simp only[Rc.p_length];omega) W
 have HS2:=Hq hS2
 have hz2:S2.size=8:=by rw[hS2,Rc.mk_size,List.length_append,Rc.p_length,Rc.p_length]
 have hcv:∀ W:World,(convert 9 120 (.string S2)).run Tryz.prog W= .ok (.slice (some ⟨W.heap.size,0,none⟩) S2.size (grownCap W S2.size 0 5)) (Lib.bytesWorld W 5 S2):=fun W=>Lib.run_convert_string_bytes W 9 120 5 S2 Tryz.underlying9 Tryz.underlying120 Tryz.underlying5
 have HCV:=Hq (fun W:World=>ownB_conv W S2 (by omega))
 clear hB1 hB2 hS2
 go_enter Tryz.func175,Tryz.ntmps175
 go_upto_region 1 with fail
 rw[← hw0]
 clear hw0
 obtain⟨g,hg⟩:=ex w.heap.size
 rw[← hg]at HX0
 rw[← hg]
 have hgw:g<w0.heap.size:=heapLt HX0.out
 clear hg
 have Xa0:=blkOld HX0.out (Below.refl _ w0).drew
 have Ya0:=(Below.refl w0.heap.size w0).drew
 refine rgH (S:=(fun u=>u.heap[g]? =some (.cells (rcA lsn prev txn kind page next nu ok os oo on how root ek ep es (.slice A ts.length c) (.slice B ds.length d)) 55 (0,0)))) (fun hHeld=>?_)
 refine tkP 0 ?_;refine tkP 1 ?_;refine tkP 3 ?_;refine tkP 4 ?_;refine tkP 5 ?_
 refine rdP 2 fun K hK=>?_
 go_simp
 refine(HC1.out _).mono ?_;rintro e va1 ⟨rfl,hb⟩;have Xa1:=blkOld Xa0 hb;have Ya1:=joinB Ya0 hb;try clear hSn
 have hSn:=Xa1
 clear hb
 refine hKo hK (fun hHeld=>?_)
 clear hK K
 refine rdP 6 fun K hK=>?_
 go_simp
 refine(HC2.out _).mono ?_;rintro e va2 ⟨rfl,hb⟩;have Xa2:=blkOld Xa1 hb;have Ya2:=joinB Ya1 hb;try clear hSn
 have hSn:=Xa2
 clear hb
 refine hKo hK (fun hHeld=>?_)
 clear hK K
 refine tkP 7 ?_
 refine rdP 8 fun K hK=>?_
 go_simp
 have Xa3:=blkOld Xa2 (below_bytes va2 5 S2);have Ya3:=joinB Ya2 (below_bytes va2 5 S2);have OWN:=(HCV.out va2).mono Ya2.size
 try clear hSn
 have hSn:=Xa3
 refine hKo hK (fun hHeld=>?_)
 clear hK K
 refine tkP 9 ?_
 refine wpAnyH_done Kr ?_ _
 have HOWN:=Hq (show OwnB w0.heap.size (Lib.bytesWorld va2 5 S2) _ (Rc.p nu 6++Rc.p (ts.length:Int) 2)from by(have h:=OWN);rw[HS2.out,Rc.mk_list]at h;rw[HS2.out];exact h)
 have HBW:=Hq Ya3
 obtain⟨W1,hW1⟩:=ex (Lib.bytesWorld va2 5 S2)
 rw[← hW1]at HOWN HBW
 rw[← hW1]
 clear hHeld hSn hW1 Xa0 Xa1 Xa2 Xa3 Ya0 Ya1 Ya2 Ya3 OWN HCV hcv ha2
 go_wp2_with fail
 go_loopw [3,4] (fun v i wr=>∃ k:Nat,k≤ts.length∧i= .int .i64 (k:Int)∧OwnB w0.heap.size wr v (Rc.p nu 6++Rc.p (ts.length:Int) 2++(ts.take k).flatMap Rc.txnB)∧Below w0.heap.size w0 wr) (fun _ i _=>ts.length-(intOf i).toNat)
 case atStart=>exact⟨0,Nat.zero_le _,rfl,by rw[List.take_zero,List.flatMap_nil,List.append_nil];exact HOWN.out,HBW.out⟩
 case round=>
  obtain⟨k,hk,rfl,hown,hbe⟩:=hrel
  have HBE:=Hq hbe
  obtain⟨L,hL⟩:=ex (Rc.p nu 6++Rc.p (ts.length:Int) 2++(ts.take k).flatMap Rc.txnB)
  rw[← hL]at hown
  have hLl:L.length≤20000:=by
   rw[hL,List.length_append,List.length_append,Rc.p_length,Rc.p_length,Rc.flat_len Rc.txnB 19 Rc.txnB_len,List.length_take];omega
  have HL:=Hq hL
  have HO:=Hq hown
  clear hL hbe hown HOWN HBW
  have hcb:=blkCell (blkOld HX0.out HBE.out)
  by_cases hlt:k<ts.length
  ·have hk2:(k:Int)<(ts.length:Int):=by omega
   have hk1:(0:Int)≤(k:Int):=by omega
   have hwk:IntKind.i64.wrap ((k:Int)+1)=(k:Int)+1:=IntWalk.i64_in _ (by omega)
   obtain⟨b1,off,rfl,hc,hbl,hcell⟩:=read_at txC_len (HT.out.below HBE.out) hlt
   have HFT:=Hq (Rc.flat_take Rc.txnB ts k hlt)
   generalize ts[k]=x at hcell HFT
   obtain⟨x1,x2,x3,x4⟩:=x
   have HC:=Hq (show wr.rangeAt b1 (off+k*4) [.int .i64 x1,.int .i64 x2,.int .i64 x3,.bool x4]from hcell)
   clear hcell hc
   go_upto_region 6 with(first
    |(with_reducible refine wpList_load_mid rfl 92 (.tmp 27) rfl b1 (off+k*4) rfl [.int .i64 x1,.int .i64 x2,.int .i64 x3,.bool x4] _ HC.out Tryz.underlying92 Kr Kr ?_)
    |(with_reducible refine sN #[x1,x2,x3,x4] ?_))
   have HG:=Hq (heap_alloc_new wr (.cells #[x1,x2,x3,x4] 92))
   have HB1:=Hq (joinB HBE.out (allocB wr (.cells #[x1,x2,x3,x4] 92)))
   have HO1:=Hq (HO.out.below (allocB wr (.cells #[x1,x2,x3,x4] 92)))
   obtain⟨gx,hge⟩:=ex wr.heap.size
   obtain⟨W2,hW2⟩:=ex (wr.alloc (.cells #[x1,x2,x3,x4] 92))
   rw[← hge,← hW2]at HG
   rw[← hW2]at HB1 HO1
   rw[← hge,← hW2]
   clear hge hW2 hcb HC hbl HO
   have hcx:=blkCell HG.out
   cases x4 with
   |true=>
    obtain⟨B3,hB3⟩:=ex (Rc.mk (Rc.p x1 6))
    have HC3:=Hq (show ∀ W,Calls Tryz.prog 111 #[x1,.int .i64 6] W fun e w'=>e= .returned (.string B3)∧Below W.heap.size W w' from fun W=>by rw[hB3];exact rput_mk x1 6 (by omega) W)
    obtain⟨B4,hB4⟩:=ex (Rc.mk (Rc.p x2 6))
    have HC4:=Hq (show ∀ W,Calls Tryz.prog 111 #[x2,.int .i64 6] W fun e w'=>e= .returned (.string B4)∧Below W.heap.size W w' from fun W=>by rw[hB4];exact rput_mk x2 6 (by omega) W)
    obtain⟨B5,hB5⟩:=ex (Rc.mk (Rc.p x3 6))
    have HC5:=Hq (show ∀ W,Calls Tryz.prog 111 #[x3,.int .i64 6] W fun e w'=>e= .returned (.string B5)∧Below W.heap.size W w' from fun W=>by rw[hB5];exact rput_mk x3 6 (by omega) W)
    obtain⟨B6,hB6⟩:=ex (Rc.mk (Rc.p 1 1))
    have HC6:=Hq (show ∀ W,Calls Tryz.prog 111 #[.int .i64 1,.int .i64 1] W fun e w'=>e= .returned (.string B6)∧Below W.heap.size W w' from fun W=>by rw[hB6];exact rput_mk 1 1 (by omega) W)
    obtain⟨S4,hS4⟩:=ex (Rc.mk (Rc.p x1 6++Rc.p x2 6))
    have ha4:∀ W:World,(Op.stringOp .add B3 B4).run Tryz.prog W= .ok (.string S4) W:=fun W=>by rw[hB3,hB4,hS4];exact add_mk _ _ (by simp only[Rc.p_length];omega) W
    obtain⟨S5,hS5⟩:=ex (Rc.mk ((Rc.p x1 6++Rc.p x2 6)++Rc.p x3 6))
    have ha5:∀ W:World,(Op.stringOp .add S4 B5).run Tryz.prog W= .ok (.string S5) W:=fun W=>by rw[hS4,hB5,hS5];exact add_mk _ _ (by simp only[List.length_append,Rc.p_length];omega) W
    obtain⟨S6,hS6⟩:=ex (Rc.mk ((Rc.p x1 6++Rc.p x2 6++Rc.p x3 6)++Rc.p 1 1))
    have ha6:∀ W:World,(Op.stringOp .add S5 B6).run Tryz.prog W= .ok (.string S6) W:=fun W=>by rw[hS5,hB6,hS6];exact add_mk _ _ (by simp only[List.length_append,Rc.p_length];omega) W
    have HN:=Hq (show L++S6.data.toList=Rc.p nu 6++Rc.p (ts.length:Int) 2++(ts.take (k+1)).flatMap Rc.txnB from by rw[HFT.out,HL.out,hS6,Rc.mk_list,Rc.txnB_true];simp only[List.append_assoc])
    have hz6:S6.size≤100:=by rw[hS6,Rc.mk_size];simp only[List.length_append,Rc.p_length];omega
    clear hB3 hB4 hB5 hB6 hS4 hS5 hS6
    go_upto_region 9 with fail
    have Xb0:=blkOld HG.out (Below.refl _ W2).drew
    have Yb0:=joinB HB1.out (Below.refl _ W2).drew
    have Ob0:=HO1.out.below (Below.refl _ W2).drew
    refine wp_region_Z (S:=(fun u=>u.heap[gx]? =some (.cells #[x1,x2,x3,true] 92 (0,0)))) 15 Kr ?_ (fun hHeld=>?_)
    ·first|exact hSn|exact Xb0
    refine tzP 0 [15] ?_
    refine tzP 1 [2,3,6,10,13,15] ?_
    refine tzP 2 [3,6,10,13,15] ?_
    refine tzP 4 [5,6,10,13,15] ?_
    refine tzP 5 [6,10,13,15] ?_
    refine tzP 8 [9,10,13,15] ?_
    refine tzP 9 [10,13,15] ?_
    refine tzP 12 [13,15] ?_
    refine wpAnyZ_ready (rs:=[3]) Kr (by simp) ?_
    refine AllReadyZ.cons (o:={dst:=some 34,op:=_,type:=_,pos:=_,after:=_,guard:=_}) rfl (fun K hK=>?_) ?_
    rotate_left
    ·exact AllReadyZ.nil
    go_simp
    refine(HC3.out _).mono ?_;rintro e vb1 ⟨rfl,hb⟩;have Xb1:=blkOld Xb0 hb;have Yb1:=joinB Yb0 hb;have Ob1:=Ob0.below hb;try clear hSn
    have hSn:=Xb1
    clear hb
    refine hKo hK (fun hHeld=>?_)
    clear hK K
    refine wpAnyZ_ready (rs:=[6]) Kr (by simp) ?_
    refine AllReadyZ.cons (o:={dst:=some 37,op:=_,type:=_,pos:=_,after:=_,guard:=_}) rfl (fun K hK=>?_) ?_
    rotate_left
    ·exact AllReadyZ.nil
    go_simp
    refine(HC4.out _).mono ?_;rintro e vb2 ⟨rfl,hb⟩;have Xb2:=blkOld Xb1 hb;have Yb2:=joinB Yb1 hb;have Ob2:=Ob1.below hb;try clear hSn
    have hSn:=Xb2
    clear hb
    refine hKo hK (fun hHeld=>?_)
    clear hK K
    refine tzP 7 [11,14,15] ?_
    refine wpAnyZ_ready (rs:=[10]) Kr (by simp) ?_
    refine AllReadyZ.cons (o:={dst:=some 41,op:=_,type:=_,pos:=_,after:=_,guard:=_}) rfl (fun K hK=>?_) ?_
    rotate_left
    ·exact AllReadyZ.nil
    go_simp
    refine(HC5.out _).mono ?_;rintro e vb3 ⟨rfl,hb⟩;have Xb3:=blkOld Xb2 hb;have Yb3:=joinB Yb2 hb;have Ob3:=Ob2.below hb;try clear hSn
    have hSn:=Xb3
    clear hb
    refine hKo hK (fun hHeld=>?_)
    clear hK K
    refine tzP 11 [14,15] ?_
    refine wpAnyZ_ready (rs:=[13]) Kr (by simp) ?_
    refine AllReadyZ.cons (o:={dst:=some 44,op:=_,type:=_,pos:=_,after:=_,guard:=_}) rfl (fun K hK=>?_) ?_
    rotate_left
    ·exact AllReadyZ.nil
    go_simp
    refine(HC6.out _).mono ?_;rintro e vb4 ⟨rfl,hb⟩;have Xb4:=blkOld Xb3 hb;have Yb4:=joinB Yb3 hb;have Ob4:=Ob3.below hb;try clear hSn
    have hSn:=Xb4
    clear hb
    refine hKo hK (fun hHeld=>?_)
    clear hK K
    refine tzP 14 [15] ?_
    refine wpAnyZ_ready (rs:=[15]) Kr (by simp) ?_
    refine AllReadyZ.last (o:={dst:=some 46,op:=_,type:=_,pos:=_,after:=_,guard:=_}) rfl Kr (fun K hK=>?_) ?_
    rotate_left
    ·exact AllReadyZ.nil
    refine wantedIf (by rfl) ?_
    refine wp_appB _ (.tmp 31) (.tmp 45) 120 9 5 Tryz.underlying120 Tryz.underlying9 info_byte rfl w0.heap.size _ L rfl Ob4 S6 rfl (by omega) Yb4.size ?_
    intro v9 w9 ho hb
    have Yb5:=Yb4.trans hb
    refine hK.out _ _ ?_
    clear hK K
    try simp only[Act.put,pS]
    refine wpAnyZ_ready (rs:=[16]) Kr (by simp) ?_
    refine AllReadyZ.last (o:={dst:=some 3,op:=_,type:=_,pos:=_,after:=_,guard:=_}) rfl Kr (fun K hK=>?_) ?_
    rotate_left
    ·exact AllReadyZ.nil
    go_simp
    refine hK.out _ _ ?_
    clear hK K
    try simp only[Act.put,pS]
    refine wpAnyZ_done Kr ?_ _
    rw[HN.out]at ho
    clear hHeld hSn
    go_wp2_with fail
    go_roundw
    case rel=>exact⟨k+1,by omega,by go_num,ho,Yb5⟩
    case measure=>simp[intOf];omega
   |false=>
    obtain⟨B3,hB3⟩:=ex (Rc.mk (Rc.p x1 6))
    have HC3:=Hq (show ∀ W,Calls Tryz.prog 111 #[x1,.int .i64 6] W fun e w'=>e= .returned (.string B3)∧Below W.heap.size W w' from fun W=>by rw[hB3];exact rput_mk x1 6 (by omega) W)
    obtain⟨B4,hB4⟩:=ex (Rc.mk (Rc.p x2 6))
    have HC4:=Hq (show ∀ W,Calls Tryz.prog 111 #[x2,.int .i64 6] W fun e w'=>e= .returned (.string B4)∧Below W.heap.size W w' from fun W=>by rw[hB4];exact rput_mk x2 6 (by omega) W)
    obtain⟨B5,hB5⟩:=ex (Rc.mk (Rc.p x3 6))
    have HC5:=Hq (show ∀ W,Calls Tryz.prog 111 #[x3,.int .i64 6] W fun e w'=>e= .returned (.string B5)∧Below W.heap.size W w' from fun W=>by rw[hB5];exact rput_mk x3 6 (by omega) W)
    obtain⟨B6,hB6⟩:=ex (Rc.mk (Rc.p 0 1))
    have HC6:=Hq (show ∀ W,Calls Tryz.prog 111 #[(),.int .i64 1] W fun e w'=>e= .returned (.string B6)∧Below W.heap.size W w' from fun W=>by rw[hB6];exact rput_mk 0 1 (by omega) W)
    obtain⟨S4,hS4⟩:=ex (Rc.mk (Rc.p x1 6++Rc.p x2 6))
    have ha4:∀ W:World,(Op.stringOp .add B3 B4).run Tryz.prog W= .ok (.string S4) W:=fun W=>by rw[hB3,hB4,hS4];exact add_mk _ _ (by simp only[Rc.p_length];omega) W
    obtain⟨S5,hS5⟩:=ex (Rc.mk ((Rc.p x1 6++Rc.p x2 6)++Rc.p x3 6))
    have ha5:∀ W:World,(Op.stringOp .add S4 B5).run Tryz.prog W= .ok (.string S5) W:=fun W=>by rw[hS4,hB5,hS5];exact add_mk _ _ (by simp only[List.length_append,Rc.p_length];omega) W
    obtain⟨S6,hS6⟩:=ex (Rc.mk ((Rc.p x1 6++Rc.p x2 6++Rc.p x3 6)++Rc.p 0 1))
    have ha6:∀ W:World,(Op.stringOp .add S5 B6).run Tryz.prog W= .ok (.string S6) W:=fun W=>by rw[hS5,hB6,hS6];exact add_mk _ _ (by simp only[List.length_append,Rc.p_length];omega) W
    have HN:=Hq (show L++S6.data.toList=Rc.p nu 6++Rc.p (ts.length:Int) 2++(ts.take (k+1)).flatMap Rc.txnB from by rw[HFT.out,HL.out,hS6,Rc.mk_list,Rc.txnB_false];simp only[List.append_assoc])
    have hz6:S6.size≤100:=by rw[hS6,Rc.mk_size];simp only[List.length_append,Rc.p_length];omega
    clear hB3 hB4 hB5 hB6 hS4 hS5 hS6
    go_upto_region 9 with fail
    have Xb0:=blkOld HG.out (Below.refl _ W2).drew
    have Yb0:=joinB HB1.out (Below.refl _ W2).drew
    have Ob0:=HO1.out.below (Below.refl _ W2).drew
    refine wp_region_Z (S:=(fun u=>u.heap[gx]? =some (.cells #[x1,x2,x3,false] 92 (0,0)))) 15 Kr ?_ (fun hHeld=>?_)
    ·first|exact hSn|exact Xb0
    refine tzP 0 [15] ?_
    refine tzP 1 [2,3,6,10,13,15] ?_
    refine tzP 2 [3,6,10,13,15] ?_
    refine tzP 4 [5,6,10,13,15] ?_
    refine tzP 5 [6,10,13,15] ?_
    refine tzP 8 [9,10,13,15] ?_
    refine tzP 9 [10,13,15] ?_
    refine tzP 12 [13,15] ?_
    refine wpAnyZ_ready (rs:=[3]) Kr (by simp) ?_
    refine AllReadyZ.cons (o:={dst:=some 34,op:=_,type:=_,pos:=_,after:=_,guard:=_}) rfl (fun K hK=>?_) ?_
    rotate_left
    ·exact AllReadyZ.nil
    go_simp
    refine(HC3.out _).mono ?_;rintro e vb1 ⟨rfl,hb⟩;have Xb1:=blkOld Xb0 hb;have Yb1:=joinB Yb0 hb;have Ob1:=Ob0.below hb;try clear hSn
    have hSn:=Xb1
    clear hb
    refine hKo hK (fun hHeld=>?_)
    clear hK K
    refine wpAnyZ_ready (rs:=[6]) Kr (by simp) ?_
    refine AllReadyZ.cons (o:={dst:=some 37,op:=_,type:=_,pos:=_,after:=_,guard:=_}) rfl (fun K hK=>?_) ?_
    rotate_left
    ·exact AllReadyZ.nil
    go_simp
    refine(HC4.out _).mono ?_;rintro e vb2 ⟨rfl,hb⟩;have Xb2:=blkOld Xb1 hb;have Yb2:=joinB Yb1 hb;have Ob2:=Ob1.below hb;try clear hSn
    have hSn:=Xb2
    clear hb
    refine hKo hK (fun hHeld=>?_)
    clear hK K
    refine tzP 7 [11,14,15] ?_
    refine wpAnyZ_ready (rs:=[10]) Kr (by simp) ?_
    refine AllReadyZ.cons (o:={dst:=some 41,op:=_,type:=_,pos:=_,after:=_,guard:=_}) rfl (fun K hK=>?_) ?_
    rotate_left
    ·exact AllReadyZ.nil
    go_simp
    refine(HC5.out _).mono ?_;rintro e vb3 ⟨rfl,hb⟩;have Xb3:=blkOld Xb2 hb;have Yb3:=joinB Yb2 hb;have Ob3:=Ob2.below hb;try clear hSn
    have hSn:=Xb3
    clear hb
    refine hKo hK (fun hHeld=>?_)
    clear hK K
    refine tzP 11 [14,15] ?_
    refine wpAnyZ_ready (rs:=[13]) Kr (by simp) ?_
    refine AllReadyZ.cons (o:={dst:=some 44,op:=_,type:=_,pos:=_,after:=_,guard:=_}) rfl (fun K hK=>?_) ?_
    rotate_left
    ·exact AllReadyZ.nil
    go_simp
    refine(HC6.out _).mono ?_;rintro e vb4 ⟨rfl,hb⟩;have Xb4:=blkOld Xb3 hb;have Yb4:=joinB Yb3 hb;have Ob4:=Ob3.below hb;try clear hSn
    have hSn:=Xb4
    clear hb
    refine hKo hK (fun hHeld=>?_)
    clear hK K
    refine tzP 14 [15] ?_
    refine wpAnyZ_ready (rs:=[15]) Kr (by simp) ?_
    refine AllReadyZ.last (o:={dst:=some 46,op:=_,type:=_,pos:=_,after:=_,guard:=_}) rfl Kr (fun K hK=>?_) ?_
    rotate_left
    ·exact AllReadyZ.nil
    refine wantedIf (by rfl) ?_
    refine wp_appB _ (.tmp 31) (.tmp 45) 120 9 5 Tryz.underlying120 Tryz.underlying9 info_byte rfl w0.heap.size _ L rfl Ob4 S6 rfl (by omega) Yb4.size ?_
    intro v9 w9 ho hb
    have Yb5:=Yb4.trans hb
    refine hK.out _ _ ?_
    clear hK K
    try simp only[Act.put,pS]
    refine wpAnyZ_ready (rs:=[16]) Kr (by simp) ?_
    refine AllReadyZ.last (o:={dst:=some 3,op:=_,type:=_,pos:=_,after:=_,guard:=_}) rfl Kr (fun K hK=>?_) ?_
    rotate_left
    ·exact AllReadyZ.nil
    go_simp
    refine hK.out _ _ ?_
    clear hK K
    try simp only[Act.put,pS]
    refine wpAnyZ_done Kr ?_ _
    rw[HN.out]at ho
    clear hHeld hSn
    go_wp2_with fail
    go_roundw
    case rel=>exact⟨k+1,by omega,by go_num,ho,Yb5⟩
    case measure=>simp[intOf];omega
  ·have hk2:¬ (k:Int)<(ts.length:Int):=by omega
   obtain rfl:k=ts.length:=by omega
   rw[List.take_length]at HL
   obtain⟨B7,hB7⟩:=ex (Rc.mk (Rc.p (ds.length:Int) 2))
   have HC7:=Hq (show ∀ W,Calls Tryz.prog 111 #[.int .i64 (ds.length:Int),.int .i64 2] W fun e w'=>e= .returned (.string B7)∧Below W.heap.size W w' from fun W=>by rw[hB7];exact rput_mk (ds.length:Int) 2 (by omega) W)
   have HL7:=Hq (show L++B7.data.toList=Rc.p nu 6++Rc.p (ts.length:Int) 2++ts.flatMap Rc.txnB++Rc.p (ds.length:Int) 2 from by rw[HL.out,hB7,Rc.mk_list])
   have hz7:B7.size=2:=by rw[hB7,Rc.mk_size,Rc.p_length]
   clear hB7
   obtain⟨wo,rfl⟩:=ex wr
   go_upto_region 11 with(first
    |(go_at_call 111;(with_reducible refine(HC7.out _).mono ?_);rintro e w3 ⟨rfl,hb3⟩;have O3:=HO.out.below hb3;have Y3:=joinB HBE.out hb3)
    |(at_builtin;refine wpList_appB Kr (.tmp 47) (.tmp 51) 120 9 5 Tryz.underlying120 Tryz.underlying9 info_byte rfl w0.heap.size _ L rfl O3 B7 rfl (by omega) Y3.size ?_;intro v8 w8 ho hb;have Y8:=Hq (Y3.trans hb);rw[HL7.out]at ho;have O8:=Hq ho;clear ho hb))
   obtain⟨base,hbase⟩:=ex (Rc.p nu 6++Rc.p (ts.length:Int) 2++ts.flatMap Rc.txnB++Rc.p (ds.length:Int) 2)
   rw[← hbase]at O8
   have hbl0:base.length≤20010:=by rw[hbase,List.length_append,List.length_append,List.length_append,Rc.p_length,Rc.p_length,Rc.p_length,Rc.flat_len Rc.txnB 19 Rc.txnB_len];omega
   have HBASE:=Hq hbase
   clear hbase O3 Y3 hb3 HO HBE HL HL7 hcb
   go_wp2_with fail
   go_loopw [3,7] (fun v i wr=>∃ m:Nat,m≤ds.length∧i= .int .i64 (m:Int)∧OwnB w0.heap.size wr v (base++(ds.take m).flatMap Rc.dirtyB)∧Below w0.heap.size w0 wr) (fun _ i _=>ds.length-(intOf i).toNat)
   case atStart=>exact⟨0,Nat.zero_le _,rfl,by rw[List.take_zero,List.flatMap_nil,List.append_nil];exact O8.out,Y8.out⟩
   case round=>
    obtain⟨m,hm,rfl,hown,hbe⟩:=hrel
    have HBE:=Hq hbe
    obtain⟨M,hM⟩:=ex (base++(ds.take m).flatMap Rc.dirtyB)
    rw[← hM]at hown
    have hMl:M.length≤40000:=by
     rw[hM,List.length_append,Rc.flat_len Rc.dirtyB 9 Rc.dirtyB_len,List.length_take];omega
    have HMM:=Hq hM
    have HO:=Hq hown
    clear hM hbe hown O8 Y8
    have hcb:=blkCell (blkOld HX0.out HBE.out)
    by_cases hlt:m<ds.length
    ·have hm2:(m:Int)<(ds.length:Int):=by omega
     have hm1:(0:Int)≤(m:Int):=by omega
     have hwm:IntKind.i64.wrap ((m:Int)+1)=(m:Int)+1:=IntWalk.i64_in _ (by omega)
     obtain⟨b1,off,rfl,hc,hbl,hcell⟩:=read_at diC_len (HD.out.below HBE.out) hlt
     have HFT:=Hq (Rc.flat_take Rc.dirtyB ds m hlt)
     generalize ds[m]=x at hcell HFT
     obtain⟨x1,x2⟩:=x
     have q0:=hcell 0 _ rfl
     have q1:=hcell 1 _ rfl
     simp only[Nat.add_zero]at q0
     clear hcell hc
     obtain⟨B8,hB8⟩:=ex (Rc.mk (Rc.p x1 3))
     have HC8:=Hq (show ∀ W,Calls Tryz.prog 111 #[x1,.int .i64 3] W fun e w'=>e= .returned (.string B8)∧Below W.heap.size W w' from fun W=>by rw[hB8];exact rput_mk x1 3 (by omega) W)
     obtain⟨B9,hB9⟩:=ex (Rc.mk (Rc.p x2 6))
     have HC9:=Hq (show ∀ W,Calls Tryz.prog 111 #[x2,.int .i64 6] W fun e w'=>e= .returned (.string B9)∧Below W.heap.size W w' from fun W=>by rw[hB9];exact rput_mk x2 6 (by omega) W)
     obtain⟨S9,hS9⟩:=ex (Rc.mk (Rc.p x1 3++Rc.p x2 6))
     have ha9:∀ W:World,(Op.stringOp .add B8 B9).run Tryz.prog W= .ok (.string S9) W:=fun W=>by rw[hB8,hB9,hS9];exact add_mk _ _ (by simp only[Rc.p_length];omega) W
     have HN:=Hq (show M++S9.data.toList=base++(ds.take (m+1)).flatMap Rc.dirtyB from by rw[HFT.out,HMM.out,hS9,Rc.mk_list];simp only[List.append_assoc];rfl)
     have hz9:S9.size=9:=by rw[hS9,Rc.mk_size];simp only[List.length_append,Rc.p_length]
     clear hB8 hB9 hS9
     go_upto_region 14 with fail
     have Xc0:=And.intro (blkOld (blkOld HX0.out HBE.out) (Below.refl _ wr).drew) (And.intro (show wr.drew.cell? ⟨b1,off+m*2,none⟩=_ from q0) (show wr.drew.cell? ⟨b1,off+m*2+1,none⟩=_ from q1))
     have Yc0:=joinB HBE.out (Below.refl _ wr).drew
     have Oc0:=HO.out.below (Below.refl _ wr).drew
     have hblc:b1<wr.drew.heap.size:=hbl
     refine wp_region_Z (S:=(fun u=>u.heap[g]? =some (.cells (rcA lsn prev txn kind page next nu ok os oo on how root ek ep es (.slice A ts.length c) (.slice (some ⟨b1,off,none⟩) ds.length d)) 55 (0,0))∧u.cell? ⟨b1,off+m*2,none⟩=some (.int .i64 x1)∧u.cell? ⟨b1,off+m*2+1,none⟩=some (.int .i64 x2))) 16 Kr ?_ (fun hHeld=>?_)
     ·first|exact hSn|exact Xc0
     refine wpAnyZ_take (i:=0) (oi:={dst:=some 60,op:=_,type:=_,pos:=_,after:=_,guard:=_}) (v:=?_) (p:=[16]) rfl Kr Kr Kr Kr Kr Kr (fun _ _ _ h=>h) (Or.inl ⟨by rfl,?_⟩) (by assumption) ?_
     rotate_left
     ·intro u hSu;obtain⟨hSa,hSb,hSc⟩:=hSu;have hSv:=blkCell hSa;clear hSa;go_simp;(try with_reducible rfl)
     try simp only[Act.put,pS]
     refine wpAnyZ_take (i:=1) (oi:={dst:=some 61,op:=_,type:=_,pos:=_,after:=_,guard:=_}) (v:=?_) (p:=[2,4,5,6,7,14,16]) rfl Kr Kr Kr Kr Kr Kr (fun _ _ _ h=>h) (Or.inl ⟨by rfl,?_⟩) (by assumption) ?_
     rotate_left
     ·intro u hSu;obtain⟨hSa,hSb,hSc⟩:=hSu;have hSv:=blkCell hSa;clear hSa;go_simp;(try with_reducible rfl)
     try simp only[Act.put,pS]
     refine wpAnyZ_take (i:=2) (oi:={dst:=some 62,op:=_,type:=_,pos:=_,after:=_,guard:=_}) (v:=?_) (p:=[4,5,6,7,14,16]) rfl Kr Kr Kr Kr Kr Kr (fun _ _ _ h=>h) (Or.inl ⟨by rfl,?_⟩) (by assumption) ?_
     rotate_left
     ·intro u hSu;obtain⟨hSa,hSb,hSc⟩:=hSu;have hSv:=blkCell hSa;clear hSa;go_simp;(try with_reducible rfl)
     try simp only[Act.put,pS]
     refine wpAnyZ_take (i:=3) (oi:={dst:=some 63,op:=_,type:=_,pos:=_,after:=_,guard:=_}) (v:=?_) (p:=[4,5,6,7,14,16]) rfl Kr Kr Kr Kr Kr Kr (fun _ _ _ h=>h) (Or.inl ⟨by rfl,?_⟩) (by assumption) ?_
     rotate_left
     ·intro u hSu;obtain⟨hSa,hSb,hSc⟩:=hSu;have hSv:=blkCell hSa;clear hSa;go_simp;(try with_reducible rfl)
     try simp only[Act.put,pS]
     refine wpAnyZ_take (i:=4) (oi:={dst:=some 64,op:=_,type:=_,pos:=_,after:=_,guard:=_}) (v:=?_) (p:=[5,6,7,14,16]) rfl Kr Kr Kr Kr Kr Kr (fun _ _ _ h=>h) (Or.inl ⟨by rfl,?_⟩) (by assumption) ?_
     rotate_left
     ·intro u hSu;obtain⟨hSa,hSb,hSc⟩:=hSu;have hSv:=blkCell hSa;clear hSa;go_simp;(try with_reducible rfl)
     try simp only[Act.put,pS]
     refine wpAnyZ_take (i:=5) (oi:={dst:=some 65,op:=_,type:=_,pos:=_,after:=_,guard:=_}) (v:=?_) (p:=[6,7,14,16]) rfl Kr Kr Kr Kr Kr Kr (fun _ _ _ h=>h) (Or.inl ⟨by rfl,?_⟩) (by assumption) ?_
     rotate_left
     ·intro u hSu;obtain⟨hSa,hSb,hSc⟩:=hSu;have hSv:=blkCell hSa;clear hSa;go_simp;(try with_reducible rfl)
     try simp only[Act.put,pS]
     refine wpAnyZ_take (i:=6) (oi:={dst:=some 66,op:=_,type:=_,pos:=_,after:=_,guard:=_}) (v:=?_) (p:=[7,14,16]) rfl Kr Kr Kr Kr Kr Kr (fun _ _ _ h=>h) (Or.inl ⟨by rfl,?_⟩) (by assumption) ?_
     rotate_left
     ·intro u hSu;obtain⟨hSa,hSb,hSc⟩:=hSu;have hSv:=blkCell hSa;clear hSa;go_simp;(try with_reducible rfl)
     try simp only[Act.put,pS]
     refine wpAnyZ_take (i:=8) (oi:={dst:=some 68,op:=_,type:=_,pos:=_,after:=_,guard:=_}) (v:=?_) (p:=[9,11,12,13,14,16]) rfl Kr Kr Kr Kr Kr Kr (fun _ _ _ h=>h) (Or.inl ⟨by rfl,?_⟩) (by assumption) ?_
     rotate_left
     ·intro u hSu;obtain⟨hSa,hSb,hSc⟩:=hSu;have hSv:=blkCell hSa;clear hSa;go_simp;(try with_reducible rfl)
     try simp only[Act.put,pS]
     refine wpAnyZ_take (i:=9) (oi:={dst:=some 69,op:=_,type:=_,pos:=_,after:=_,guard:=_}) (v:=?_) (p:=[11,12,13,14,16]) rfl Kr Kr Kr Kr Kr Kr (fun _ _ _ h=>h) (Or.inl ⟨by rfl,?_⟩) (by assumption) ?_
     rotate_left
     ·intro u hSu;obtain⟨hSa,hSb,hSc⟩:=hSu;have hSv:=blkCell hSa;clear hSa;go_simp;(try with_reducible rfl)
     try simp only[Act.put,pS]
     refine wpAnyZ_take (i:=10) (oi:={dst:=some 70,op:=_,type:=_,pos:=_,after:=_,guard:=_}) (v:=?_) (p:=[11,12,13,14,16]) rfl Kr Kr Kr Kr Kr Kr (fun _ _ _ h=>h) (Or.inl ⟨by rfl,?_⟩) (by assumption) ?_
     rotate_left
     ·intro u hSu;obtain⟨hSa,hSb,hSc⟩:=hSu;have hSv:=blkCell hSa;clear hSa;go_simp;(try with_reducible rfl)
     try simp only[Act.put,pS]
     refine wpAnyZ_take (i:=11) (oi:={dst:=some 71,op:=_,type:=_,pos:=_,after:=_,guard:=_}) (v:=?_) (p:=[12,13,14,16]) rfl Kr Kr Kr Kr Kr Kr (fun _ _ _ h=>h) (Or.inl ⟨by rfl,?_⟩) (by assumption) ?_
     rotate_left
     ·intro u hSu;obtain⟨hSa,hSb,hSc⟩:=hSu;have hSv:=blkCell hSa;clear hSa;go_simp;(try with_reducible rfl)
     try simp only[Act.put,pS]
     refine wpAnyZ_take (i:=12) (oi:={dst:=some 72,op:=_,type:=_,pos:=_,after:=_,guard:=_}) (v:=?_) (p:=[13,14,16]) rfl Kr Kr Kr Kr Kr Kr (fun _ _ _ h=>h) (Or.inl ⟨by rfl,?_⟩) (by assumption) ?_
     rotate_left
     ·intro u hSu;obtain⟨hSa,hSb,hSc⟩:=hSu;have hSv:=blkCell hSa;clear hSa;go_simp;(try with_reducible rfl)
     try simp only[Act.put,pS]
     refine wpAnyZ_take (i:=13) (oi:={dst:=some 73,op:=_,type:=_,pos:=_,after:=_,guard:=_}) (v:=?_) (p:=[14,16]) rfl Kr Kr Kr Kr Kr Kr (fun _ _ _ h=>h) (Or.inl ⟨by rfl,?_⟩) (by assumption) ?_
     rotate_left
     ·intro u hSu;obtain⟨hSa,hSb,hSc⟩:=hSu;have hSv:=blkCell hSa;clear hSa;go_simp;(try with_reducible rfl)
     try simp only[Act.put,pS]
     refine wpAnyZ_ready (rs:=[7]) Kr (by simp) ?_
     refine AllReadyZ.cons (o:={dst:=some 67,op:=_,type:=_,pos:=_,after:=_,guard:=_}) rfl (fun K hK=>?_) ?_
     rotate_left
     ·exact AllReadyZ.nil
     go_simp
     refine(HC8.out _).mono ?_;rintro e vc1 ⟨rfl,hb⟩;have Xc1:=And.intro (blkOld Xc0.1 hb) (And.intro ((hb.cell (p:=⟨b1,off+m*2,none⟩) hblc).trans Xc0.2.1) ((hb.cell (p:=⟨b1,off+m*2+1,none⟩) hblc).trans Xc0.2.2));have hblc1:=Nat.lt_of_lt_of_le hblc hb.size;have Yc1:=joinB Yc0 hb;have Oc1:=Oc0.below hb;try clear hSn
     have hSn:=Xc1
     clear hb
     refine hKo hK (fun hHeld=>?_)
     clear hK K
     refine wpAnyZ_ready (rs:=[14]) Kr (by simp) ?_
     refine AllReadyZ.cons (o:={dst:=some 74,op:=_,type:=_,pos:=_,after:=_,guard:=_}) rfl (fun K hK=>?_) ?_
     rotate_left
     ·exact AllReadyZ.nil
     go_simp
     refine(HC9.out _).mono ?_;rintro e vc2 ⟨rfl,hb⟩;have Xc2:=And.intro (blkOld Xc1.1 hb) (And.intro ((hb.cell (p:=⟨b1,off+m*2,none⟩) hblc1).trans Xc1.2.1) ((hb.cell (p:=⟨b1,off+m*2+1,none⟩) hblc1).trans Xc1.2.2));have hblc2:=Nat.lt_of_lt_of_le hblc1 hb.size;have Yc2:=joinB Yc1 hb;have Oc2:=Oc1.below hb;try clear hSn
     have hSn:=Xc2
     clear hb
     refine hKo hK (fun hHeld=>?_)
     clear hK K
     refine wpAnyZ_take (i:=15) (oi:={dst:=some 75,op:=_,type:=_,pos:=_,after:=_,guard:=_}) (v:=?_) (p:=[16]) rfl Kr Kr Kr Kr Kr Kr (fun _ _ _ h=>h) (Or.inl ⟨by rfl,?_⟩) (by assumption) ?_
     rotate_left
     ·intro u hSu;obtain⟨hSa,hSb,hSc⟩:=hSu;have hSv:=blkCell hSa;clear hSa;go_simp;(try with_reducible rfl)
     try simp only[Act.put,pS]
     refine wpAnyZ_ready (rs:=[16]) Kr (by simp) ?_
     refine AllReadyZ.last (o:={dst:=some 76,op:=_,type:=_,pos:=_,after:=_,guard:=_}) rfl Kr (fun K hK=>?_) ?_
     rotate_left
     ·exact AllReadyZ.nil
     refine wantedIf (by rfl) ?_
     refine wp_appB _ (.tmp 60) (.tmp 75) 120 9 5 Tryz.underlying120 Tryz.underlying9 info_byte rfl w0.heap.size _ M rfl Oc2 S9 rfl (by omega) Yc2.size ?_
     intro v9 w9 ho hb
     have Yc3:=Yc2.trans hb
     refine hK.out _ _ ?_
     clear hK K
     try simp only[Act.put,pS]
     refine wpAnyZ_ready (rs:=[17]) Kr (by simp) ?_
     refine AllReadyZ.last (o:={dst:=some 3,op:=_,type:=_,pos:=_,after:=_,guard:=_}) rfl Kr (fun K hK=>?_) ?_
     rotate_left
     ·exact AllReadyZ.nil
     go_simp
     refine hK.out _ _ ?_
     clear hK K
     try simp only[Act.put,pS]
     refine wpAnyZ_done Kr ?_ _
     rw[HN.out]at ho
     clear hHeld hSn
     go_wp2_with fail
     go_roundw
     case rel=>exact⟨m+1,by omega,by go_num,ho,Yc3⟩
     case measure=>simp[intOf];omega
    ·have hm2:¬ (m:Int)<(ds.length:Int):=by omega
     obtain rfl:m=ds.length:=by omega
     rw[List.take_length]at HMM
     have HE:=Hq (show(⟨M.toArray⟩:ByteArray)=R from by rw[hR,HMM.out,HBASE.out];unfold Rc.listsB Rc.mk;simp only[List.append_assoc])
     have hback:=HO.out.back (P:=Tryz.prog) (t:=120) (u:=9) (e:=5) Tryz.underlying120 Tryz.underlying5 Tryz.underlying9
     rw[HE.out]at hback
     go_wp2_with fail
     go_ret
     exact⟨rfl,joinB HB0.out HBE.out⟩
theorem rbare_any (r:Rc.Rec)(T D:Value)(w:World):
 Calls Tryz.prog 167 #[recV r T D] w fun e w'=>e= .returned (recV (Rc.bare r.kind r.lsn r.prev r.txn) (.slice none 0 0) (.slice none 0 0))∧Below w.heap.size w w':=by
 obtain⟨lsn,prev,txn,kind,page,next,nu,⟨ok,os,oo,on⟩,how,root,⟨ek,ep,es⟩,ts,ds⟩:=r
 dsimp only[recV,recA,Rc.bare,Rc.noOp,Rc.noKey]
 go_enter Tryz.func167,Tryz.ntmps167
 go_upto_region 1 with fail
 have H0:=nW2 w (rcA lsn prev txn kind page next nu ok os oo on how root ek ep es (T) (D)) 55 zeroA 55
 obtain⟨W0,hW0⟩:=exW H0
 rw[← hW0]at H0 ⊢
 clear hW0
 have hc:=blkCell H0.out.get0
 go_wp2_with (with_reducible refine lS (rcA lsn prev txn kind 0 0 0 0 0 ⟨#[]⟩ ⟨#[]⟩ 0 0 ⟨#[]⟩ 0 0 (.slice none 0 0) (.slice none 0 0)) H0.out.get1 ?_)
 refine bodyPost_ret (v:=.agg (rcA lsn prev txn kind 0 0 0 0 0 ⟨#[]⟩ ⟨#[]⟩ 0 0 ⟨#[]⟩ 0 0 (.slice none 0 0) (.slice none 0 0))) (results_cell rfl _ _ rfl (load_whole (setRow_heap _ _ _ _ _ _ H0.out.get1) Tryz.underlying55 Kr Kr)) rfl ?_
 exact⟨rfl,(H0.out.row 1 _ _ rfl).below⟩
theorem rchange_any (r:Rc.Rec)(T D:Value)(w:World):
 Calls Tryz.prog 169 #[recV r T D] w fun e w'=>e= .returned (.bool (decide (Rc.pg r.page∧Rc.opR r.op∧Rc.treeR r)))∧Below w.heap.size w w':=by
 obtain⟨lsn,prev,txn,kind,page,next,nu,⟨ok,os,oo,on⟩,how,root,⟨ek,ep,es⟩,ts,ds⟩:=r
 dsimp only
 have HP:=Hq (fun W=>rpage_any page W)
 have HO:=Hq (fun W=>rop_any ⟨ok,os,oo,on⟩ W)
 have HQ:=Hq (fun W=>rpage_any root W)
 have HE:=Hq (fun W=>rentry_any ⟨ek,ep,es⟩ W)
 dsimp only at HE HO
 by_cases h1:Rc.pg page
 rotate_left
 ·rw[decide_eq_false h1]at HP
  rw[decide_eq_false (fun h=>h1 h.1)]
  clear h1
  go_enter Tryz.func169,Tryz.ntmps169
  go_wp2_with (first|(go_at_call 170;(with_reducible refine(HP.out _).mono ?_);rintro e w2 ⟨rfl,hb2⟩;have hB2:=joinB (allocB w (.cells (rcA lsn prev txn kind page next nu ok os oo on how root ek ep es (T) (D)) 55)) hb2;have hx2:=blkCell (blkNew hb2)))
  go_ret
  exact⟨rfl,hB2⟩
 rw[decide_eq_true h1]at HP
 by_cases h2:Rc.opR ⟨ok,os,oo,on⟩
 rotate_left
 ·rw[decide_eq_false h2]at HO
  rw[decide_eq_false (fun h=>h2 h.2.1)]
  clear h1 h2
  go_enter Tryz.func169,Tryz.ntmps169
  go_wp2_with (first|(go_at_call 170;(with_reducible refine(HP.out _).mono ?_);rintro e w2 ⟨rfl,hb2⟩;have hB2:=joinB (allocB w (.cells (rcA lsn prev txn kind page next nu ok os oo on how root ek ep es (T) (D)) 55)) hb2;have hx2:=blkCell (blkNew hb2))|(go_at_call 171;(with_reducible refine(HO.out _).mono ?_);rintro e w3 ⟨rfl,hb3⟩;have hB3:=joinB hB2 hb3;have hx3:=blkCell (blkOld (blkNew hb2) hb3)))
  go_ret
  exact⟨rfl,hB3⟩
 rw[decide_eq_true h2]at HO
 have hred:decide (Rc.pg page∧Rc.opR ⟨ok,os,oo,on⟩∧Rc.treeR ⟨lsn,prev,txn,kind,page,next,nu,⟨ok,os,oo,on⟩,how,root,⟨ek,ep,es⟩,ts,ds⟩)=decide (Rc.treeR ⟨lsn,prev,txn,kind,page,next,nu,⟨ok,os,oo,on⟩,how,root,⟨ek,ep,es⟩,ts,ds⟩):=decide_eq_decide.2 ⟨fun h=>h.2.2,fun h=>⟨h1,h2,h⟩⟩
 rw[hred]
 clear hred h1 h2
 by_cases hh:how=1
 ·subst hh
  have HEQ:=Hq (fun W=>key_equal ⟨ek,ep,es⟩ ⟨⟨#[]⟩,0,0⟩ W)
  by_cases hr:root=0
  ·subst hr
   have heq:=HEQ.out
   have HT:=Hq (show decide (Rc.treeR ⟨lsn,prev,txn,kind,page,next,nu,⟨ok,os,oo,on⟩,1,0,⟨ek,ep,es⟩,ts,ds⟩)=decide ((⟨ek,ep,es⟩:Rc.Key)=⟨⟨#[]⟩,0,0⟩)from decide_eq_decide.2 ⟨fun h=>by
    rcases h with⟨_,_,h3⟩|⟨h1,_⟩
    ·exact h3
    ·simp only at h1;omega,fun h=>.inl ⟨rfl,rfl,h⟩⟩)
   rw[HT.out]
   generalize decide ((⟨ek,ep,es⟩:Rc.Key)=⟨⟨#[]⟩,0,0⟩)=b at heq ⊢
   go_enter Tryz.func169,Tryz.ntmps169
   go_wp2_with (first|(go_at_call 170;(with_reducible refine(HP.out _).mono ?_);rintro e w2 ⟨rfl,hb2⟩;have hB2:=joinB (allocB w (.cells (rcA lsn prev txn kind page next nu ok os oo on 1 0 ek ep es (T) (D)) 55)) hb2;have hx2:=blkCell (blkNew hb2))|(go_at_call 171;(with_reducible refine(HO.out _).mono ?_);rintro e w3 ⟨rfl,hb3⟩;have hB3:=joinB hB2 hb3;have hx3:=blkCell (blkOld (blkNew hb2) hb3)))
   go_ret
   exact⟨by simp,hB3⟩
  ·have h2:(root==0)=false:=by simp[hr]
   rw[show decide (Rc.treeR ⟨lsn,prev,txn,kind,page,next,nu,⟨ok,os,oo,on⟩,1,root,⟨ek,ep,es⟩,ts,ds⟩)=false from decide_eq_false (fun h=>by
    rcases h with⟨_,h3,_⟩|⟨h1,_⟩
    ·exact hr h3
    ·simp only at h1;omega)]
   clear hr
   go_enter Tryz.func169,Tryz.ntmps169
   go_wp2_with (first|(go_at_call 170;(with_reducible refine(HP.out _).mono ?_);rintro e w2 ⟨rfl,hb2⟩;have hB2:=joinB (allocB w (.cells (rcA lsn prev txn kind page next nu ok os oo on 1 root ek ep es (T) (D)) 55)) hb2;have hx2:=blkCell (blkNew hb2))|(go_at_call 171;(with_reducible refine(HO.out _).mono ?_);rintro e w3 ⟨rfl,hb3⟩;have hB3:=joinB hB2 hb3;have hx3:=blkCell (blkOld (blkNew hb2) hb3)))
   go_ret
   exact⟨by simp,hB3⟩
 ·have hh1:(how==1)=false:=by simp[hh]
  have NOT:=Hq (show ∀ (h:¬ ((how=2∨how=3)∧Rc.pg root∧Rc.pg ep∧Rc.sl es∧ek.size≤100)),decide (Rc.treeR ⟨lsn,prev,txn,kind,page,next,nu,⟨ok,os,oo,on⟩,how,root,⟨ek,ep,es⟩,ts,ds⟩)=false from fun h=>decide_eq_false (fun h'=>by
   rcases h' with⟨h1,_⟩|h1
   ·exact hh h1
   ·exact h h1))
  by_cases hk:how=2∨how=3
  rotate_left
  ·rw[NOT.out (fun h=>hk h.1)]
   have hh2:(how==2)=false:=by simp;omega
   have hh3:(how==3)=false:=by simp;omega
   clear hk hh
   go_enter Tryz.func169,Tryz.ntmps169
   go_wp2_with (first|(go_at_call 170;(with_reducible refine(HP.out _).mono ?_);rintro e w2 ⟨rfl,hb2⟩;have hB2:=joinB (allocB w (.cells (rcA lsn prev txn kind page next nu ok os oo on how root ek ep es (T) (D)) 55)) hb2;have hx2:=blkCell (blkNew hb2))|(go_at_call 171;(with_reducible refine(HO.out _).mono ?_);rintro e w3 ⟨rfl,hb3⟩;have hB3:=joinB hB2 hb3;have hx3:=blkCell (blkOld (blkNew hb2) hb3)))
   go_ret
   exact⟨by simp,hB3⟩
  have hk2:(how==2||how==3)=true:=by rcases hk with rfl|rfl<;>rfl
  by_cases hq:Rc.pg root
  rotate_left
  ·rw[decide_eq_false hq]at HQ
   rw[NOT.out (fun h=>hq h.2.1)]
   rcases hk with rfl|rfl
   ·clear hh hk2 hq hh1
    go_enter Tryz.func169,Tryz.ntmps169
    go_wp2_with (first|(go_at_call 170;(with_reducible refine(HP.out _).mono ?_);rintro e w2 ⟨rfl,hb2⟩;have hB2:=joinB (allocB w (.cells (rcA lsn prev txn kind page next nu ok os oo on 2 root ek ep es (T) (D)) 55)) hb2;have hx2:=blkCell (blkNew hb2))|(go_at_call 171;(with_reducible refine(HO.out _).mono ?_);rintro e w3 ⟨rfl,hb3⟩;have hB3:=joinB hB2 hb3;have hx3:=blkCell (blkOld (blkNew hb2) hb3))|(go_at_call 170;(with_reducible refine(HQ.out _).mono ?_);rintro e w4 ⟨rfl,hb4⟩;have hB4:=joinB hB3 hb4;have hx4:=blkCell (blkOld (blkOld (blkNew hb2) hb3) hb4)))
    go_ret
    exact⟨by simp,hB4⟩
   ·clear hh hk2 hq hh1
    go_enter Tryz.func169,Tryz.ntmps169
    go_wp2_with (first|(go_at_call 170;(with_reducible refine(HP.out _).mono ?_);rintro e w2 ⟨rfl,hb2⟩;have hB2:=joinB (allocB w (.cells (rcA lsn prev txn kind page next nu ok os oo on 3 root ek ep es (T) (D)) 55)) hb2;have hx2:=blkCell (blkNew hb2))|(go_at_call 171;(with_reducible refine(HO.out _).mono ?_);rintro e w3 ⟨rfl,hb3⟩;have hB3:=joinB hB2 hb3;have hx3:=blkCell (blkOld (blkNew hb2) hb3))|(go_at_call 170;(with_reducible refine(HQ.out _).mono ?_);rintro e w4 ⟨rfl,hb4⟩;have hB4:=joinB hB3 hb4;have hx4:=blkCell (blkOld (blkOld (blkNew hb2) hb3) hb4)))
    go_ret
    exact⟨by simp,hB4⟩
  rw[decide_eq_true hq]at HQ
  have HT:=Hq (show decide (Rc.treeR ⟨lsn,prev,txn,kind,page,next,nu,⟨ok,os,oo,on⟩,how,root,⟨ek,ep,es⟩,ts,ds⟩)=decide (ek.size≤100∧Rc.pg ep∧Rc.sl es)from decide_eq_decide.2 ⟨fun h=>by
   rcases h with⟨h1,_⟩|⟨_,_,h3,h4,h5⟩
   ·exact absurd h1 hh
   ·exact⟨h5,h3,h4⟩,fun h=>.inr ⟨hk,hq,h.2.1,h.2.2,h.1⟩⟩)
  rw[HT.out]
  generalize decide (ek.size≤100∧Rc.pg ep∧Rc.sl es)=b at HE ⊢
  rcases hk with rfl|rfl
  ·clear hh hk2 hq hh1 HT NOT
   go_enter Tryz.func169,Tryz.ntmps169
   go_wp2_with (first|(go_at_call 170;(with_reducible refine(HP.out _).mono ?_);rintro e w2 ⟨rfl,hb2⟩;have hB2:=joinB (allocB w (.cells (rcA lsn prev txn kind page next nu ok os oo on 2 root ek ep es (T) (D)) 55)) hb2;have hx2:=blkCell (blkNew hb2))|(go_at_call 171;(with_reducible refine(HO.out _).mono ?_);rintro e w3 ⟨rfl,hb3⟩;have hB3:=joinB hB2 hb3;have hx3:=blkCell (blkOld (blkNew hb2) hb3))|(go_at_call 170;(with_reducible refine(HQ.out _).mono ?_);rintro e w4 ⟨rfl,hb4⟩;have hB4:=joinB hB3 hb4;have hx4:=blkCell (blkOld (blkOld (blkNew hb2) hb3) hb4))|(go_at_call 198;(with_reducible refine(HE.out _).mono ?_);rintro e w5 ⟨rfl,hb5⟩;have hB5:=joinB hB4 hb5))
   go_ret
   exact⟨by simp,hB5⟩
  ·clear hh hk2 hq hh1 HT NOT
   go_enter Tryz.func169,Tryz.ntmps169
   go_wp2_with (first|(go_at_call 170;(with_reducible refine(HP.out _).mono ?_);rintro e w2 ⟨rfl,hb2⟩;have hB2:=joinB (allocB w (.cells (rcA lsn prev txn kind page next nu ok os oo on 3 root ek ep es (T) (D)) 55)) hb2;have hx2:=blkCell (blkNew hb2))|(go_at_call 171;(with_reducible refine(HO.out _).mono ?_);rintro e w3 ⟨rfl,hb3⟩;have hB3:=joinB hB2 hb3;have hx3:=blkCell (blkOld (blkNew hb2) hb3))|(go_at_call 170;(with_reducible refine(HQ.out _).mono ?_);rintro e w4 ⟨rfl,hb4⟩;have hB4:=joinB hB3 hb4;have hx4:=blkCell (blkOld (blkOld (blkNew hb2) hb3) hb4))|(go_at_call 198;(with_reducible refine(HE.out _).mono ?_);rintro e w5 ⟨rfl,hb5⟩;have hB5:=joinB hB4 hb5))
   go_ret
   exact⟨by simp,hB5⟩
theorem rlists_any (r:Rc.Rec)(A B:Option Addr)(c d:Nat)(w:World)(hr:RecR w r A c B d):
 Calls Tryz.prog 172 #[recV r (.slice A r.txns.length c) (.slice B r.dirty.length d)] w fun e w'=>e= .returned (.bool (decide (Rc.listsR r)))∧Below w.heap.size w w':=by
 obtain⟨lsn,prev,txn,kind,page,next,nu,⟨ok,os,oo,on⟩,how,root,⟨ek,ep,es⟩,ts,ds⟩:=r
 dsimp only[recV,recA]
 obtain⟨w0,hw0⟩:=ex (w.alloc (.cells (rcA lsn prev txn kind page next nu ok os oo on how root ek ep es (.slice A ts.length c) (.slice B ds.length d)) 55))
 have HB0:=Hq (show Below w.heap.size w w0 from by rw[hw0];exact allocB _ _)
 have HX0:=Hq (show w0.heap[w.heap.size]? =some (.cells (rcA lsn prev txn kind page next nu ok os oo on how root ek ep es (.slice A ts.length c) (.slice B ds.length d)) 55 (0,0))from by rw[hw0];exact heap_alloc_new _ _)
 have HT:=Hq (show TxR w0 A c ts from hr.txns.below HB0.out)
 have HD:=Hq (show DiR w0 B d ds from hr.dirty.below HB0.out)
 have hts:ts.length≤140737488355328:=hr.small.1
 have hds:ds.length≤140737488355328:=hr.small.2
 have HN:=Hq (fun n W=>rnumber_any n W)
 have HP:=Hq (fun n W=>rpage_any n W)
 obtain⟨z,hz⟩:=ex (decide (Rc.listsR ⟨lsn,prev,txn,kind,page,next,nu,⟨ok,os,oo,on⟩,how,root,⟨ek,ep,es⟩,ts,ds⟩))
 rw[← hz]
 have HZ:=Hq hz
 clear hr hz
 go_enter Tryz.func172,Tryz.ntmps172
 go_upto_region 1 with fail
 rw[← hw0]
 clear hw0
 obtain⟨g,hg⟩:=ex w.heap.size
 rw[← hg]at HX0
 rw[← hg]
 clear hg
 go_wp2_with fail
 go_loopw [3] (fun i wr=>∃ k:Nat,k≤ts.length∧i= .int .i64 (k:Int)∧(∀ j (hj:j<ts.length),j<k→Rc.txnR ts[j])∧Below w0.heap.size w0 wr) (fun i _=>ts.length-(intOf i).toNat)
 case atStart=>exact⟨0,Nat.zero_le _,rfl,fun _ _ h=>absurd h (by omega),Below.refl _ _⟩
 case round=>
  obtain⟨k,hk,rfl,hall,hbw⟩:=hrel
  have HA:=Hq hall
  clear hall
  have hcb:=blkCell (blkOld HX0.out hbw)
  by_cases hlt:k<ts.length
  ·have hk2:(k:Int)<(ts.length:Int):=by omega
   have hk1:(0:Int)≤(k:Int):=by omega
   have hwk:IntKind.i64.wrap ((k:Int)+1)=(k:Int)+1:=IntWalk.i64_in _ (by omega)
   obtain⟨b1,off,rfl,hc,hbl,hcell⟩:=read_at txC_len (HT.out.below hbw) hlt
   have HBAD:=Hq (show ¬ Rc.txnR ts[k]→z=false from fun h=>HZ.out.trans (decide_eq_false (fun h2=>h (h2.2.2.1 _ (List.getElem_mem hlt)))))
   have HOK:=Hq (show Rc.txnR ts[k]→∀ j (hj:j<ts.length),j<k+1→Rc.txnR ts[j]from fun h j hj hjk=>by
    rcases Nat.lt_or_eq_of_le (Nat.le_of_lt_succ hjk)with h1|h1
    ·exact HA.out j hj h1
    ·subst h1;exact h)
   clear HA
   generalize ts[k]=x at hcell HBAD HOK
   obtain⟨x1,x2,x3,x4⟩:=x
   have HC:=Hq (show wr.rangeAt b1 (off+k*4) [.int .i64 x1,.int .i64 x2,.int .i64 x3,.bool x4]from hcell)
   clear hcell hc
   go_upto_region 5 with(first
    |(with_reducible refine wpList_load_mid rfl 92 (.tmp 16) rfl b1 (off+k*4) rfl [.int .i64 x1,.int .i64 x2,.int .i64 x3,.bool x4] _ HC.out Tryz.underlying92 Kr Kr ?_)
    |(with_reducible refine sN #[x1,x2,x3,x4] ?_))
   have HG:=Hq (heap_alloc_new wr (.cells #[x1,x2,x3,x4] 92))
   have HB1:=Hq (joinB hbw (allocB wr (.cells #[x1,x2,x3,x4] 92)))
   obtain⟨gx,hge⟩:=ex wr.heap.size
   obtain⟨W1,hW1⟩:=ex (wr.alloc (.cells #[x1,x2,x3,x4] 92))
   rw[← hge,← hW1]at HG
   rw[← hW1]at HB1
   rw[← hge,← hW1]
   clear hge hW1 hbw hcb HC hbl
   have hcx:=blkCell HG.out
   have H1:=Hq (fun W=>rnumber_any x1 W)
   have H2:=Hq (fun W=>rnumber_any x2 W)
   have H3:=Hq (fun W=>rnumber_any x3 W)
   by_cases h1:Rc.num x1
   rotate_left
   ·rw[decide_eq_false h1]at H1
    have HZ2:=Hq (HBAD.out (fun h=>h1 h.1))
    clear h1
    go_wp2_with (go_at_call 166;(with_reducible refine(H1.out _).mono ?_);rintro e w2 ⟨rfl,hb2⟩)
    go_ret
    exact⟨by rw[HZ2.out];rfl,joinB HB0.out (joinB HB1.out hb2)⟩
   rw[decide_eq_true h1]at H1
   by_cases h2:Rc.num x2
   rotate_left
   ·rw[decide_eq_false h2]at H2
    have HZ2:=Hq (HBAD.out (fun h=>h2 h.2.1))
    clear h1 h2
    go_wp2_with (first
     |(go_at_call 166;(with_reducible refine(H1.out _).mono ?_);rintro e w2 ⟨rfl,hb2⟩;have hcx2:=blkCell (blkOld HG.out hb2))
     |(go_at_call 166;(with_reducible refine(H2.out _).mono ?_);rintro e w3 ⟨rfl,hb3⟩))
    go_ret
    exact⟨by rw[HZ2.out];rfl,joinB HB0.out (joinB (joinB HB1.out hb2) hb3)⟩
   rw[decide_eq_true h2]at H2
   by_cases h3:Rc.num x3
   ·rw[decide_eq_true h3]at H3
    have HOK2:=Hq (HOK.out ⟨h1,h2,h3⟩)
    clear h1 h2 h3
    go_wp2_with (first
     |(go_at_call 166;(with_reducible refine(H1.out _).mono ?_);rintro e w2 ⟨rfl,hb2⟩;have hcx2:=blkCell (blkOld HG.out hb2))
     |(go_at_call 166;(with_reducible refine(H2.out _).mono ?_);rintro e w3 ⟨rfl,hb3⟩;have hcx3:=blkCell (blkOld (blkOld HG.out hb2) hb3))
     |(go_at_call 166;(with_reducible refine(H3.out _).mono ?_);rintro e w4 ⟨rfl,hb4⟩))
    go_roundw
    case rel=>exact⟨k+1,by omega,by go_num,HOK2.out,joinB (joinB (joinB HB1.out hb2) hb3) hb4⟩
    case measure=>simp[intOf];omega
   ·rw[decide_eq_false h3]at H3
    have HZ2:=Hq (HBAD.out (fun h=>h3 h.2.2))
    clear h1 h2 h3
    go_wp2_with (first
     |(go_at_call 166;(with_reducible refine(H1.out _).mono ?_);rintro e w2 ⟨rfl,hb2⟩;have hcx2:=blkCell (blkOld HG.out hb2))
     |(go_at_call 166;(with_reducible refine(H2.out _).mono ?_);rintro e w3 ⟨rfl,hb3⟩;have hcx3:=blkCell (blkOld (blkOld HG.out hb2) hb3))
     |(go_at_call 166;(with_reducible refine(H3.out _).mono ?_);rintro e w4 ⟨rfl,hb4⟩))
    go_ret
    exact⟨by rw[HZ2.out];rfl,joinB HB0.out (joinB (joinB (joinB HB1.out hb2) hb3) hb4)⟩
  ·have hk2:¬ (k:Int)<(ts.length:Int):=by omega
   have HTX:=Hq (show ∀ x∈ts,Rc.txnR x from fun x hx=>by
    obtain⟨j,hj,rfl⟩:=List.mem_iff_getElem.1 hx
    exact HA.out j hj (by omega))
   clear HA
   obtain⟨wo,rfl⟩:=ex wr
   go_wp2_with fail
   go_loopw [5] (fun i wr=>∃ k:Nat,k≤ds.length∧i= .int .i64 (k:Int)∧(∀ j (hj:j<ds.length),j<k→Rc.dirtyR ds[j])∧Below w0.heap.size w0 wr) (fun i _=>ds.length-(intOf i).toNat)
   case atStart=>exact⟨0,Nat.zero_le _,rfl,fun _ _ h=>absurd h (by omega),hbw⟩
   case round=>
    obtain⟨m,hm,rfl,hall,hbw2⟩:=hrel
    have HA:=Hq hall
    clear hall hcb
    have hcb:=blkCell (blkOld HX0.out hbw2)
    by_cases hlt2:m<ds.length
    ·have hm2:(m:Int)<(ds.length:Int):=by omega
     have hm1:(0:Int)≤(m:Int):=by omega
     have hwm:IntKind.i64.wrap ((m:Int)+1)=(m:Int)+1:=IntWalk.i64_in _ (by omega)
     obtain⟨b1,off,rfl,hc,hbl,hcell⟩:=read_at diC_len (HD.out.below hbw2) hlt2
     have q0:=hcell 0 _ rfl
     have q1:=hcell 1 _ rfl
     simp only[Nat.add_zero]at q0
     have HBAD:=Hq (show ¬ Rc.dirtyR ds[m]→z=false from fun h=>HZ.out.trans (decide_eq_false (fun h2=>h (h2.2.2.2 _ (List.getElem_mem hlt2)))))
     have HOK:=Hq (show Rc.dirtyR ds[m]→∀ j (hj:j<ds.length),j<m+1→Rc.dirtyR ds[j]from fun h j hj hjk=>by
      rcases Nat.lt_or_eq_of_le (Nat.le_of_lt_succ hjk)with h1|h1
      ·exact HA.out j hj h1
      ·subst h1;exact h)
     clear HA hcell hc
     generalize ds[m]=x at q0 q1 HBAD HOK
     obtain⟨x1,x2⟩:=x
     have Q1:=Hq q1
     have H1:=Hq (fun W=>rpage_any x1 W)
     have H2:=Hq (fun W=>rnumber_any x2 W)
     by_cases h1:Rc.pg x1
     rotate_left
     ·rw[decide_eq_false h1]at H1
      have HZ2:=Hq (HBAD.out (fun h=>h1 h.1))
      clear h1
      go_wp2_with (go_at_call 170;(with_reducible refine(H1.out _).mono ?_);rintro e w2 ⟨rfl,hb2⟩)
      go_ret
      exact⟨by rw[HZ2.out];rfl,joinB HB0.out (joinB hbw2 hb2)⟩
     rw[decide_eq_true h1]at H1
     by_cases h2:Rc.num x2
     ·rw[decide_eq_true h2]at H2
      have HOK2:=Hq (HOK.out ⟨h1,h2⟩)
      clear h1 h2
      go_wp2_with (first
       |(go_at_call 170;(with_reducible refine(H1.out _).mono ?_);rintro e w2 ⟨rfl,hb2⟩;have hcx2:=blkCell (blkOld (blkOld HX0.out hbw2) hb2);have hq2:=(hb2.cell (p:=⟨b1,off+m*2+1,none⟩) hbl).trans Q1.out)
       |(go_at_call 166;(with_reducible refine(H2.out _).mono ?_);rintro e w3 ⟨rfl,hb3⟩))
      go_roundw
      case rel=>exact⟨m+1,by omega,by go_num,HOK2.out,joinB (joinB hbw2 hb2) hb3⟩
      case measure=>simp[intOf];omega
     ·rw[decide_eq_false h2]at H2
      have HZ2:=Hq (HBAD.out (fun h=>h2 h.2))
      clear h1 h2
      go_wp2_with (first
       |(go_at_call 170;(with_reducible refine(H1.out _).mono ?_);rintro e w2 ⟨rfl,hb2⟩;have hcx2:=blkCell (blkOld (blkOld HX0.out hbw2) hb2);have hq2:=(hb2.cell (p:=⟨b1,off+m*2+1,none⟩) hbl).trans Q1.out)
       |(go_at_call 166;(with_reducible refine(H2.out _).mono ?_);rintro e w3 ⟨rfl,hb3⟩))
      go_ret
      exact⟨by rw[HZ2.out];rfl,joinB HB0.out (joinB (joinB hbw2 hb2) hb3)⟩
    ·have hm2:¬ (m:Int)<(ds.length:Int):=by omega
     have HZ2:=Hq (show z=(decide (ts.length≤1000)&&decide (ds.length≤2000))from by
      rw[HZ.out,← Bool.decide_and]
      exact decide_eq_decide.2 ⟨fun h=>⟨h.1,h.2.1⟩,fun h=>⟨h.1,h.2,HTX.out,fun x hx=>by
       obtain⟨j,hj,rfl⟩:=List.mem_iff_getElem.1 hx
       exact HA.out j hj (by have h9:j<ds.length:=hj;omega)⟩⟩)
     by_cases h5:(ts.length:Int)≤1000
     ·have h5n:ts.length≤1000:=by omega
      go_wp2_with fail
      go_ret
      exact⟨by rw[HZ2.out];simp[h5n];try omega,joinB HB0.out hbw2⟩
     ·have h5n:¬ ts.length≤1000:=by omega
      go_wp2_with fail
      go_ret
      exact⟨by rw[HZ2.out];simp[h5n];try omega,joinB HB0.out hbw2⟩
end Go.Proofs.YtilakddepaplhaaGreat
namespace Rc
variable {lsn prev txn page next nu how root : Int} {op : Op} {e : Key} {ts : List TxnAt} {ds : List DirtyAt}
theorem r_nums {r:Rec}(h:Right r):num r.lsn∧num r.prev∧num r.txn:=(form_of h).nums
theorem r_small {kind:Int}(hk:kind=1∨kind=5∨kind=6∨kind=7)(hn:num lsn∧num prev∧num txn):
 Right ⟨lsn,prev,txn,kind,page,next,nu,op,how,root,e,ts,ds⟩↔bare kind lsn prev txn=⟨lsn,prev,txn,kind,page,next,nu,op,how,root,e,ts,ds⟩:=by
 constructor
 ·intro h
  have F:=form_of h
  have h1:=F.bare (by unfold hasChange;simp only;omega)
  have h2:=F.noTree (by simp only;omega)
  have h3:=F.noNext (by unfold hasNext;simp only;omega)
  have h4:=F.noLists (by simp only;omega)
  simp only at h1 h2 h3 h4
  obtain⟨rfl,rfl⟩:=h1
  obtain⟨rfl,rfl,rfl⟩:=h2
  obtain⟨rfl,rfl,rfl⟩:=h4
  subst h3
  rfl
 ·intro h
  rw[← h]
  exact .small kind lsn prev txn hk hn.1 hn.2.1 hn.2.2
theorem r_2 (hn:num lsn∧num prev∧num txn):
 Right ⟨lsn,prev,txn,2,page,next,nu,op,how,root,e,ts,ds⟩↔(⟨lsn,prev,txn,2,page,0,0,op,how,root,e,[],[]⟩:Rec)=⟨lsn,prev,txn,2,page,next,nu,op,how,root,e,ts,ds⟩∧pg page∧opR op∧treeR ⟨lsn,prev,txn,2,page,next,nu,op,how,root,e,ts,ds⟩:=by
 constructor
 ·intro h
  have F:=form_of h
  have h1:=F.change (by unfold hasChange;simp)
  have h2:=F.tree rfl
  have h3:=F.noNext (by unfold hasNext;simp)
  have h4:=F.noLists (by simp)
  simp only at h1 h3 h4
  obtain⟨rfl,rfl,rfl⟩:=h4
  subst h3
  exact⟨rfl,h1.1,h1.2,h2⟩
 ·rintro⟨h,h1,h2,h3⟩
  injection h with _ _ _ _ _ e1 e2 _ _ _ _ e3 e4
  subst e1 e2 e3 e4
  exact .change lsn prev txn page op how root e hn.1 hn.2.1 hn.2.2 h1 h2 h3
theorem r_3 (hn:num lsn∧num prev∧num txn):
 Right ⟨lsn,prev,txn,3,page,next,nu,op,how,root,e,ts,ds⟩↔(⟨lsn,prev,txn,3,page,next,0,op,0,0,noKey,[],[]⟩:Rec)=⟨lsn,prev,txn,3,page,next,nu,op,how,root,e,ts,ds⟩∧pg page∧opR op∧num next:=by
 constructor
 ·intro h
  have F:=form_of h
  have h1:=F.change (by unfold hasChange;simp)
  have h2:=F.noTree (by simp)
  have h3:=F.next (by unfold hasNext;simp)
  have h4:=F.noLists (by simp)
  simp only at h1 h2 h3 h4
  obtain⟨rfl,rfl,rfl⟩:=h4
  obtain⟨rfl,rfl,rfl⟩:=h2
  exact⟨rfl,h1.1,h1.2,h3⟩
 ·rintro⟨h,h1,h2,h3⟩
  injection h with _ _ _ _ _ _ e2 _ e5 e6 e7 e3 e4
  subst e2 e3 e4 e5 e6 e7
  exact .clr lsn prev txn page op next hn.1 hn.2.1 hn.2.2 h1 h2 h3
theorem r_4 (hn:num lsn∧num prev∧num txn):
 Right ⟨lsn,prev,txn,4,page,next,nu,op,how,root,e,ts,ds⟩↔(⟨lsn,prev,txn,4,0,next,0,noOp,0,0,noKey,[],[]⟩:Rec)=⟨lsn,prev,txn,4,page,next,nu,op,how,root,e,ts,ds⟩∧num next:=by
 constructor
 ·intro h
  have F:=form_of h
  have h1:=F.bare (by unfold hasChange;simp)
  have h2:=F.noTree (by simp)
  have h3:=F.next (by unfold hasNext;simp)
  have h4:=F.noLists (by simp)
  simp only at h1 h2 h3 h4
  obtain⟨rfl,rfl,rfl⟩:=h4
  obtain⟨rfl,rfl,rfl⟩:=h2
  obtain⟨rfl,rfl⟩:=h1
  exact⟨rfl,h3⟩
 ·rintro⟨h,h3⟩
  injection h with _ _ _ _ e0 _ e2 e1 e5 e6 e7 e3 e4
  subst e0 e1 e2 e3 e4 e5 e6 e7
  exact .nest lsn prev txn next hn.1 hn.2.1 hn.2.2 h3
theorem r_8 (hn:num lsn∧num prev∧num txn):
 Right ⟨lsn,prev,txn,8,page,next,nu,op,how,root,e,ts,ds⟩↔(⟨lsn,prev,txn,8,page,0,0,op,0,0,noKey,[],[]⟩:Rec)=⟨lsn,prev,txn,8,page,next,nu,op,how,root,e,ts,ds⟩∧pg page∧opR op:=by
 constructor
 ·intro h
  have F:=form_of h
  have h1:=F.change (by unfold hasChange;simp)
  have h2:=F.noTree (by simp)
  have h3:=F.noNext (by unfold hasNext;simp)
  have h4:=F.noLists (by simp)
  simp only at h1 h2 h3 h4
  obtain⟨rfl,rfl,rfl⟩:=h4
  obtain⟨rfl,rfl,rfl⟩:=h2
  subst h3
  exact⟨rfl,h1.1,h1.2⟩
 ·rintro⟨h,h1,h2⟩
  injection h with _ _ _ _ _ e1 e2 _ e5 e6 e7 e3 e4
  subst e1 e2 e3 e4 e5 e6 e7
  exact .image lsn prev txn page op hn.1 hn.2.1 hn.2.2 h1 h2
theorem r_9 (hn:num lsn∧num prev∧num txn):
 Right ⟨lsn,prev,txn,9,page,next,nu,op,how,root,e,ts,ds⟩↔(⟨lsn,prev,txn,9,0,0,nu,noOp,0,0,noKey,ts,ds⟩:Rec)=⟨lsn,prev,txn,9,page,next,nu,op,how,root,e,ts,ds⟩∧num nu∧listsR ⟨lsn,prev,txn,9,page,next,nu,op,how,root,e,ts,ds⟩:=by
 constructor
 ·intro h
  have F:=form_of h
  have h1:=F.bare (by unfold hasChange;simp)
  have h2:=F.noTree (by simp)
  have h3:=F.noNext (by unfold hasNext;simp)
  have h4:=F.lists rfl
  simp only at h1 h2 h3 h4
  obtain⟨rfl,rfl⟩:=h1
  obtain⟨rfl,rfl,rfl⟩:=h2
  subst h3
  exact⟨rfl,h4.1,h4.2⟩
 ·rintro⟨h,h1,h2⟩
  injection h with _ _ _ _ e0 e1 _ e2 e5 e6 e7 _ _
  subst e0 e1 e2 e5 e6 e7
  exact .check lsn prev txn nu ts ds hn.1 hn.2.1 hn.2.2 h1 h2
theorem r_other {r:Rec}(h:¬ (1≤r.kind∧r.kind≤9)):¬ Right r:=fun hr=>h (form_of hr).kind
end Rc
namespace Go.Proofs.YtilakddepaplhaaGreat
open Go.RowKit
theorem rsame_any (r s:Rc.Rec)(A A' B B':Option Addr)(c c' d d':Nat)(w:World)(hr:RecR w r A c B d)(hs:RecR w s A' c' B' d'):
 Calls Tryz.prog 168 #[recV r (.slice A r.txns.length c) (.slice B r.dirty.length d),recV s (.slice A' s.txns.length c') (.slice B' s.dirty.length d')] w fun e w'=>e= .returned (.bool (decide (r=s)))∧Below w.heap.size w w':=by
 have HT:=Hq (fun W hb=>rsame_txn r.txns s.txns hr.small.1 hs.small.1 A A' c c' W (hr.txns.below hb) (hs.txns.below hb))
 have HD:=Hq (fun W hb=>rsame_dirty r.dirty s.dirty hr.small.2 hs.small.2 B B' d d' W (hr.dirty.below hb) (hs.dirty.below hb))
 have ht1:=hr.small.1
 have ht2:=hs.small.1
 have hd1:=hr.small.2
 have hd2:=hs.small.2
 have HO:=Hq (fun W=>op_equal r.op s.op W)
 have HK:=Hq (fun W=>key_equal r.e s.e W)
 clear hr hs
 obtain⟨rls,rpr,rtx,rki,rpa,rne,rnu,rop,rho,rro,rek,rts,rds⟩:=r
 obtain⟨sls,spr,stx,ski,spa,sne,snu,sop,sho,sro,sek,sts,sds⟩:=s
 simp only at HT HD HO HK ht1 ht2 hd1 hd2 ⊢
 by_cases hls:rls=sls
 rotate_left
 ·rw[decide_eq_false (fun e=>hls (congrArg Rc.Rec.lsn e))]
  have nls:(rls==sls)=false:=by simp[hls]
  have mls:(rls != sls)=true:=by simp[hls]
  clear hls
  obtain⟨rk,rs,rx,ry⟩:=rop
  obtain⟨sk,ss,sx,sy⟩:=sop
  obtain⟨rek1,rek2,rek3⟩:=rek
  obtain⟨sek1,sek2,sek3⟩:=sek
  go_enter Tryz.func168,Tryz.ntmps168
  go_wp2_with fail
  go_ret
  exact⟨by simp,pastAlloc (allocB _ _)⟩
 subst hls
 by_cases hpr:rpr=spr
 rotate_left
 ·rw[decide_eq_false (fun e=>hpr (congrArg Rc.Rec.prev e))]
  have npr:(rpr==spr)=false:=by simp[hpr]
  have mpr:(rpr != spr)=true:=by simp[hpr]
  clear hpr
  obtain⟨rk,rs,rx,ry⟩:=rop
  obtain⟨sk,ss,sx,sy⟩:=sop
  obtain⟨rek1,rek2,rek3⟩:=rek
  obtain⟨sek1,sek2,sek3⟩:=sek
  go_enter Tryz.func168,Tryz.ntmps168
  go_wp2_with fail
  go_ret
  exact⟨by simp,pastAlloc (allocB _ _)⟩
 subst hpr
 by_cases htx:rtx=stx
 rotate_left
 ·rw[decide_eq_false (fun e=>htx (congrArg Rc.Rec.txn e))]
  have ntx:(rtx==stx)=false:=by simp[htx]
  have mtx:(rtx != stx)=true:=by simp[htx]
  clear htx
  obtain⟨rk,rs,rx,ry⟩:=rop
  obtain⟨sk,ss,sx,sy⟩:=sop
  obtain⟨rek1,rek2,rek3⟩:=rek
  obtain⟨sek1,sek2,sek3⟩:=sek
  go_enter Tryz.func168,Tryz.ntmps168
  go_wp2_with fail
  go_ret
  exact⟨by simp,pastAlloc (allocB _ _)⟩
 subst htx
 by_cases hki:rki=ski
 rotate_left
 ·rw[decide_eq_false (fun e=>hki (congrArg Rc.Rec.kind e))]
  have nki:(rki==ski)=false:=by simp[hki]
  have mki:(rki != ski)=true:=by simp[hki]
  clear hki
  obtain⟨rk,rs,rx,ry⟩:=rop
  obtain⟨sk,ss,sx,sy⟩:=sop
  obtain⟨rek1,rek2,rek3⟩:=rek
  obtain⟨sek1,sek2,sek3⟩:=sek
  go_enter Tryz.func168,Tryz.ntmps168
  go_wp2_with fail
  go_ret
  exact⟨by simp,pastAlloc (allocB _ _)⟩
 subst hki
 by_cases hpa:rpa=spa
 rotate_left
 ·rw[decide_eq_false (fun e=>hpa (congrArg Rc.Rec.page e))]
  have npa:(rpa==spa)=false:=by simp[hpa]
  have mpa:(rpa != spa)=true:=by simp[hpa]
  clear hpa
  obtain⟨rk,rs,rx,ry⟩:=rop
  obtain⟨sk,ss,sx,sy⟩:=sop
  obtain⟨rek1,rek2,rek3⟩:=rek
  obtain⟨sek1,sek2,sek3⟩:=sek
  go_enter Tryz.func168,Tryz.ntmps168
  go_wp2_with fail
  go_ret
  exact⟨by simp,pastAlloc (allocB _ _)⟩
 subst hpa
 by_cases hne:rne=sne
 rotate_left
 ·rw[decide_eq_false (fun e=>hne (congrArg Rc.Rec.next e))]
  have nne:(rne==sne)=false:=by simp[hne]
  have mne:(rne != sne)=true:=by simp[hne]
  clear hne
  obtain⟨rk,rs,rx,ry⟩:=rop
  obtain⟨sk,ss,sx,sy⟩:=sop
  obtain⟨rek1,rek2,rek3⟩:=rek
  obtain⟨sek1,sek2,sek3⟩:=sek
  go_enter Tryz.func168,Tryz.ntmps168
  go_wp2_with fail
  go_ret
  exact⟨by simp,pastAlloc (allocB _ _)⟩
 subst hne
 by_cases hnu:rnu=snu
 rotate_left
 ·rw[decide_eq_false (fun e=>hnu (congrArg Rc.Rec.num e))]
  have nnu:(rnu==snu)=false:=by simp[hnu]
  have mnu:(rnu != snu)=true:=by simp[hnu]
  clear hnu
  obtain⟨rk,rs,rx,ry⟩:=rop
  obtain⟨sk,ss,sx,sy⟩:=sop
  obtain⟨rek1,rek2,rek3⟩:=rek
  obtain⟨sek1,sek2,sek3⟩:=sek
  go_enter Tryz.func168,Tryz.ntmps168
  go_wp2_with fail
  go_ret
  exact⟨by simp,pastAlloc (allocB _ _)⟩
 subst hnu
 cases hop:decide (rop=sop)with
 |false=>
  rw[decide_eq_false (fun e=>of_decide_eq_false hop (congrArg Rc.Rec.op e))]
  have eop:=HO.out
  rw[hop]at eop
  clear hop
  obtain⟨rk,rs,rx,ry⟩:=rop
  obtain⟨sk,ss,sx,sy⟩:=sop
  obtain⟨rek1,rek2,rek3⟩:=rek
  obtain⟨sek1,sek2,sek3⟩:=sek
  go_enter Tryz.func168,Tryz.ntmps168
  go_wp2_with fail
  go_ret
  exact⟨by simp,pastAlloc (allocB _ _)⟩
 |true=>
 have eop:=HO.out
 rw[hop]at eop
 have Dop:=Hq (of_decide_eq_true hop)
 clear hop HO
 by_cases hho:rho=sho
 rotate_left
 ·rw[decide_eq_false (fun e=>hho (congrArg Rc.Rec.how e))]
  have nho:(rho==sho)=false:=by simp[hho]
  have mho:(rho != sho)=true:=by simp[hho]
  clear hho
  obtain⟨rk,rs,rx,ry⟩:=rop
  obtain⟨sk,ss,sx,sy⟩:=sop
  obtain⟨rek1,rek2,rek3⟩:=rek
  obtain⟨sek1,sek2,sek3⟩:=sek
  go_enter Tryz.func168,Tryz.ntmps168
  go_wp2_with fail
  go_ret
  exact⟨by simp,pastAlloc (allocB _ _)⟩
 subst hho
 by_cases hro:rro=sro
 rotate_left
 ·rw[decide_eq_false (fun e=>hro (congrArg Rc.Rec.root e))]
  have nro:(rro==sro)=false:=by simp[hro]
  have mro:(rro != sro)=true:=by simp[hro]
  clear hro
  obtain⟨rk,rs,rx,ry⟩:=rop
  obtain⟨sk,ss,sx,sy⟩:=sop
  obtain⟨rek1,rek2,rek3⟩:=rek
  obtain⟨sek1,sek2,sek3⟩:=sek
  go_enter Tryz.func168,Tryz.ntmps168
  go_wp2_with fail
  go_ret
  exact⟨by simp,pastAlloc (allocB _ _)⟩
 subst hro
 cases hek:decide (rek=sek)with
 |false=>
  rw[decide_eq_false (fun e=>of_decide_eq_false hek (congrArg Rc.Rec.e e))]
  have eek:=HK.out
  rw[hek]at eek
  clear hek
  obtain⟨rk,rs,rx,ry⟩:=rop
  obtain⟨sk,ss,sx,sy⟩:=sop
  obtain⟨rek1,rek2,rek3⟩:=rek
  obtain⟨sek1,sek2,sek3⟩:=sek
  go_enter Tryz.func168,Tryz.ntmps168
  go_wp2_with fail
  go_ret
  exact⟨by simp,pastAlloc (allocB _ _)⟩
 |true=>
 have eek:=HK.out
 rw[hek]at eek
 have Dek:=Hq (of_decide_eq_true hek)
 clear hek HK
 cases hts':decide (rts=sts)with
 |false=>
  have Dts:=Hq hts'
  rw[decide_eq_false (fun e=>of_decide_eq_false hts' (congrArg Rc.Rec.txns e))]
  clear hts'
  obtain⟨rk,rs,rx,ry⟩:=rop
  obtain⟨sk,ss,sx,sy⟩:=sop
  obtain⟨rek1,rek2,rek3⟩:=rek
  obtain⟨sek1,sek2,sek3⟩:=sek
  go_enter Tryz.func168,Tryz.ntmps168
  go_wp2_with (first|(go_at_call 16;(with_reducible refine(HT.out _ ?_).mono ?_);(exact pastAlloc (allocB _ _));rintro e w2 ⟨rfl,hb2⟩;have hx1:=blkOld (new21 _ _ _) hb2;have hx2:=blkOld (new2 _ _ _) hb2;have q1:=blkCell hx1 17;have q2:=blkCell hx2 17;clear hx1 hx2;simp at q1 q2;rw[Dts.out]))
  go_ret
  exact⟨by simp,joinB (pastAlloc (allocB _ _)) hb2⟩
 |true=>
 have Bts:=Hq hts'
 have Dts:=Hq (of_decide_eq_true hts')
 clear hts'
 cases hds':decide (rds=sds)with
 |false=>
  have Dds:=Hq hds'
  rw[decide_eq_false (fun e=>of_decide_eq_false hds' (congrArg Rc.Rec.dirty e))]
  clear hds'
  obtain⟨rk,rs,rx,ry⟩:=rop
  obtain⟨sk,ss,sx,sy⟩:=sop
  obtain⟨rek1,rek2,rek3⟩:=rek
  obtain⟨sek1,sek2,sek3⟩:=sek
  go_enter Tryz.func168,Tryz.ntmps168
  go_wp2_with (first|(go_at_call 16;(with_reducible refine(HT.out _ ?_).mono ?_);(exact pastAlloc (allocB _ _));rintro e w2 ⟨rfl,hb2⟩;have hx1:=blkOld (new21 _ _ _) hb2;have hx2:=blkOld (new2 _ _ _) hb2;have q1:=blkCell hx1 17;have q2:=blkCell hx2 17;clear hx1 hx2;simp at q1 q2;rw[Bts.out])|(go_at_call 17;(with_reducible refine(HD.out _ ?_).mono ?_);(exact joinB (pastAlloc (allocB _ _)) hb2);rintro e w3 ⟨rfl,hb3⟩;rw[Dds.out]))
  go_ret
  exact⟨by simp,joinB (joinB (pastAlloc (allocB _ _)) hb2) hb3⟩
 |true=>
 have Bds:=Hq hds'
 have Dds:=Hq (of_decide_eq_true hds')
 clear hds'
 rw[decide_eq_true (by rw[Dop.out,Dek.out,Dts.out,Dds.out])]
 clear Dop Dek Dts Dds
 obtain⟨rk,rs,rx,ry⟩:=rop
 obtain⟨sk,ss,sx,sy⟩:=sop
 obtain⟨rek1,rek2,rek3⟩:=rek
 obtain⟨sek1,sek2,sek3⟩:=sek
 go_enter Tryz.func168,Tryz.ntmps168
 go_wp2_with (first|(go_at_call 16;(with_reducible refine(HT.out _ ?_).mono ?_);(exact pastAlloc (allocB _ _));rintro e w2 ⟨rfl,hb2⟩;have hx1:=blkOld (new21 _ _ _) hb2;have hx2:=blkOld (new2 _ _ _) hb2;have q1:=blkCell hx1 17;have q2:=blkCell hx2 17;clear hx1 hx2;simp at q1 q2;rw[Bts.out])|(go_at_call 17;(with_reducible refine(HD.out _ ?_).mono ?_);(exact joinB (pastAlloc (allocB _ _)) hb2);rintro e w3 ⟨rfl,hb3⟩;rw[Bds.out]))
 go_ret
 exact⟨by simp,joinB (joinB (pastAlloc (allocB _ _)) hb2) hb3⟩
end Go.Proofs.YtilakddepaplhaaGreat
