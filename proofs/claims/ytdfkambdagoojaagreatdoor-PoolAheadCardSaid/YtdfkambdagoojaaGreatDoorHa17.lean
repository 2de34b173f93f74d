import Derived.Test.YtdfkambdagoojaaGreatDoorHa00
import Derived.Test.YtdfkambdagoojaaGreatDoorHa06
import Derived.Test.YtdfkambdagoojaaGreatDoorHa01
import Derived.Test.YtdfkambdagoojaaGreatDoorHa08
set_option maxRecDepth 100000
set_option maxHeartbeats 16000000
set_option linter.unusedSimpArgs false
namespace Go.Proofs.YtdfkambdagoojaaGreatDoor
open Go.RowKit
theorem rsmall_any (n b:Int)(w:World):
 Calls Tryz.prog 198 #[n,b] w fun e w'=>e= .returned (.bool (decide (0≤n∧n<b)))∧Below w.heap.size w w':=by
 by_cases h0:0≤n
 ·by_cases h1:n<b
  ·rw[decide_eq_true (And.intro h0 h1)]
   go_enter Tryz.func198,Tryz.ntmps198
   go_wp2_with fail
   go_ret
   exact⟨by simp,Below.refl _ _⟩
  ·rw[decide_eq_false (fun h:0≤n∧n<b=>h1 h.2)]
   go_enter Tryz.func198,Tryz.ntmps198
   go_wp2_with fail
   go_ret
   exact⟨by simp,Below.refl _ _⟩
 ·rw[decide_eq_false (fun h:0≤n∧n<b=>h0 h.1)]
  go_enter Tryz.func198,Tryz.ntmps198
  go_wp2_with fail
  go_ret
  exact⟨by simp,Below.refl _ _⟩
theorem rnumber_any (n:Int)(w:World):
 Calls Tryz.prog 152 #[n] w fun e w'=>e= .returned (.bool (decide (Rc.num n)))∧Below w.heap.size w w':=by
 have HC:=Hq (fun W=>by(have h:=rsmall_any n 1099511627776 W);rw[show decide (0≤n∧n<1099511627776)=decide (Rc.num n)from decide_eq_decide.2 Iff.rfl]at h;exact h)
 go_enter Tryz.func152,Tryz.ntmps152
 go_wp2_with (go_at_call 198;(with_reducible refine(HC.out _).mono ?_);rintro e w2 ⟨rfl,hb2⟩)
 go_ret
 exact⟨rfl,hb2⟩
theorem rpage_any (n:Int)(w:World):
 Calls Tryz.prog 156 #[n] w fun e w'=>e= .returned (.bool (decide (Rc.pg n)))∧Below w.heap.size w w':=by
 have HC:=Hq (fun W=>by(have h:=rsmall_any n 8388608 W);rw[show decide (0≤n∧n<8388608)=decide (Rc.pg n)from decide_eq_decide.2 Iff.rfl]at h;exact h)
 go_enter Tryz.func156,Tryz.ntmps156
 go_wp2_with (go_at_call 198;(with_reducible refine(HC.out _).mono ?_);rintro e w2 ⟨rfl,hb2⟩)
 go_ret
 exact⟨rfl,hb2⟩
theorem rslot_any (n:Int)(w:World):
 Calls Tryz.prog 202 #[n] w fun e w'=>e= .returned (.bool (decide (Rc.sl n)))∧Below w.heap.size w w':=by
 have HC:=Hq (fun W=>by(have h:=rsmall_any n 32768 W);rw[show decide (0≤n∧n<32768)=decide (Rc.sl n)from decide_eq_decide.2 Iff.rfl]at h;exact h)
 go_enter Tryz.func202,Tryz.ntmps202
 go_wp2_with (go_at_call 198;(with_reducible refine(HC.out _).mono ?_);rintro e w2 ⟨rfl,hb2⟩)
 go_ret
 exact⟨rfl,hb2⟩
theorem rop_any (o:Rc.Op)(w:World):
 Calls Tryz.prog 157 #[opV o] w fun e w'=>e= .returned (.bool (decide (Rc.opR o)))∧Below w.heap.size w w':=by
 obtain⟨k,s,o,n⟩:=o
 by_cases h0:1≤k
 rotate_left
 ·have g0:k<1:=by omega
  clear h0
  rw[show decide (Rc.opR ⟨k,s,o,n⟩)=false from decide_eq_false (fun h=>by obtain⟨h1,h2,h3,h4,h5⟩:=h;simp only at h1 h2 h3 h4 h5;omega)]
  go_enter Tryz.func157,Tryz.ntmps157
  go_wp2_with fail
  go_ret
  exact⟨by simp[*],allocB _ _⟩
 by_cases h1:k≤7
 rotate_left
 ·have g1:7<k:=by omega
  clear h1
  rw[show decide (Rc.opR ⟨k,s,o,n⟩)=false from decide_eq_false (fun h=>by obtain⟨h1,h2,h3,h4,h5⟩:=h;simp only at h1 h2 h3 h4 h5;omega)]
  go_enter Tryz.func157,Tryz.ntmps157
  go_wp2_with fail
  go_ret
  exact⟨by simp[*],allocB _ _⟩
 cases hs:decide (Rc.sl s)with
 |false=>
  rw[show decide (Rc.opR ⟨k,s,o,n⟩)=false from decide_eq_false (fun h=>by obtain⟨h1,h2,h3,h4,h5⟩:=h;simp only at h1 h2 h3 h4 h5;exact of_decide_eq_false hs h3)]
  have hS:=Hq hs
  clear hs
  go_enter Tryz.func157,Tryz.ntmps157
  go_wp2_with (first|(go_at_call 202;(with_reducible refine(rslot_any s _).mono ?_);rintro e w2 ⟨rfl,hb2⟩;rw[hS.out];have hx:=blkOld (heap_alloc_new w _) hb2;have h22:=blkCell hx 2;have h33:=blkCell hx 3;clear hx;simp at h22 h33))
  go_ret
  exact⟨by simp[*],joinB (allocB _ _) hb2⟩
 |true=>
 have hS:=Hq hs
 have hS2:=Hq (of_decide_eq_true hs)
 clear hs
 by_cases h3:(o.size:Int)≤512
 rotate_left
 ·have g3:512<(o.size:Int):=by omega
  clear h3
  rw[show decide (Rc.opR ⟨k,s,o,n⟩)=false from decide_eq_false (fun h=>by obtain⟨h1,h2,h3,h4,h5⟩:=h;simp only at h1 h2 h3 h4 h5;omega)]
  go_enter Tryz.func157,Tryz.ntmps157
  go_wp2_with (first|(go_at_call 202;(with_reducible refine(rslot_any s _).mono ?_);rintro e w2 ⟨rfl,hb2⟩;rw[hS.out];have hx:=blkOld (heap_alloc_new w _) hb2;have h22:=blkCell hx 2;have h33:=blkCell hx 3;clear hx;simp at h22 h33))
  go_ret
  exact⟨by simp[*],joinB (allocB _ _) hb2⟩
 by_cases h4:(n.size:Int)≤512
 rotate_left
 ·have g4:512<(n.size:Int):=by omega
  clear h4
  rw[show decide (Rc.opR ⟨k,s,o,n⟩)=false from decide_eq_false (fun h=>by obtain⟨h1,h2,h3,h4,h5⟩:=h;simp only at h1 h2 h3 h4 h5;omega)]
  go_enter Tryz.func157,Tryz.ntmps157
  go_wp2_with (first|(go_at_call 202;(with_reducible refine(rslot_any s _).mono ?_);rintro e w2 ⟨rfl,hb2⟩;rw[hS.out];have hx:=blkOld (heap_alloc_new w _) hb2;have h22:=blkCell hx 2;have h33:=blkCell hx 3;clear hx;simp at h22 h33))
  go_ret
  exact⟨by simp[*],joinB (allocB _ _) hb2⟩
 rw[show decide (Rc.opR ⟨k,s,o,n⟩)=true from decide_eq_true ⟨by assumption,by assumption,hS2.out,by show o.size≤512;omega,by show n.size≤512;omega⟩]
 go_enter Tryz.func157,Tryz.ntmps157
 go_wp2_with (first|(go_at_call 202;(with_reducible refine(rslot_any s _).mono ?_);rintro e w2 ⟨rfl,hb2⟩;rw[hS.out];have hx:=blkOld (heap_alloc_new w _) hb2;have h22:=blkCell hx 2;have h33:=blkCell hx 3;clear hx;simp at h22 h33))
 go_ret
 exact⟨by simp[*],joinB (allocB _ _) hb2⟩
theorem rentry_any (e0:Rc.Key)(w:World):
 Calls Tryz.prog 201 #[keyV e0] w fun e w'=>e= .returned (.bool (decide (e0.key.size≤100∧Rc.pg e0.page∧Rc.sl e0.slot)))∧Below w.heap.size w w':=by
 obtain⟨k,p,s⟩:=e0
 dsimp only
 by_cases h0:(k.size:Int)≤100
 ·have h0n:k.size≤100:=by omega
  have HP:=Hq (fun W=>rpage_any p W)
  have HS:=Hq (fun W=>rslot_any s W)
  by_cases hp:Rc.pg p
  ·rw[decide_eq_true hp]at HP
   by_cases hs:Rc.sl s
   ·rw[decide_eq_true hs]at HS
    rw[decide_eq_true (show k.size≤100∧Rc.pg p∧Rc.sl s from⟨h0n,hp,hs⟩)]
    clear hp hs
    go_enter Tryz.func201,Tryz.ntmps201
    go_wp2_with (first
     |(go_at_call 156;(with_reducible refine(HP.out _).mono ?_);rintro e w2 ⟨rfl,hb2⟩;have hx:=blkCell (blkOld (heap_alloc_new w _) hb2))
     |(go_at_call 202;(with_reducible refine(HS.out _).mono ?_);rintro e w3 ⟨rfl,hb3⟩))
    go_ret
    exact⟨rfl,joinB (joinB (allocB _ _) hb2) hb3⟩
   ·rw[decide_eq_false hs]at HS
    rw[decide_eq_false (show ¬ (k.size≤100∧Rc.pg p∧Rc.sl s)from fun h=>hs h.2.2)]
    clear hp hs
    go_enter Tryz.func201,Tryz.ntmps201
    go_wp2_with (first
     |(go_at_call 156;(with_reducible refine(HP.out _).mono ?_);rintro e w2 ⟨rfl,hb2⟩;have hx:=blkCell (blkOld (heap_alloc_new w _) hb2))
     |(go_at_call 202;(with_reducible refine(HS.out _).mono ?_);rintro e w3 ⟨rfl,hb3⟩))
    go_ret
    exact⟨rfl,joinB (joinB (allocB _ _) hb2) hb3⟩
  ·rw[decide_eq_false hp]at HP
   rw[decide_eq_false (show ¬ (k.size≤100∧Rc.pg p∧Rc.sl s)from fun h=>hp h.2.1)]
   clear hp
   go_enter Tryz.func201,Tryz.ntmps201
   go_wp2_with (go_at_call 156;(with_reducible refine(HP.out _).mono ?_);rintro e w2 ⟨rfl,hb2⟩)
   go_ret
   exact⟨rfl,joinB (allocB _ _) hb2⟩
 ·have h0n:100<(k.size:Int):=by omega
  rw[decide_eq_false (show ¬ (k.size≤100∧Rc.pg p∧Rc.sl s)from fun h=>by have:=h.1;omega)]
  go_enter Tryz.func201,Tryz.ntmps201
  go_wp2_with fail
  go_ret
  exact⟨by simp,allocB _ _⟩
end Go.Proofs.YtdfkambdagoojaaGreatDoor
namespace Rc
def tB (s:ByteArray):ByteArray:=⟨(t s).toArray⟩
theorem tB_size (s:ByteArray):(tB s).size=2+s.size:=by
 unfold tB
 show(t s).toArray.size=_
 rw[List.size_toArray]
 unfold t
 rw[List.length_append,p_length];simp
theorem tB_eq (s:ByteArray)(_h:s.size≤65535):Oct.putB s.size 2++s=tB s:=by
 apply ByteArray.ext
 rw[ByteArray.data_append]
 apply Array.toList_inj.1
 rw[Array.toList_append,show Oct.putB (s.size:Int) 2=Oct.putB (s.size:Int) ((2:Nat):Int)from rfl,Oct.putB_list _ _ (by omega)]
 unfold tB t p
 rfl
end Rc
namespace Go.Proofs.YtdfkambdagoojaaGreatDoor
open Go.RowKit
theorem rputtext_any (s:ByteArray)(hs:s.size≤65535)(w:World):
 Calls Tryz.prog 160 #[s] w fun e w'=>e= .returned (.string (Rc.tB s))∧Below w.heap.size w w':=by
 have HP:=Hq (fun W=>rput_any (s.size:Int) 2 (by omega) (by omega) W)
 have HE:=Hq (Rc.tB_eq s hs)
 have hz:(Oct.putB (s.size:Int) ((2:Nat):Int)).size=2:=Oct.putB_size _ 2 (by omega)
 have hz2:(Oct.putB (s.size:Int) 2).size=2:=hz
 have h1:¬ (65535:Int)<(s.size:Int):=by omega
 have hadd:∀ W:World,(Op.stringOp .add (Oct.putB (s.size:Int) 2) s).run Tryz.prog W= .ok (.string (Rc.tB s)) W:=fun W=>by
  rw[← HE.out];exact run_string_add_sum W _ _ (by rw[hz2];omega)
 go_enter Tryz.func160,Tryz.ntmps160
 go_wp2_with (go_at_call 83;(with_reducible refine(HP.out _).mono ?_);rintro e w2 ⟨rfl,hb2⟩)
 go_ret
 exact⟨rfl,hb2⟩
theorem ropb_any (o:Rc.Op)(h1:o.old.size≤65535)(h2:o.new.size≤65535)(w:World):
 Calls Tryz.prog 159 #[opV o] w fun e w'=>e= .returned (.string ⟨(Rc.opB o).toArray⟩)∧Below w.heap.size w w':=by
 obtain⟨k,sl,oo,on⟩:=o
 dsimp only at h1 h2 ⊢
 have HP1:=Hq (fun W=>rput_any k 1 (by omega) (by omega) W)
 have HP2:=Hq (fun W=>rput_any sl 2 (by omega) (by omega) W)
 have HT1:=Hq (fun W=>rputtext_any oo h1 W)
 have HT2:=Hq (fun W=>rputtext_any on h2 W)
 have z1:(Oct.putB k ((1:Nat):Int)).size=1:=Oct.putB_size _ 1 (by omega)
 have z2:(Oct.putB sl ((2:Nat):Int)).size=2:=Oct.putB_size _ 2 (by omega)
 have z3:=Rc.tB_size oo
 have z4:=Rc.tB_size on
 have HE:=Hq (show Oct.putB k 1++Oct.putB sl 2++Rc.tB oo++Rc.tB on=⟨(Rc.opB ⟨k,sl,oo,on⟩).toArray⟩from by
  apply ByteArray.ext
  rw[ByteArray.data_append,ByteArray.data_append,ByteArray.data_append]
  apply Array.toList_inj.1
  rw[Array.toList_append,Array.toList_append,Array.toList_append,show Oct.putB k 1=Oct.putB k ((1:Nat):Int)from rfl,show Oct.putB sl 2=Oct.putB sl ((2:Nat):Int)from rfl,Oct.putB_list _ 1 (by omega),Oct.putB_list _ 2 (by omega)]
  unfold Rc.opB Rc.tB Rc.p
  simp only[List.append_assoc])
 rw[← HE.out]
 clear HE
 have y1:(Oct.putB k 1).size=1:=z1
 have y2:(Oct.putB sl 2).size=2:=z2
 clear z1 z2
 generalize Oct.putB k 1=B1 at HP1 y1 ⊢
 generalize Oct.putB sl 2=B2 at HP2 y2 ⊢
 generalize Rc.tB oo=B3 at HT1 z3 ⊢
 generalize Rc.tB on=B4 at HT2 z4 ⊢
 have a1:∀ W:World,(Op.stringOp .add B1 B2).run Tryz.prog W= .ok (.string (B1++B2)) W:=fun W=>run_string_add_sum W _ _ (by omega)
 have y3:(B1++B2).size=3:=by rw[ByteArray.size_append];omega
 generalize B1++B2=C1 at a1 y3 ⊢
 have a2:∀ W:World,(Op.stringOp .add C1 B3).run Tryz.prog W= .ok (.string (C1++B3)) W:=fun W=>run_string_add_sum W _ _ (by omega)
 have y4:(C1++B3).size=3+B3.size:=by rw[ByteArray.size_append];omega
 generalize C1++B3=C2 at a2 y4 ⊢
 have a3:∀ W:World,(Op.stringOp .add C2 B4).run Tryz.prog W= .ok (.string (C2++B4)) W:=fun W=>run_string_add_sum W _ _ (by omega)
 generalize C2++B4=C3 at a3 ⊢
 clear y1 y2 y3 y4 z3 z4 h1 h2
 have HX:=Hq (heap_alloc_new w (.cells #[k,sl,oo,on] 40))
 have HB:=Hq (allocB w (.cells #[k,sl,oo,on] 40))
 go_enter Tryz.func159,Tryz.ntmps159
 go_upto_region 1 with fail
 obtain⟨g,hg⟩:=ex w.heap.size
 obtain⟨W0,hW0⟩:=ex (w.alloc (.cells #[k,sl,oo,on] 40))
 rw[← hg,← hW0]at HX
 rw[← hW0]at HB
 rw[← hg,← hW0]
 clear hg hW0
 have X0:=blkOld HX.out (Below.refl _ W0).drew
 have B0:=joinB HB.out (Below.refl _ W0).drew
 refine rgH (S:=(fun u=>u.heap[g]? =some (.cells #[k,sl,oo,on] 40 (0,0)))) (fun hHeld=>?_)
 refine tkP 0 ?_;refine tkP 1 ?_;refine tkP 3 ?_;refine tkP 4 ?_;refine tkP 7 ?_;refine tkP 8 ?_;refine tkP 11 ?_;refine tkP 12 ?_
 refine rdP 2 fun K hK=>?_
 go_simp
 refine(HP1.out _).mono ?_;rintro e v1 ⟨rfl,hb⟩;have X1:=blkOld X0 hb;have B1:=joinB B0 hb;try clear hSn
 have hSn:=X1
 clear hb
 refine hKo hK (fun hHeld=>?_)
 clear hK K
 refine rdP 5 fun K hK=>?_
 go_simp
 refine(HP2.out _).mono ?_;rintro e v2 ⟨rfl,hb⟩;have X2:=blkOld X1 hb;have B2:=joinB B1 hb;try clear hSn
 have hSn:=X2
 clear hb
 refine hKo hK (fun hHeld=>?_)
 clear hK K
 refine tkP 6 ?_
 refine rdP 9 fun K hK=>?_
 go_simp
 refine(HT1.out _).mono ?_;rintro e v3 ⟨rfl,hb⟩;have X3:=blkOld X2 hb;have B3:=joinB B2 hb;try clear hSn
 have hSn:=X3
 clear hb
 refine hKo hK (fun hHeld=>?_)
 clear hK K
 refine tkP 10 ?_
 refine rdP 13 fun K hK=>?_
 go_simp
 refine(HT2.out _).mono ?_;rintro e v4 ⟨rfl,hb⟩;have X4:=blkOld X3 hb;have B4:=joinB B3 hb;try clear hSn
 have hSn:=X4
 clear hb
 refine hKo hK (fun hHeld=>?_)
 clear hK K
 refine tkP 14 ?_;refine tkP 15 ?_
 refine wpAnyH_done Kr ?_ _
 clear hHeld hSn
 go_wp2_with fail
 go_ret
 exact⟨rfl,B4⟩
end Go.Proofs.YtdfkambdagoojaaGreatDoor
namespace Rc
def mk (l:List UInt8):ByteArray:=⟨l.toArray⟩
theorem mk_size (l:List UInt8):(mk l).size=l.length:=by unfold mk;show l.toArray.size=_;simp
theorem mk_app (a b:List UInt8):mk a++mk b=mk (a++b):=by
 apply ByteArray.ext
 rw[ByteArray.data_append]
 unfold mk
 simp
theorem put_mk (n:Int)(k:Nat)(hk:k≤8):Oct.putB n (k:Int)=mk (p n k):=by
 apply ByteArray.ext
 apply Array.toList_inj.1
 rw[Oct.putB_list _ _ hk]
 rfl
end Rc
namespace Go.Proofs.YtdfkambdagoojaaGreatDoor
open Go.RowKit
theorem rput_mk (n:Int)(k:Nat)(hk:k≤8)(w:World):
 Calls Tryz.prog 83 #[n,.int .i64 (k:Int)] w fun e w'=>e= .returned (.string (Rc.mk (Rc.p n k)))∧Below w.heap.size w w':=by
 rw[← Rc.put_mk n k hk]
 exact rput_any n k (by omega) (by omega) w
theorem add_mk (a b:List UInt8)(h:a.length+b.length≤1000000)(W:World):(Op.stringOp .add (Rc.mk a) (Rc.mk b)).run Tryz.prog W= .ok (.string (Rc.mk (a++b))) W:=by
 rw[← Rc.mk_app]
 exact run_string_add_sum W _ _ (by rw[Rc.mk_size,Rc.mk_size];omega)
end Go.Proofs.YtdfkambdagoojaaGreatDoor
