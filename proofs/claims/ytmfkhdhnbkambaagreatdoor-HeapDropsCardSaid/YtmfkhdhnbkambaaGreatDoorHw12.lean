import Derived.Test.YtmfkhdhnbkambaaGreatDoorHw00
import Derived.Test.YtmfkhdhnbkambaaGreatDoorHw01
import Derived.Lib.ConvBytes
import Derived.Lib.AppendStr
import Derived.Lib.FrozenHead
import Derived.Deep.MidRow
import Derived.Lib.LazyBuf
import Derived.Test.YtmfkhdhnbkambaaGreatDoorHw05
import Derived.Test.YtmfkhdhnbkambaaGreatDoorHw06
import Derived.Test.YtmfkhdhnbkambaaGreatDoorHw04
set_option maxRecDepth 100000
set_option maxHeartbeats 16000000
set_option linter.unusedSimpArgs false
namespace Go.Proofs.YtmfkhdhnbkambaaGreatDoor
open Go.RowKit
def Lv (B:Nat)(w:World)(v:Value)(l:List UInt8):Prop:=
 ∃ g cap,v= .slice (some ⟨g,0,none⟩) l.length cap∧B≤g∧g<w.heap.size∧l.length≤cap∧cap≤maxLen∧
  (∀ j,j<cap→(w.cell? ⟨g,j,none⟩).isSome=true∧w.frozen? ⟨g,j,none⟩=false)∧∀ (j:Nat) (hj:j<l.length),w.cell? ⟨g,j,none⟩=some (.int .u8 (l[j].toNat:Int))
theorem Lv.below {B:Nat}{w w':World}{v:Value}{l:List UInt8}(h:Lv B w v l)(a:Bw w w'):Lv B w' v l:=by
 obtain⟨g,cap,d,e,b,f,i,k,m⟩:=h;refine⟨g,cap,d,e,Nat.lt_of_lt_of_le b a.size,f,i,fun j c=>?_,fun j c=>?_⟩
 ·rw[a.cell (p:=⟨g,j,none⟩) b,a.frozen (p:=⟨g,j,none⟩) b];exact k j c
 ·rw[a.cell (p:=⟨g,j,none⟩) b];exact m j c
theorem Lv.mono {B a:Nat}{w:World}{v:Value}{l:List UInt8}(h:Lv B w v l)(b:a≤B):Lv a w v l:=by
 obtain⟨g,cap,c,d,e⟩:=h;exact⟨g,cap,c,Nat.le_trans b d,e⟩
theorem lC (w:World)(s:ByteArray)(g:s.size≤1000000):Lv w.heap.size (Lib.bytesWorld w 5 s) (.slice (some ⟨w.heap.size,0,none⟩) s.size (grownCap w s.size 0 5)) s.data.toList:=by
 have a:s.data.toList.length=s.size:=by simp
 have c:=grownCap_ge w s.size 0 5;have d:=grownCap_le_maxLen w s.size 0 5 (by simp only[maxLen];omega);have b:(Lib.bytesCells w 5 s).size=grownCap w s.size 0 5:=by
  unfold Lib.bytesCells;rw[Array.size_append,Array.size_map,Array.size_replicate]
  show s.size+_=_
  omega
 have f:=Lib.bytesWorld_at_new w 5 s;refine⟨w.heap.size,_,by rw[a],Nat.le_refl _,by rw[Lib.bytesWorld_size];omega,by rw[a];exact c,d,fun j e=>⟨?_,?_⟩,fun j e=>?_⟩
 ·unfold World.cell?
  rw[f];simp only;rw[Array.getElem?_eq_getElem (by rw[b];exact e)]
  rfl
 ·unfold World.frozen?
  rw[f];simp only[Bool.and_eq_false_iff,decide_eq_false_iff_not]
  left
  rw[b];omega
 ·rw[Lib.bytesWorld_cell w 5 s j (by omega)]
  rw[List.getD_eq_getElem?_getD,List.getElem?_eq_getElem e,Option.getD_some]
theorem Lv.back {P:Program}{B:Nat}{w:World}{v:Value}{l:List UInt8}(h:Lv B w v l){t u e:TypeId}(a:P.underlying t=some (.slice e))(b:P.underlying e=some (.int .u8))(c:P.underlying u=some .string):
 (convert t u v).run P w= .ok (.string ⟨l.toArray⟩) w:=by
 obtain⟨g,cap,rfl,_,i,_,_,_,d⟩:=h;exact run_convert_bytes_back w t u e ⟨g,0,none⟩ cap l a b c (fun j f=>by rw[Addr.add_mid,Nat.zero_add];exact d j f)
theorem Lv.set {B:Nat}{w:World}{v:Value}{l:List UInt8}(h:Lv B w v l):∃ g c,v= .slice (some ⟨g,0,none⟩) l.length c∧B≤g∧∀ i (hi:i<l.length),w.cell? ⟨g,i,none⟩=some (.int .u8 (l[i].toNat:Int))∧w.frozen? ⟨g,i,none⟩=false∧
 ∀ y:UInt8,Lv B (w.setCell ⟨g,i,none⟩ (.int .u8 (y.toNat:Int))) v (l.set i y)∧Below B w (w.setCell ⟨g,i,none⟩ (.int .u8 (y.toNat:Int))):=by
 obtain⟨g,cap,k,b,o,q,r,d,f⟩:=h;refine⟨g,cap,k,b,fun i hi=>⟨f i hi,(d i (by omega)).2,fun y=>⟨?_,(show Below B w w from⟨rfl,rfl,rfl,Nat.le_refl _,fun _ _=>rfl⟩).setCell (p:=⟨g,i,none⟩) b _⟩⟩⟩;have m:(w.setCell ⟨g,i,none⟩ (.int .u8 (y.toNat:Int))).cell? ⟨g,i,none⟩=some (.int .u8 (y.toNat:Int)):=World.cell?_setCell_same _ _ _ (f i hi);have n:∀ j,j≠i→(w.setCell ⟨g,i,none⟩ (.int .u8 (y.toNat:Int))).cell? ⟨g,j,none⟩=w.cell? ⟨g,j,none⟩:=fun j a=>World.cell?_setCell_other _ _ _ _ (fun e:(⟨g,i,none⟩:Addr)=⟨g,j,none⟩=>a (by injection e with _ e _;exact e.symm));refine⟨g,cap,by rw[List.length_set];exact k,b,by rw[World.size_setCell];exact o,by rw[List.length_set];exact q,r,fun j a=>⟨?_,?_⟩,fun j a=>?_⟩
 ·by_cases e:j=i
  ·subst e;rw[m];rfl
  ·rw[n j e];exact(d j a).1
 ·rw[World.frozen?_setCell];exact(d j a).2
 ·rw[List.length_set]at a
  by_cases e:j=i
  ·subst e;rw[m,List.getElem_set_self]
  ·rw[n j e,List.getElem_set_ne (fun h=>e h.symm)];exact f j a
theorem Ok (n b:Int)(w:World):
 Cr 198 #[n,b] w (.bool (decide (0≤n∧n<b))):=by
 by_cases a:0≤n
 ·by_cases c:n<b
  ·rw[decide_eq_true (And.intro a c)]
   go_enter Tryz.func198,Tryz.ntmps198;go_wp2_with fail;go_ret;exact⟨by simp,Below.refl _ _⟩
  ·rw[decide_eq_false (fun h:0≤n∧n<b=>c h.2)]
   go_enter Tryz.func198,Tryz.ntmps198;go_wp2_with fail;go_ret;exact⟨by simp,Below.refl _ _⟩
 ·rw[decide_eq_false (fun h:0≤n∧n<b=>a h.1)]
  go_enter Tryz.func198,Tryz.ntmps198;go_wp2_with fail;go_ret;exact⟨by simp,Below.refl _ _⟩
theorem J5 (n:Int)(w:World):
 Cr 157 #[n] w (.bool (decide (Rc.num n))):=by
 have b:=Hq (fun W=>by(have h:=Ok n 1099511627776 W);rw[show decide (0≤n∧n<1099511627776)=decide (Rc.num n)from decide_eq_decide.2 Iff.rfl]at h;exact h);go_enter Tryz.func157,Tryz.ntmps157
 go_wp2_with(go_at_call 198;(with_reducible refine(b.out _).mono ?_);rintro e c ⟨rfl,a⟩)
 go_ret;exact⟨rfl,a⟩
theorem Kz (n:Int)(w:World):
 Cr 161 #[n] w (.bool (decide (Rc.pg n))):=by
 have b:=Hq (fun W=>by(have h:=Ok n 8388608 W);rw[show decide (0≤n∧n<8388608)=decide (Rc.pg n)from decide_eq_decide.2 Iff.rfl]at h;exact h);go_enter Tryz.func161,Tryz.ntmps161
 go_wp2_with(go_at_call 198;(with_reducible refine(b.out _).mono ?_);rintro e c ⟨rfl,a⟩)
 go_ret;exact⟨rfl,a⟩
theorem K3 (n:Int)(w:World):
 Cr 202 #[n] w (.bool (decide (Rc.sl n))):=by
 have b:=Hq (fun W=>by(have h:=Ok n 32768 W);rw[show decide (0≤n∧n<32768)=decide (Rc.sl n)from decide_eq_decide.2 Iff.rfl]at h;exact h);go_enter Tryz.func202,Tryz.ntmps202
 go_wp2_with(go_at_call 198;(with_reducible refine(b.out _).mono ?_);rintro e c ⟨rfl,a⟩)
 go_ret;exact⟨rfl,a⟩
theorem Xl (o:Rc.Op)(w:World):
 Cr 162 #[oD o] w (.bool (decide (Rc.Ix o))):=by
 obtain⟨k,s,o,n⟩:=o
 by_cases t:1≤k
 rotate_left
 ·have g0:k<1:=by omega
  clear t;rw[show decide (Rc.Ix ⟨k,s,o,n⟩)=false from decide_eq_false (fun h=>by obtain⟨g,j,f,i,l⟩:=h;simp only at g j f i l;omega)];go_enter Tryz.func162,Tryz.ntmps162;go_wp2_with fail;go_ret;exact⟨by simp[*],Ac _ _⟩
 by_cases g:k≤7
 rotate_left
 ·have g1:7<k:=by omega
  clear g;rw[show decide (Rc.Ix ⟨k,s,o,n⟩)=false from decide_eq_false (fun h=>by obtain⟨g,j,f,i,l⟩:=h;simp only at g j f i l;omega)];go_enter Tryz.func162,Tryz.ntmps162;go_wp2_with fail;go_ret;exact⟨by simp[*],Ac _ _⟩
 cases m:decide (Rc.sl s)with
 |false=>
  rw[show decide (Rc.Ix ⟨k,s,o,n⟩)=false from decide_eq_false (fun h=>by obtain⟨g,j,f,i,l⟩:=h;simp only at g j f i l;exact of_decide_eq_false m f)];have p:=Hq m;clear m;go_enter Tryz.func162,Tryz.ntmps162
  go_wp2_with(first|(go_at_call 202;(with_reducible refine(K3 s _).mono ?_);rintro e q ⟨rfl,a⟩;rw[p.out];have b:=Af (heap_alloc_new w _) a;have c:=Aa b 2;have d:=Aa b 3;clear b;simp at c d))
  go_ret;exact⟨by simp[*],Ag (Ac _ _) a⟩
 |true=>
 have p:=Hq m;have r:=Hq (of_decide_eq_true m);clear m
 by_cases f:(o.size:Int)≤512
 rotate_left
 ·have g3:512<(o.size:Int):=by omega
  clear f;rw[show decide (Rc.Ix ⟨k,s,o,n⟩)=false from decide_eq_false (fun h=>by obtain⟨g,j,f,i,l⟩:=h;simp only at g j f i l;omega)];go_enter Tryz.func162,Tryz.ntmps162
  go_wp2_with(first|(go_at_call 202;(with_reducible refine(K3 s _).mono ?_);rintro e q ⟨rfl,a⟩;rw[p.out];have b:=Af (heap_alloc_new w _) a;have c:=Aa b 2;have d:=Aa b 3;clear b;simp at c d))
  go_ret;exact⟨by simp[*],Ag (Ac _ _) a⟩
 by_cases i:(n.size:Int)≤512
 rotate_left
 ·have g4:512<(n.size:Int):=by omega
  clear i;rw[show decide (Rc.Ix ⟨k,s,o,n⟩)=false from decide_eq_false (fun h=>by obtain⟨g,j,f,i,l⟩:=h;simp only at g j f i l;omega)];go_enter Tryz.func162,Tryz.ntmps162
  go_wp2_with(first|(go_at_call 202;(with_reducible refine(K3 s _).mono ?_);rintro e q ⟨rfl,a⟩;rw[p.out];have b:=Af (heap_alloc_new w _) a;have c:=Aa b 2;have d:=Aa b 3;clear b;simp at c d))
  go_ret;exact⟨by simp[*],Ag (Ac _ _) a⟩
 rw[show decide (Rc.Ix ⟨k,s,o,n⟩)=true from decide_eq_true ⟨by assumption,by assumption,r.out,by show o.size≤512;omega,by show n.size≤512;omega⟩];go_enter Tryz.func162,Tryz.ntmps162
 go_wp2_with(first|(go_at_call 202;(with_reducible refine(K3 s _).mono ?_);rintro e q ⟨rfl,a⟩;rw[p.out];have b:=Af (heap_alloc_new w _) a;have c:=Aa b 2;have d:=Aa b 3;clear b;simp at c d))
 go_ret;exact⟨by simp[*],Ag (Ac _ _) a⟩
theorem dX (f:Rc.Key)(w:World):
 Cr 201 #[uY f] w (.bool (decide (f.key.size≤100∧Rc.pg f.Ad∧Rc.sl f.slot))):=by
 obtain⟨k,p,s⟩:=f;dsimp only
 by_cases o:(k.size:Int)≤100
 ·have g:k.size≤100:=by omega
  have i:=Hq (fun W=>Kz p W);have j:=Hq (fun W=>K3 s W)
  by_cases b:Rc.pg p
  ·rw[decide_eq_true b]at i
   by_cases d:Rc.sl s
   ·rw[decide_eq_true d]at j
    rw[decide_eq_true (show k.size≤100∧Rc.pg p∧Rc.sl s from⟨g,b,d⟩)];clear b d;go_enter Tryz.func201,Tryz.ntmps201
    go_wp2_with(first
     |(go_at_call 161;(with_reducible refine(i.out _).mono ?_);rintro e l ⟨rfl,a⟩;have m:=Aa (Af (heap_alloc_new w _) a))
     |(go_at_call 202;(with_reducible refine(j.out _).mono ?_);rintro e n ⟨rfl,c⟩))
    go_ret;exact⟨rfl,Ag (Ag (Ac _ _) a) c⟩
   ·rw[decide_eq_false d]at j
    rw[decide_eq_false (show ¬ (k.size≤100∧Rc.pg p∧Rc.sl s)from fun h=>d h.2.2)];clear b d;go_enter Tryz.func201,Tryz.ntmps201
    go_wp2_with(first
     |(go_at_call 161;(with_reducible refine(i.out _).mono ?_);rintro e l ⟨rfl,a⟩;have m:=Aa (Af (heap_alloc_new w _) a))
     |(go_at_call 202;(with_reducible refine(j.out _).mono ?_);rintro e n ⟨rfl,c⟩))
    go_ret;exact⟨rfl,Ag (Ag (Ac _ _) a) c⟩
  ·rw[decide_eq_false b]at i
   rw[decide_eq_false (show ¬ (k.size≤100∧Rc.pg p∧Rc.sl s)from fun h=>b h.2.1)];clear b;go_enter Tryz.func201,Tryz.ntmps201
   go_wp2_with(go_at_call 161;(with_reducible refine(i.out _).mono ?_);rintro e l ⟨rfl,a⟩)
   go_ret;exact⟨rfl,Ag (Ac _ _) a⟩
 ·have g:100<(k.size:Int):=by omega
  rw[decide_eq_false (show ¬ (k.size≤100∧Rc.pg p∧Rc.sl s)from fun h=>by have:=h.1;omega)];go_enter Tryz.func201,Tryz.ntmps201;go_wp2_with fail;go_ret;exact⟨by simp,Ac _ _⟩
end Go.Proofs.YtmfkhdhnbkambaaGreatDoor
namespace Rc
def tB (s:ByteArray):ByteArray:=⟨(t s).toArray⟩
theorem gL (s:ByteArray):(tB s).size=2+s.size:=by
 unfold tB
 show(t s).toArray.size=_
 rw[List.size_toArray];unfold t;rw[List.length_append,Bf];simp
theorem xL (s:ByteArray)(_h:s.size≤65535):Oct.Bh s.size 2++s=tB s:=by
 apply ByteArray.ext
 rw[ByteArray.data_append]
 apply Array.toList_inj.1
 rw[Array.toList_append,show Oct.Bh (s.size:Int) 2=Oct.Bh (s.size:Int) ((2:Nat):Int)from rfl,Oct.Ca _ _ (by omega)];unfold tB t p
 rfl
end Rc
namespace Go.Proofs.YtmfkhdhnbkambaaGreatDoor
open Go.RowKit
theorem Lq (s:ByteArray)(d:s.size≤65535)(w:World):
 Cr 165 #[s] w (.string (Rc.tB s)):=by
 have f:=Hq (fun W=>Ja (s.size:Int) 2 (by omega) (by omega) W);have g:=Hq (Rc.xL s d);have h:(Oct.Bh (s.size:Int) ((2:Nat):Int)).size=2:=Oct.Bn _ 2 (by omega);have a:(Oct.Bh (s.size:Int) 2).size=2:=h;have i:¬ (65535:Int)<(s.size:Int):=by omega
 have c:∀ W:World,(Op.stringOp .add (Oct.Bh (s.size:Int) 2) s).run Tryz.prog W= .ok (.string (Rc.tB s)) W:=fun W=>by
  rw[← g.out];exact run_string_add_sum W _ _ (by rw[a];omega)
 go_enter Tryz.func165,Tryz.ntmps165
 go_wp2_with(go_at_call 73;(with_reducible refine(f.out _).mono ?_);rintro e j ⟨rfl,b⟩)
 go_ret;exact⟨rfl,b⟩
theorem Ts (o:Rc.Op)(t:o.By.size≤65535)(v:o.new.size≤65535)(w:World):
 Cr 164 #[oD o] w (.string ⟨(Rc.M1 o).toArray⟩):=by
 obtain⟨k,sl,d,on⟩:=o;dsimp only at t v ⊢;have l:=Hq (fun W=>Ja k 1 (by omega) (by omega) W);have m:=Hq (fun W=>Ja sl 2 (by omega) (by omega) W);have n:=Hq (fun W=>Lq d t W);have q:=Hq (fun W=>Lq on v W);have z:(Oct.Bh k ((1:Nat):Int)).size=1:=Oct.Bn _ 1 (by omega);have z2:(Oct.Bh sl ((2:Nat):Int)).size=2:=Oct.Bn _ 2 (by omega);have z3:=Rc.gL d;have z4:=Rc.gL on;have A:=Hq (show Oct.Bh k 1++Oct.Bh sl 2++Rc.tB d++Rc.tB on=⟨(Rc.M1 ⟨k,sl,d,on⟩).toArray⟩from by
  apply ByteArray.ext
  rw[ByteArray.data_append,ByteArray.data_append,ByteArray.data_append]
  apply Array.toList_inj.1
  rw[Array.toList_append,Array.toList_append,Array.toList_append,show Oct.Bh k 1=Oct.Bh k ((1:Nat):Int)from rfl,show Oct.Bh sl 2=Oct.Bh sl ((2:Nat):Int)from rfl,Oct.Ca _ 1 (by omega),Oct.Ca _ 2 (by omega)];unfold Rc.M1 Rc.tB Rc.p;simp only[List.append_assoc])
 rw[← A.out];clear A;have B:(Oct.Bh k 1).size=1:=z;have C:(Oct.Bh sl 2).size=2:=z2;clear z z2;generalize Oct.Bh k 1=i at l B ⊢;generalize Oct.Bh sl 2=j at m C ⊢;generalize Rc.tB d=h at n z3 ⊢;generalize Rc.tB on=r at q z4 ⊢;have M:∀ W:World,(Op.stringOp .add i j).run Tryz.prog W= .ok (.string (i++j)) W:=fun W=>run_string_add_sum W _ _ (by omega);have D:(i++j).size=3:=by rw[ByteArray.size_append];omega
 generalize i++j=s at M D ⊢;have a2:∀ W:World,(Op.stringOp .add s h).run Tryz.prog W= .ok (.string (s++h)) W:=fun W=>run_string_add_sum W _ _ (by omega);have E:(s++h).size=3+h.size:=by rw[ByteArray.size_append];omega
 generalize s++h=x at a2 E ⊢;have a3:∀ W:World,(Op.stringOp .add x r).run Tryz.prog W= .ok (.string (x++r)) W:=fun W=>run_string_add_sum W _ _ (by omega);generalize x++r=C3 at a3 ⊢;clear B C D E z3 z4 t v;have F:=Hq (heap_alloc_new w (.cells #[k,sl,d,on] 42));have G:=Hq (Ac w (.cells #[k,sl,d,on] 42));go_enter Tryz.func164,Tryz.ntmps164;go_upto_region 1 with fail;obtain⟨g,y⟩:=ex w.heap.size;obtain⟨H,f⟩:=ex (w.alloc (.cells #[k,sl,d,on] 42));rw[← y,← f]at F;rw[← f]at G;rw[← y,← f];clear y f;have N:=Af F.out (Below.refl _ H).drew;have O:=Ag G.out (Below.refl _ H).drew;refine G7 (S:=(fun u=>u.heap[g]? =some (.cells #[k,sl,d,on] 42 (0,0)))) (fun a=>?_);refine Bb 0 ?_;refine Bb 1 ?_;refine Bb 3 ?_;refine Bb 4 ?_;refine Bb 7 ?_;refine Bb 8 ?_;refine Bb 11 ?_;refine Bb 12 ?_;refine Dg 2 fun K c=>?_
 go_simp
 refine(l.out _).mono ?_;rintro e v1 ⟨rfl,b⟩;have I:=Af N b;have i:=Ag O b;try clear hSn
 have hSn:=I;clear b;refine Cw c (fun a=>?_);clear c K;refine Dg 5 fun K c=>?_
 go_simp
 refine(m.out _).mono ?_;rintro e v2 ⟨rfl,b⟩;have J:=Af I b;have j:=Ag i b;try clear hSn
 have hSn:=J;clear b;refine Cw c (fun a=>?_);clear c K;refine Bb 6 ?_;refine Dg 9 fun K c=>?_
 go_simp
 refine(n.out _).mono ?_;rintro e v3 ⟨rfl,b⟩;have L:=Af J b;have h:=Ag j b;try clear hSn
 have hSn:=L;clear b;refine Cw c (fun a=>?_);clear c K;refine Bb 10 ?_;refine Dg 13 fun K c=>?_
 go_simp
 refine(q.out _).mono ?_;rintro e v4 ⟨rfl,b⟩;have P:=Af L b;have r:=Ag h b;try clear hSn
 have hSn:=P;clear b;refine Cw c (fun a=>?_);clear c K;refine Bb 14 ?_;refine Bb 15 ?_;refine wpAnyH_done Kr ?_ _;clear a hSn;go_wp2_with fail;go_ret;exact⟨rfl,r⟩
end Go.Proofs.YtmfkhdhnbkambaaGreatDoor
namespace Rc
def mk (l:List UInt8):ByteArray:=⟨l.toArray⟩
theorem Rk (l:List UInt8):(mk l).size=l.length:=by unfold mk;show l.toArray.size=_;simp
theorem vM (a b:List UInt8):mk a++mk b=mk (a++b):=by
 apply ByteArray.ext
 rw[ByteArray.data_append];unfold mk
 simp
theorem vN (n:Int)(k:Nat)(hk:k≤8):Oct.Bh n (k:Int)=mk (p n k):=by
 apply ByteArray.ext
 apply Array.toList_inj.1
 rw[Oct.Ca _ _ hk]
 rfl
end Rc
namespace Go.Proofs.YtmfkhdhnbkambaaGreatDoor
open Go.RowKit
theorem Fq (n:Int)(k:Nat)(hk:k≤8)(w:World):
 Cr 73 #[n,.int .i64 (k:Int)] w (.string (Rc.mk (Rc.p n k))):=by
 rw[← Rc.vN n k hk];exact Ja n k (by omega) (by omega) w
theorem F5 (a b:List UInt8)(h:a.length+b.length≤1000000)(W:World):(Op.stringOp .add (Rc.mk a) (Rc.mk b)).run Tryz.prog W= .ok (.string (Rc.mk (a++b))) W:=by
 rw[← Rc.vM];exact run_string_add_sum W _ _ (by rw[Rc.Rk,Rc.Rk];omega)
theorem lD (r:Rc.Rec)(T D:Value)(w:World):
 Cr 158 #[D9 r T D] w (D9 (Rc.bare r.kind r.lsn r.prev r.txn) (.slice none 0 0) (.slice none 0 0)):=by
 obtain⟨lsn,prev,txn,kind,Ad,next,d,⟨ok,os,e,on⟩,c,root,⟨f,g,es⟩,h,i⟩:=r;dsimp only[D9,D3,Rc.bare,Rc.Jo,Rc.Ce];go_enter Tryz.func158,Tryz.ntmps158;go_upto_region 1 with fail;have a:=Lx w (Cn lsn prev txn kind Ad next d ok os e on c root f g es (T) (D)) 49 wU 49;obtain⟨j,b⟩:=E0 a;rw[← b]at a ⊢;clear b;have k:=Aa a.out.Ao
 go_wp2_with(with_reducible refine lS (Cn lsn prev txn kind 0 0 0 0 0 ⟨#[]⟩ ⟨#[]⟩ 0 0 ⟨#[]⟩ 0 0 (.slice none 0 0) (.slice none 0 0)) a.out.Aq ?_)
 refine rT1 a.out.Aq C5 ?_;exact⟨rfl,(a.out.row 1 _ _ rfl).below⟩
theorem aK (r:Rc.Rec)(T D:Value)(w:World):
 Cr 160 #[D9 r T D] w (.bool (decide (Rc.pg r.Ad∧Rc.Ix r.op∧Rc.Fp r))):=by
 obtain⟨f,prev,g,kind,Ad,next,o,⟨ok,os,m,on⟩,how,root,⟨k,l,es⟩,I,J⟩:=r;dsimp only;have s:=Hq (fun W=>Kz Ad W);have t:=Hq (fun W=>Xl ⟨ok,os,m,on⟩ W);have K:=Hq (fun W=>Kz root W);have N:=Hq (fun W=>dX ⟨k,l,es⟩ W);dsimp only at N t
 by_cases h1:Rc.pg Ad
 rotate_left
 ·rw[decide_eq_false h1]at s
  rw[decide_eq_false (fun h=>h1 h.1)];clear h1;go_enter Tryz.func160,Tryz.ntmps160
  go_wp2_with(first|(go_at_call 161;(with_reducible refine(s.out _).mono ?_);rintro e z ⟨rfl,a⟩;have d:=Ag (Ac w (.cells (Cn f prev g kind Ad next o ok os m on how root k l es (T) (D)) 49)) a;have n:=Aa (Bv a)))
  go_ret;exact⟨rfl,d⟩
 rw[decide_eq_true h1]at s
 by_cases C:Rc.Ix ⟨ok,os,m,on⟩
 rotate_left
 ·rw[decide_eq_false C]at t
  rw[decide_eq_false (fun h=>C h.2.1)];clear h1 C;go_enter Tryz.func160,Tryz.ntmps160
  go_wp2_with(first|(go_at_call 161;(with_reducible refine(s.out _).mono ?_);rintro e z ⟨rfl,a⟩;have d:=Ag (Ac w (.cells (Cn f prev g kind Ad next o ok os m on how root k l es (T) (D)) 49)) a;have n:=Aa (Bv a))|(go_at_call 162;(with_reducible refine(t.out _).mono ?_);rintro e E ⟨rfl,c⟩;have i:=Ag d c;have p:=Aa (Af (Bv a) c)))
  go_ret;exact⟨rfl,i⟩
 rw[decide_eq_true C]at t;have A:decide (Rc.pg Ad∧Rc.Ix ⟨ok,os,m,on⟩∧Rc.Fp ⟨f,prev,g,kind,Ad,next,o,⟨ok,os,m,on⟩,how,root,⟨k,l,es⟩,I,J⟩)=decide (Rc.Fp ⟨f,prev,g,kind,Ad,next,o,⟨ok,os,m,on⟩,how,root,⟨k,l,es⟩,I,J⟩):=decide_eq_decide.2 ⟨fun h=>h.2.2,fun h=>⟨h1,C,h⟩⟩;rw[A];clear A h1 C
 by_cases u:how=1
 ·subst u
  have P:=Hq (fun W=>M4 ⟨k,l,es⟩ ⟨⟨#[]⟩,0,0⟩ W)
  by_cases O:root=0
  ·subst O
   have Q:=P.out;have L:=Hq (show decide (Rc.Fp ⟨f,prev,g,kind,Ad,next,o,⟨ok,os,m,on⟩,1,0,⟨k,l,es⟩,I,J⟩)=decide ((⟨k,l,es⟩:Rc.Key)=⟨⟨#[]⟩,0,0⟩)from decide_eq_decide.2 ⟨fun h=>by
    rcases h with⟨_,_,M⟩|⟨h1,_⟩
    ·exact M
    ·simp only at h1;omega,fun h=>.inl ⟨rfl,rfl,h⟩⟩)
   rw[L.out];generalize decide ((⟨k,l,es⟩:Rc.Key)=⟨⟨#[]⟩,0,0⟩)=b at Q ⊢;go_enter Tryz.func160,Tryz.ntmps160
   go_wp2_with(first|(go_at_call 161;(with_reducible refine(s.out _).mono ?_);rintro e z ⟨rfl,a⟩;have d:=Ag (Ac w (.cells (Cn f prev g kind Ad next o ok os m on 1 0 k l es (T) (D)) 49)) a;have n:=Aa (Bv a))|(go_at_call 162;(with_reducible refine(t.out _).mono ?_);rintro e E ⟨rfl,c⟩;have i:=Ag d c;have p:=Aa (Af (Bv a) c)))
   go_ret;exact⟨by simp,i⟩
  ·have C:(root==0)=false:=by simp[O]
   rw[show decide (Rc.Fp ⟨f,prev,g,kind,Ad,next,o,⟨ok,os,m,on⟩,1,root,⟨k,l,es⟩,I,J⟩)=false from decide_eq_false (fun h=>by
    rcases h with⟨_,M,_⟩|⟨h1,_⟩
    ·exact O M
    ·simp only at h1;omega)]
   clear O;go_enter Tryz.func160,Tryz.ntmps160
   go_wp2_with(first|(go_at_call 161;(with_reducible refine(s.out _).mono ?_);rintro e z ⟨rfl,a⟩;have d:=Ag (Ac w (.cells (Cn f prev g kind Ad next o ok os m on 1 root k l es (T) (D)) 49)) a;have n:=Aa (Bv a))|(go_at_call 162;(with_reducible refine(t.out _).mono ?_);rintro e E ⟨rfl,c⟩;have i:=Ag d c;have p:=Aa (Af (Bv a) c)))
   go_ret;exact⟨by simp,i⟩
 ·have v:(how==1)=false:=by simp[u]
  have x:=Hq (show ∀ (h:¬ ((how=2∨how=3)∧Rc.pg root∧Rc.pg l∧Rc.sl es∧k.size≤100)),decide (Rc.Fp ⟨f,prev,g,kind,Ad,next,o,⟨ok,os,m,on⟩,how,root,⟨k,l,es⟩,I,J⟩)=false from fun h=>decide_eq_false (fun S=>by
   rcases S with⟨h1,_⟩|h1
   ·exact u h1
   ·exact h h1))
  by_cases hk:how=2∨how=3
  rotate_left
  ·rw[x.out (fun h=>hk h.1)]
   have U:(how==2)=false:=(by simp;omega);have V:(how==3)=false:=(by simp;omega);clear hk u;go_enter Tryz.func160,Tryz.ntmps160
   go_wp2_with(first|(go_at_call 161;(with_reducible refine(s.out _).mono ?_);rintro e z ⟨rfl,a⟩;have d:=Ag (Ac w (.cells (Cn f prev g kind Ad next o ok os m on how root k l es (T) (D)) 49)) a;have n:=Aa (Bv a))|(go_at_call 162;(with_reducible refine(t.out _).mono ?_);rintro e E ⟨rfl,c⟩;have i:=Ag d c;have p:=Aa (Af (Bv a) c)))
   go_ret;exact⟨by simp,i⟩
  have y:(how==2||how==3)=true:=by rcases hk with rfl|rfl<;>rfl
  by_cases B:Rc.pg root
  rotate_left
  ·rw[decide_eq_false B]at K
   rw[x.out (fun h=>B h.2.1)];rcases hk with rfl|rfl
   ·clear u y B v
    go_enter Tryz.func160,Tryz.ntmps160
    go_wp2_with(first|(go_at_call 161;(with_reducible refine(s.out _).mono ?_);rintro e z ⟨rfl,a⟩;have d:=Ag (Ac w (.cells (Cn f prev g kind Ad next o ok os m on 2 root k l es (T) (D)) 49)) a;have n:=Aa (Bv a))|(go_at_call 162;(with_reducible refine(t.out _).mono ?_);rintro e E ⟨rfl,c⟩;have i:=Ag d c;have p:=Aa (Af (Bv a) c))|(go_at_call 161;(with_reducible refine(K.out _).mono ?_);rintro e R ⟨rfl,j⟩;have q:=Ag i j;have F:=Aa (Af (Af (Bv a) c) j)))
    go_ret;exact⟨by simp,q⟩
   ·clear u y B v
    go_enter Tryz.func160,Tryz.ntmps160
    go_wp2_with(first|(go_at_call 161;(with_reducible refine(s.out _).mono ?_);rintro e z ⟨rfl,a⟩;have d:=Ag (Ac w (.cells (Cn f prev g kind Ad next o ok os m on 3 root k l es (T) (D)) 49)) a;have n:=Aa (Bv a))|(go_at_call 162;(with_reducible refine(t.out _).mono ?_);rintro e E ⟨rfl,c⟩;have i:=Ag d c;have p:=Aa (Af (Bv a) c))|(go_at_call 161;(with_reducible refine(K.out _).mono ?_);rintro e R ⟨rfl,j⟩;have q:=Ag i j;have F:=Aa (Af (Af (Bv a) c) j)))
    go_ret;exact⟨by simp,q⟩
  rw[decide_eq_true B]at K;have L:=Hq (show decide (Rc.Fp ⟨f,prev,g,kind,Ad,next,o,⟨ok,os,m,on⟩,how,root,⟨k,l,es⟩,I,J⟩)=decide (k.size≤100∧Rc.pg l∧Rc.sl es)from decide_eq_decide.2 ⟨fun h=>by
   rcases h with⟨h1,_⟩|⟨_,_,M,X,Y⟩
   ·exact absurd h1 u
   ·exact⟨Y,M,X⟩,fun h=>.inr ⟨hk,B,h.2.1,h.2.2,h.1⟩⟩)
  rw[L.out];generalize decide (k.size≤100∧Rc.pg l∧Rc.sl es)=b at N ⊢;rcases hk with rfl|rfl
  ·clear u y B v L x
   go_enter Tryz.func160,Tryz.ntmps160
   go_wp2_with(first|(go_at_call 161;(with_reducible refine(s.out _).mono ?_);rintro e z ⟨rfl,a⟩;have d:=Ag (Ac w (.cells (Cn f prev g kind Ad next o ok os m on 2 root k l es (T) (D)) 49)) a;have n:=Aa (Bv a))|(go_at_call 162;(with_reducible refine(t.out _).mono ?_);rintro e E ⟨rfl,c⟩;have i:=Ag d c;have p:=Aa (Af (Bv a) c))|(go_at_call 161;(with_reducible refine(K.out _).mono ?_);rintro e R ⟨rfl,j⟩;have q:=Ag i j;have F:=Aa (Af (Af (Bv a) c) j))|(go_at_call 201;(with_reducible refine(N.out _).mono ?_);rintro e Z ⟨rfl,G⟩;have H:=Ag q G))
   go_ret;exact⟨by simp,H⟩
  ·clear u y B v L x
   go_enter Tryz.func160,Tryz.ntmps160
   go_wp2_with(first|(go_at_call 161;(with_reducible refine(s.out _).mono ?_);rintro e z ⟨rfl,a⟩;have d:=Ag (Ac w (.cells (Cn f prev g kind Ad next o ok os m on 3 root k l es (T) (D)) 49)) a;have n:=Aa (Bv a))|(go_at_call 162;(with_reducible refine(t.out _).mono ?_);rintro e E ⟨rfl,c⟩;have i:=Ag d c;have p:=Aa (Af (Bv a) c))|(go_at_call 161;(with_reducible refine(K.out _).mono ?_);rintro e R ⟨rfl,j⟩;have q:=Ag i j;have F:=Aa (Af (Af (Bv a) c) j))|(go_at_call 201;(with_reducible refine(N.out _).mono ?_);rintro e Z ⟨rfl,G⟩;have H:=Ag q G))
   go_ret;exact⟨by simp,H⟩
end Go.Proofs.YtmfkhdhnbkambaaGreatDoor
namespace Rc
variable {lsn prev txn Ad next nu how root : Int} {op : Op} {e : Key} {ts : List Be} {ds : List Bx}
theorem vO {r:Rec}(h:Bu r):num r.lsn∧num r.prev∧num r.txn:=(F9 h).nums
theorem tH {kind:Int}(hk:kind=1∨kind=5∨kind=6∨kind=7)(a:num lsn∧num prev∧num txn):
 Bu ⟨lsn,prev,txn,kind,Ad,next,nu,op,how,root,e,ts,ds⟩↔bare kind lsn prev txn=⟨lsn,prev,txn,kind,Ad,next,nu,op,how,root,e,ts,ds⟩:=by
 constructor
 ·intro h
  have F:=F9 h;have b:=F.bare (by unfold E4;simp only;omega);have c:=F.noTree (by simp only;omega);have d:=F.noNext (by unfold hasNext;simp only;omega);have f:=F.noLists (by simp only;omega);simp only at b c d f;obtain⟨rfl,rfl⟩:=b;obtain⟨rfl,rfl,rfl⟩:=c;obtain⟨rfl,rfl,rfl⟩:=f;subst d
  rfl
 ·intro h
  rw[← h];exact .small kind lsn prev txn hk a.1 a.2.1 a.2.2
theorem zJ (c:num lsn∧num prev∧num txn):
 Bu ⟨lsn,prev,txn,2,Ad,next,nu,op,how,root,e,ts,ds⟩↔(⟨lsn,prev,txn,2,Ad,0,0,op,how,root,e,[],[]⟩:Rec)=⟨lsn,prev,txn,2,Ad,next,nu,op,how,root,e,ts,ds⟩∧pg Ad∧Ix op∧Fp ⟨lsn,prev,txn,2,Ad,next,nu,op,how,root,e,ts,ds⟩:=by
 constructor
 ·intro h
  have F:=F9 h;have a:=F.change (by unfold E4;simp);have d:=F.tree rfl;have b:=F.noNext (by unfold hasNext;simp);have f:=F.noLists (by simp);simp only at a b f;obtain⟨rfl,rfl,rfl⟩:=f;subst b;exact⟨rfl,a.1,a.2,d⟩
 ·rintro⟨h,a,d,b⟩
  injection h with _ _ _ _ _ g i _ _ _ _ j k
  subst g i j k;exact .change lsn prev txn Ad op how root e c.1 c.2.1 c.2.2 a d b
theorem zK (d:num lsn∧num prev∧num txn):
 Bu ⟨lsn,prev,txn,3,Ad,next,nu,op,how,root,e,ts,ds⟩↔(⟨lsn,prev,txn,3,Ad,next,0,op,0,0,Ce,[],[]⟩:Rec)=⟨lsn,prev,txn,3,Ad,next,nu,op,how,root,e,ts,ds⟩∧pg Ad∧Ix op∧num next:=by
 constructor
 ·intro h
  have F:=F9 h;have a:=F.change (by unfold E4;simp);have b:=F.noTree (by simp);have c:=F.next (by unfold hasNext;simp);have f:=F.noLists (by simp);simp only at a b c f;obtain⟨rfl,rfl,rfl⟩:=f;obtain⟨rfl,rfl,rfl⟩:=b;exact⟨rfl,a.1,a.2,c⟩
 ·rintro⟨h,a,b,c⟩
  injection h with _ _ _ _ _ _ g _ i j k l m
  subst g l m i j k;exact .clr lsn prev txn Ad op next d.1 d.2.1 d.2.2 a b c
theorem zL (c:num lsn∧num prev∧num txn):
 Bu ⟨lsn,prev,txn,8,Ad,next,nu,op,how,root,e,ts,ds⟩↔(⟨lsn,prev,txn,8,Ad,0,0,op,0,0,Ce,[],[]⟩:Rec)=⟨lsn,prev,txn,8,Ad,next,nu,op,how,root,e,ts,ds⟩∧pg Ad∧Ix op:=by
 constructor
 ·intro h
  have F:=F9 h;have a:=F.change (by unfold E4;simp);have b:=F.noTree (by simp);have d:=F.noNext (by unfold hasNext;simp);have f:=F.noLists (by simp);simp only at a b d f;obtain⟨rfl,rfl,rfl⟩:=f;obtain⟨rfl,rfl,rfl⟩:=b;subst d;exact⟨rfl,a.1,a.2⟩
 ·rintro⟨h,a,b⟩
  injection h with _ _ _ _ _ g i _ j k l m n
  subst g i m n j k l;exact .image lsn prev txn Ad op c.1 c.2.1 c.2.2 a b
end Rc
