import Derived.Test.YtdfkambdagoojaaGreatDoorHd00
import Derived.Test.YtdfkambdagoojaaGreatDoorHd05
import Derived.Test.YtdfkambdagoojaaGreatDoorHd01
import Derived.Test.YtdfkambdagoojaaGreatDoorHd06
import Derived.Lib.ConvBytes
import Derived.Lib.AppendStr
import Derived.Lib.FrozenHead
import Derived.Deep.MidRow
import Derived.Lib.LazyBuf
import Derived.Test.YtdfkambdagoojaaGreatDoorHd04
set_option maxRecDepth 100000
set_option maxHeartbeats 16000000
set_option linter.unusedSimpArgs false
namespace Go.Proofs.YtdfkambdagoojaaGreatDoor
open Go.RowKit
theorem Po (n b:Int)(w:World):
 Cr 198 #[n,b] w (.bool (decide (0≤n∧n<b))):=by
 by_cases a:0≤n
 ·by_cases c:n<b
  ·rw[decide_eq_true (And.intro a c)]
   go_enter Tryz.func198,Tryz.ntmps198;go_wp2_with fail;go_ret;exact⟨by simp,Below.refl _ _⟩
  ·rw[decide_eq_false (fun h:0≤n∧n<b=>c h.2)]
   go_enter Tryz.func198,Tryz.ntmps198;go_wp2_with fail;go_ret;exact⟨by simp,Below.refl _ _⟩
 ·rw[decide_eq_false (fun h:0≤n∧n<b=>a h.1)]
  go_enter Tryz.func198,Tryz.ntmps198;go_wp2_with fail;go_ret;exact⟨by simp,Below.refl _ _⟩
theorem Eo (n:Int)(w:World):
 Cr 152 #[n] w (.bool (decide (Rc.num n))):=by
 have b:=Hq (fun W=>by(have h:=Po n 1099511627776 W);rw[show decide (0≤n∧n<1099511627776)=decide (Rc.num n)from decide_eq_decide.2 Iff.rfl]at h;exact h);go_enter Tryz.func152,Tryz.ntmps152
 go_wp2_with(go_at_call 198;(with_reducible refine(b.out _).mono ?_);rintro e c ⟨rfl,a⟩)
 go_ret;exact⟨rfl,a⟩
theorem I7 (n:Int)(w:World):
 Cr 156 #[n] w (.bool (decide (Rc.pg n))):=by
 have b:=Hq (fun W=>by(have h:=Po n 8388608 W);rw[show decide (0≤n∧n<8388608)=decide (Rc.pg n)from decide_eq_decide.2 Iff.rfl]at h;exact h);go_enter Tryz.func156,Tryz.ntmps156
 go_wp2_with(go_at_call 198;(with_reducible refine(b.out _).mono ?_);rintro e c ⟨rfl,a⟩)
 go_ret;exact⟨rfl,a⟩
theorem Mj (n:Int)(w:World):
 Cr 202 #[n] w (.bool (decide (Rc.sl n))):=by
 have b:=Hq (fun W=>by(have h:=Po n 32768 W);rw[show decide (0≤n∧n<32768)=decide (Rc.sl n)from decide_eq_decide.2 Iff.rfl]at h;exact h);go_enter Tryz.func202,Tryz.ntmps202
 go_wp2_with(go_at_call 198;(with_reducible refine(b.out _).mono ?_);rintro e c ⟨rfl,a⟩)
 go_ret;exact⟨rfl,a⟩
theorem Zg (o:Rc.Op)(w:World):
 Cr 157 #[Ou o] w (.bool (decide (Rc.Jr o))):=by
 obtain⟨k,s,o,n⟩:=o
 by_cases t:1≤k
 rotate_left
 ·have g0:k<1:=by omega
  clear t;rw[show decide (Rc.Jr ⟨k,s,o,n⟩)=false from decide_eq_false (fun h=>by obtain⟨g,j,f,i,l⟩:=h;simp only at g j f i l;omega)];go_enter Tryz.func157,Tryz.ntmps157;go_wp2_with fail;go_ret;exact⟨by simp[*],Ag _ _⟩
 by_cases g:k≤7
 rotate_left
 ·have g1:7<k:=by omega
  clear g;rw[show decide (Rc.Jr ⟨k,s,o,n⟩)=false from decide_eq_false (fun h=>by obtain⟨g,j,f,i,l⟩:=h;simp only at g j f i l;omega)];go_enter Tryz.func157,Tryz.ntmps157;go_wp2_with fail;go_ret;exact⟨by simp[*],Ag _ _⟩
 cases m:decide (Rc.sl s)with
 |false=>
  rw[show decide (Rc.Jr ⟨k,s,o,n⟩)=false from decide_eq_false (fun h=>by obtain⟨g,j,f,i,l⟩:=h;simp only at g j f i l;exact of_decide_eq_false m f)];have p:=Hq m;clear m;go_enter Tryz.func157,Tryz.ntmps157
  go_wp2_with(first|(go_at_call 202;(with_reducible refine(Mj s _).mono ?_);rintro e q ⟨rfl,a⟩;rw[p.out];have b:=Ae (heap_alloc_new w _) a;have c:=Aa b 2;have d:=Aa b 3;clear b;simp at c d))
  go_ret;exact⟨by simp[*],Af (Ag _ _) a⟩
 |true=>
 have p:=Hq m;have r:=Hq (of_decide_eq_true m);clear m
 by_cases f:(o.size:Int)≤512
 rotate_left
 ·have g3:512<(o.size:Int):=by omega
  clear f;rw[show decide (Rc.Jr ⟨k,s,o,n⟩)=false from decide_eq_false (fun h=>by obtain⟨g,j,f,i,l⟩:=h;simp only at g j f i l;omega)];go_enter Tryz.func157,Tryz.ntmps157
  go_wp2_with(first|(go_at_call 202;(with_reducible refine(Mj s _).mono ?_);rintro e q ⟨rfl,a⟩;rw[p.out];have b:=Ae (heap_alloc_new w _) a;have c:=Aa b 2;have d:=Aa b 3;clear b;simp at c d))
  go_ret;exact⟨by simp[*],Af (Ag _ _) a⟩
 by_cases i:(n.size:Int)≤512
 rotate_left
 ·have g4:512<(n.size:Int):=by omega
  clear i;rw[show decide (Rc.Jr ⟨k,s,o,n⟩)=false from decide_eq_false (fun h=>by obtain⟨g,j,f,i,l⟩:=h;simp only at g j f i l;omega)];go_enter Tryz.func157,Tryz.ntmps157
  go_wp2_with(first|(go_at_call 202;(with_reducible refine(Mj s _).mono ?_);rintro e q ⟨rfl,a⟩;rw[p.out];have b:=Ae (heap_alloc_new w _) a;have c:=Aa b 2;have d:=Aa b 3;clear b;simp at c d))
  go_ret;exact⟨by simp[*],Af (Ag _ _) a⟩
 rw[show decide (Rc.Jr ⟨k,s,o,n⟩)=true from decide_eq_true ⟨by assumption,by assumption,r.out,by show o.size≤512;omega,by show n.size≤512;omega⟩];go_enter Tryz.func157,Tryz.ntmps157
 go_wp2_with(first|(go_at_call 202;(with_reducible refine(Mj s _).mono ?_);rintro e q ⟨rfl,a⟩;rw[p.out];have b:=Ae (heap_alloc_new w _) a;have c:=Aa b 2;have d:=Aa b 3;clear b;simp at c d))
 go_ret;exact⟨by simp[*],Af (Ag _ _) a⟩
theorem gV (f:Rc.Key)(w:World):
 Cr 201 #[yQ f] w (.bool (decide (f.key.size≤100∧Rc.pg f.Ab∧Rc.sl f.slot))):=by
 obtain⟨k,p,s⟩:=f;dsimp only
 by_cases o:(k.size:Int)≤100
 ·have g:k.size≤100:=by omega
  have i:=Hq (fun W=>I7 p W);have j:=Hq (fun W=>Mj s W)
  by_cases b:Rc.pg p
  ·rw[decide_eq_true b]at i
   by_cases d:Rc.sl s
   ·rw[decide_eq_true d]at j
    rw[decide_eq_true (show k.size≤100∧Rc.pg p∧Rc.sl s from⟨g,b,d⟩)];clear b d;go_enter Tryz.func201,Tryz.ntmps201
    go_wp2_with(first
     |(go_at_call 156;(with_reducible refine(i.out _).mono ?_);rintro e l ⟨rfl,a⟩;have m:=Aa (Ae (heap_alloc_new w _) a))
     |(go_at_call 202;(with_reducible refine(j.out _).mono ?_);rintro e n ⟨rfl,c⟩))
    go_ret;exact⟨rfl,Af (Af (Ag _ _) a) c⟩
   ·rw[decide_eq_false d]at j
    rw[decide_eq_false (show ¬ (k.size≤100∧Rc.pg p∧Rc.sl s)from fun h=>d h.2.2)];clear b d;go_enter Tryz.func201,Tryz.ntmps201
    go_wp2_with(first
     |(go_at_call 156;(with_reducible refine(i.out _).mono ?_);rintro e l ⟨rfl,a⟩;have m:=Aa (Ae (heap_alloc_new w _) a))
     |(go_at_call 202;(with_reducible refine(j.out _).mono ?_);rintro e n ⟨rfl,c⟩))
    go_ret;exact⟨rfl,Af (Af (Ag _ _) a) c⟩
  ·rw[decide_eq_false b]at i
   rw[decide_eq_false (show ¬ (k.size≤100∧Rc.pg p∧Rc.sl s)from fun h=>b h.2.1)];clear b;go_enter Tryz.func201,Tryz.ntmps201
   go_wp2_with(go_at_call 156;(with_reducible refine(i.out _).mono ?_);rintro e l ⟨rfl,a⟩)
   go_ret;exact⟨rfl,Af (Ag _ _) a⟩
 ·have g:100<(k.size:Int):=by omega
  rw[decide_eq_false (show ¬ (k.size≤100∧Rc.pg p∧Rc.sl s)from fun h=>by have:=h.1;omega)];go_enter Tryz.func201,Tryz.ntmps201;go_wp2_with fail;go_ret;exact⟨by simp,Ag _ _⟩
end Go.Proofs.YtdfkambdagoojaaGreatDoor
namespace Rc
def tB (s:ByteArray):ByteArray:=⟨(t s).toArray⟩
theorem kI (s:ByteArray):(tB s).size=2+s.size:=by
 unfold tB
 show(t s).toArray.size=_
 rw[List.size_toArray];unfold t;rw[List.length_append,Ax];simp
theorem Abc (s:ByteArray)(_h:s.size≤65535):Oct.Bj s.size 2++s=tB s:=by
 apply ByteArray.ext
 rw[ByteArray.data_append]
 apply Array.toList_inj.1
 rw[Array.toList_append,show Oct.Bj (s.size:Int) 2=Oct.Bj (s.size:Int) ((2:Nat):Int)from rfl,Oct.Ch _ _ (by omega)];unfold tB t p
 rfl
end Rc
namespace Go.Proofs.YtdfkambdagoojaaGreatDoor
open Go.RowKit
theorem M1 (s:ByteArray)(d:s.size≤65535)(w:World):
 Cr 160 #[s] w (.string (Rc.tB s)):=by
 have f:=Hq (fun W=>L0 (s.size:Int) 2 (by omega) (by omega) W);have g:=Hq (Rc.Abc s d);have h:(Oct.Bj (s.size:Int) ((2:Nat):Int)).size=2:=Oct.Bx _ 2 (by omega);have a:(Oct.Bj (s.size:Int) 2).size=2:=h;have i:¬ (65535:Int)<(s.size:Int):=by omega
 have c:∀ W:World,(Op.stringOp .add (Oct.Bj (s.size:Int) 2) s).run Tryz.prog W= .ok (.string (Rc.tB s)) W:=fun W=>by
  rw[← g.out];exact run_string_add_sum W _ _ (by rw[a];omega)
 go_enter Tryz.func160,Tryz.ntmps160
 go_wp2_with(go_at_call 83;(with_reducible refine(f.out _).mono ?_);rintro e j ⟨rfl,b⟩)
 go_ret;exact⟨rfl,b⟩
theorem Vn (o:Rc.Op)(t:o.A5.size≤65535)(v:o.new.size≤65535)(w:World):
 Cr 159 #[Ou o] w (.string ⟨(Rc.Np o).toArray⟩):=by
 obtain⟨k,sl,d,on⟩:=o;dsimp only at t v ⊢;have l:=Hq (fun W=>L0 k 1 (by omega) (by omega) W);have m:=Hq (fun W=>L0 sl 2 (by omega) (by omega) W);have n:=Hq (fun W=>M1 d t W);have q:=Hq (fun W=>M1 on v W);have z:(Oct.Bj k ((1:Nat):Int)).size=1:=Oct.Bx _ 1 (by omega);have z2:(Oct.Bj sl ((2:Nat):Int)).size=2:=Oct.Bx _ 2 (by omega);have z3:=Rc.kI d;have z4:=Rc.kI on;have A:=Hq (show Oct.Bj k 1++Oct.Bj sl 2++Rc.tB d++Rc.tB on=⟨(Rc.Np ⟨k,sl,d,on⟩).toArray⟩from by
  apply ByteArray.ext
  rw[ByteArray.data_append,ByteArray.data_append,ByteArray.data_append]
  apply Array.toList_inj.1
  rw[Array.toList_append,Array.toList_append,Array.toList_append,show Oct.Bj k 1=Oct.Bj k ((1:Nat):Int)from rfl,show Oct.Bj sl 2=Oct.Bj sl ((2:Nat):Int)from rfl,Oct.Ch _ 1 (by omega),Oct.Ch _ 2 (by omega)];unfold Rc.Np Rc.tB Rc.p;simp only[List.append_assoc])
 rw[← A.out];clear A;have B:(Oct.Bj k 1).size=1:=z;have C:(Oct.Bj sl 2).size=2:=z2;clear z z2;generalize Oct.Bj k 1=i at l B ⊢;generalize Oct.Bj sl 2=j at m C ⊢;generalize Rc.tB d=h at n z3 ⊢;generalize Rc.tB on=r at q z4 ⊢;have M:∀ W:World,(Op.stringOp .add i j).run Tryz.prog W= .ok (.string (i++j)) W:=fun W=>run_string_add_sum W _ _ (by omega);have D:(i++j).size=3:=by rw[ByteArray.size_append];omega
 generalize i++j=s at M D ⊢;have a2:∀ W:World,(Op.stringOp .add s h).run Tryz.prog W= .ok (.string (s++h)) W:=fun W=>run_string_add_sum W _ _ (by omega);have E:(s++h).size=3+h.size:=by rw[ByteArray.size_append];omega
 generalize s++h=x at a2 E ⊢;have a3:∀ W:World,(Op.stringOp .add x r).run Tryz.prog W= .ok (.string (x++r)) W:=fun W=>run_string_add_sum W _ _ (by omega);generalize x++r=C3 at a3 ⊢;clear B C D E z3 z4 t v;have F:=Hq (heap_alloc_new w (.cells #[k,sl,d,on] 40));have G:=Hq (Ag w (.cells #[k,sl,d,on] 40));go_enter Tryz.func159,Tryz.ntmps159;go_upto_region 1 with fail;obtain⟨g,y⟩:=ex w.heap.size;obtain⟨H,f⟩:=ex (w.alloc (.cells #[k,sl,d,on] 40));rw[← y,← f]at F;rw[← f]at G;rw[← y,← f];clear y f;have N:=Ae F.out (Below.refl _ H).drew;have O:=Af G.out (Below.refl _ H).drew;refine Hw (S:=(fun u=>u.heap[g]? =some (.cells #[k,sl,d,on] 40 (0,0)))) (fun a=>?_);refine Be 0 ?_;refine Be 1 ?_;refine Be 3 ?_;refine Be 4 ?_;refine Be 7 ?_;refine Be 8 ?_;refine Be 11 ?_;refine Be 12 ?_;refine D3 2 fun K c=>?_
 go_simp
 refine(l.out _).mono ?_;rintro e v1 ⟨rfl,b⟩;have I:=Ae N b;have i:=Af O b;try clear hSn
 have hSn:=I;clear b;refine Db c (fun a=>?_);clear c K;refine D3 5 fun K c=>?_
 go_simp
 refine(m.out _).mono ?_;rintro e v2 ⟨rfl,b⟩;have J:=Ae I b;have j:=Af i b;try clear hSn
 have hSn:=J;clear b;refine Db c (fun a=>?_);clear c K;refine Be 6 ?_;refine D3 9 fun K c=>?_
 go_simp
 refine(n.out _).mono ?_;rintro e v3 ⟨rfl,b⟩;have L:=Ae J b;have h:=Af j b;try clear hSn
 have hSn:=L;clear b;refine Db c (fun a=>?_);clear c K;refine Be 10 ?_;refine D3 13 fun K c=>?_
 go_simp
 refine(q.out _).mono ?_;rintro e v4 ⟨rfl,b⟩;have P:=Ae L b;have r:=Af h b;try clear hSn
 have hSn:=P;clear b;refine Db c (fun a=>?_);clear c K;refine Be 14 ?_;refine Be 15 ?_;refine wpAnyH_done Kr ?_ _;clear a hSn;go_wp2_with fail;go_ret;exact⟨rfl,r⟩
end Go.Proofs.YtdfkambdagoojaaGreatDoor
namespace Rc
def mk (l:List UInt8):ByteArray:=⟨l.toArray⟩
theorem J8 (l:List UInt8):(mk l).size=l.length:=by unfold mk;show l.toArray.size=_;simp
theorem zF (a b:List UInt8):mk a++mk b=mk (a++b):=by
 apply ByteArray.ext
 rw[ByteArray.data_append];unfold mk
 simp
theorem zG (n:Int)(k:Nat)(a:k≤8):Oct.Bj n (k:Int)=mk (p n k):=by
 apply ByteArray.ext
 apply Array.toList_inj.1
 rw[Oct.Ch _ _ a]
 rfl
end Rc
namespace Go.Proofs.YtdfkambdagoojaaGreatDoor
open Go.RowKit
theorem Di (n:Int)(k:Nat)(a:k≤8)(w:World):
 Cr 83 #[n,.int .i64 (k:Int)] w (.string (Rc.mk (Rc.p n k))):=by
 rw[← Rc.zG n k a];exact L0 n k (by omega) (by omega) w
theorem Eg (a b:List UInt8)(h:a.length+b.length≤1000000)(W:World):(Op.stringOp .add (Rc.mk a) (Rc.mk b)).run Tryz.prog W= .ok (.string (Rc.mk (a++b))) W:=by
 rw[← Rc.zF];exact run_string_add_sum W _ _ (by rw[Rc.J8,Rc.J8];omega)
def M8 (B:Nat)(w:World)(v:Value)(l:List UInt8):Prop:=
 ∃ g cap,v= .slice (some ⟨g,0,none⟩) l.length cap∧B≤g∧g<w.heap.size∧l.length≤cap∧cap≤maxLen∧
  (∀ j,j<cap→(w.cell? ⟨g,j,none⟩).isSome=true∧w.frozen? ⟨g,j,none⟩=false)∧∀ (j:Nat) (hj:j<l.length),w.cell? ⟨g,j,none⟩=some (.int .u8 (l[j].toNat:Int))
theorem M8.below {B:Nat}{w w':World}{v:Value}{l:List UInt8}(h:M8 B w v l)(a:Bw w w'):M8 B w' v l:=by
 obtain⟨g,cap,d,e,b,f,i,k,m⟩:=h;refine⟨g,cap,d,e,Nat.lt_of_lt_of_le b a.size,f,i,fun j c=>?_,fun j c=>?_⟩
 ·rw[a.cell (p:=⟨g,j,none⟩) b,a.frozen (p:=⟨g,j,none⟩) b];exact k j c
 ·rw[a.cell (p:=⟨g,j,none⟩) b];exact m j c
theorem M8.mono {B a:Nat}{w:World}{v:Value}{l:List UInt8}(h:M8 B w v l)(b:a≤B):M8 a w v l:=by
 obtain⟨g,cap,c,d,e⟩:=h;exact⟨g,cap,c,Nat.le_trans b d,e⟩
theorem nU (w:World)(s:ByteArray)(g:s.size≤1000000):M8 w.heap.size (Lib.bytesWorld w 5 s) (.slice (some ⟨w.heap.size,0,none⟩) s.size (grownCap w s.size 0 5)) s.data.toList:=by
 have a:s.data.toList.length=s.size:=by simp
 have c:=grownCap_ge w s.size 0 5;have d:=grownCap_le_maxLen w s.size 0 5 (by simp only[maxLen];omega);have b:(Lib.bytesCells w 5 s).size=grownCap w s.size 0 5:=by
  unfold Lib.bytesCells;rw[Array.size_append,Array.size_map,Array.size_replicate]
  show s.size+_=_
  omega
 have f:=Lib.bytesWorld_at_new w 5 s;refine⟨w.heap.size,_,by rw[a],Nat.le_refl _,by rw[Lib.bytesWorld_size];omega,by rw[a];exact c,d,fun j e=>⟨?_,?_⟩,fun j e=>?_⟩
 ·unfold World.cell?
  rw[f];simp only;rw[Array.getElem?_eq_getElem (by rw[b];exact e)]
  rfl
 ·unfold World.frozen?
  rw[f];simp only[Bool.and_eq_false_iff,decide_eq_false_iff_not]
  left
  rw[b];omega
 ·rw[Lib.bytesWorld_cell w 5 s j (by omega)]
  rw[List.getD_eq_getElem?_getD,List.getElem?_eq_getElem e,Option.getD_some]
theorem M8.back {P:Program}{B:Nat}{w:World}{v:Value}{l:List UInt8}(h:M8 B w v l){t u e:TypeId}(a:P.underlying t=some (.slice e))(b:P.underlying e=some (.int .u8))(c:P.underlying u=some .string):
 (convert t u v).run P w= .ok (.string ⟨l.toArray⟩) w:=by
 obtain⟨g,cap,rfl,_,i,_,_,_,d⟩:=h;exact run_convert_bytes_back w t u e ⟨g,0,none⟩ cap l a b c (fun j f=>by rw[Addr.add_mid,Nat.zero_add];exact d j f)
theorem nV (r:Rc.Rec)(T D:Value)(w:World):
 Cr 153 #[Dp r T D] w (Dp (Rc.bare r.kind r.lsn r.prev r.txn) (.slice none 0 0) (.slice none 0 0)):=by
 obtain⟨lsn,prev,txn,kind,Ab,next,d,⟨ok,os,e,on⟩,c,root,⟨f,g,es⟩,h,i⟩:=r;dsimp only[Dp,Ec,Rc.bare,Rc.K9,Rc.D6];go_enter Tryz.func153,Tryz.ntmps153;go_upto_region 1 with fail;have a:=O2 w (Bt lsn prev txn kind Ab next d ok os e on c root f g es (T) (D)) 47 Dl 47;obtain⟨j,b⟩:=Gz a;rw[← b]at a ⊢;clear b;have k:=Aa a.out.Am
 go_wp2_with(with_reducible refine lS (Bt lsn prev txn kind 0 0 0 0 0 ⟨#[]⟩ ⟨#[]⟩ 0 0 ⟨#[]⟩ 0 0 (.slice none 0 0) (.slice none 0 0)) a.out.As ?_)
 refine rT1 a.out.As Ca ?_;exact⟨rfl,(a.out.row 1 _ _ rfl).below⟩
theorem cZ (r:Rc.Rec)(T D:Value)(w:World):
 Cr 155 #[Dp r T D] w (.bool (decide (Rc.pg r.Ab∧Rc.Jr r.op∧Rc.F7 r))):=by
 obtain⟨g,prev,i,kind,Ab,next,q,⟨ok,os,n,on⟩,d,root,⟨l,m,es⟩,K,L⟩:=r;dsimp only;have u:=Hq (fun W=>I7 Ab W);have v:=Hq (fun W=>Zg ⟨ok,os,n,on⟩ W);have M:=Hq (fun W=>I7 root W);have Q:=Hq (fun W=>gV ⟨l,m,es⟩ W);dsimp only at Q v
 by_cases o:Rc.pg Ab
 rotate_left
 ·rw[decide_eq_false o]at u
  rw[decide_eq_false (fun h=>o h.1)];clear o;go_enter Tryz.func155,Tryz.ntmps155
  go_wp2_with(first|(go_at_call 156;(with_reducible refine(u.out _).mono ?_);rintro e B ⟨rfl,a⟩;have f:=Af (Ag w (.cells (Bt g prev i kind Ab next q ok os n on d root l m es (T) (D)) 47)) a;have p:=Aa (Cn a)))
  go_ret;exact⟨rfl,f⟩
 rw[decide_eq_true o]at u
 by_cases F:Rc.Jr ⟨ok,os,n,on⟩
 rotate_left
 ·rw[decide_eq_false F]at v
  rw[decide_eq_false (fun h=>F h.2.1)];clear o F;go_enter Tryz.func155,Tryz.ntmps155
  go_wp2_with(first|(go_at_call 156;(with_reducible refine(u.out _).mono ?_);rintro e B ⟨rfl,a⟩;have f:=Af (Ag w (.cells (Bt g prev i kind Ab next q ok os n on d root l m es (T) (D)) 47)) a;have p:=Aa (Cn a))|(go_at_call 157;(with_reducible refine(v.out _).mono ?_);rintro e G ⟨rfl,c⟩;have j:=Af f c;have s:=Aa (Ae (Cn a) c)))
  go_ret;exact⟨rfl,j⟩
 rw[decide_eq_true F]at v;have C:decide (Rc.pg Ab∧Rc.Jr ⟨ok,os,n,on⟩∧Rc.F7 ⟨g,prev,i,kind,Ab,next,q,⟨ok,os,n,on⟩,d,root,⟨l,m,es⟩,K,L⟩)=decide (Rc.F7 ⟨g,prev,i,kind,Ab,next,q,⟨ok,os,n,on⟩,d,root,⟨l,m,es⟩,K,L⟩):=decide_eq_decide.2 ⟨fun h=>h.2.2,fun h=>⟨o,F,h⟩⟩;rw[C];clear C o F
 by_cases x:d=1
 ·subst x
  have S:=Hq (fun W=>Od ⟨l,m,es⟩ ⟨⟨#[]⟩,0,0⟩ W)
  by_cases R:root=0
  ·subst R
   have U:=S.out;have O:=Hq (show decide (Rc.F7 ⟨g,prev,i,kind,Ab,next,q,⟨ok,os,n,on⟩,1,0,⟨l,m,es⟩,K,L⟩)=decide ((⟨l,m,es⟩:Rc.Key)=⟨⟨#[]⟩,0,0⟩)from decide_eq_decide.2 ⟨fun h=>by
    rcases h with⟨_,_,P⟩|⟨o,_⟩
    ·exact P
    ·simp only at o;omega,fun h=>.inl ⟨rfl,rfl,h⟩⟩)
   rw[O.out];generalize decide ((⟨l,m,es⟩:Rc.Key)=⟨⟨#[]⟩,0,0⟩)=b at U ⊢;go_enter Tryz.func155,Tryz.ntmps155
   go_wp2_with(first|(go_at_call 156;(with_reducible refine(u.out _).mono ?_);rintro e B ⟨rfl,a⟩;have f:=Af (Ag w (.cells (Bt g prev i kind Ab next q ok os n on 1 0 l m es (T) (D)) 47)) a;have p:=Aa (Cn a))|(go_at_call 157;(with_reducible refine(v.out _).mono ?_);rintro e G ⟨rfl,c⟩;have j:=Af f c;have s:=Aa (Ae (Cn a) c)))
   go_ret;exact⟨by simp,j⟩
  ·have F:(root==0)=false:=by simp[R]
   rw[show decide (Rc.F7 ⟨g,prev,i,kind,Ab,next,q,⟨ok,os,n,on⟩,1,root,⟨l,m,es⟩,K,L⟩)=false from decide_eq_false (fun h=>by
    rcases h with⟨_,P,_⟩|⟨o,_⟩
    ·exact R P
    ·simp only at o;omega)]
   clear R;go_enter Tryz.func155,Tryz.ntmps155
   go_wp2_with(first|(go_at_call 156;(with_reducible refine(u.out _).mono ?_);rintro e B ⟨rfl,a⟩;have f:=Af (Ag w (.cells (Bt g prev i kind Ab next q ok os n on 1 root l m es (T) (D)) 47)) a;have p:=Aa (Cn a))|(go_at_call 157;(with_reducible refine(v.out _).mono ?_);rintro e G ⟨rfl,c⟩;have j:=Af f c;have s:=Aa (Ae (Cn a) c)))
   go_ret;exact⟨by simp,j⟩
 ·have y:(d==1)=false:=by simp[x]
  have z:=Hq (show ∀ (h:¬ ((d=2∨d=3)∧Rc.pg root∧Rc.pg m∧Rc.sl es∧l.size≤100)),decide (Rc.F7 ⟨g,prev,i,kind,Ab,next,q,⟨ok,os,n,on⟩,d,root,⟨l,m,es⟩,K,L⟩)=false from fun h=>decide_eq_false (fun X=>by
   rcases X with⟨o,_⟩|o
   ·exact x o
   ·exact h o))
  by_cases N:d=2∨d=3
  rotate_left
  ·rw[z.out (fun h=>N h.1)]
   have Y:(d==2)=false:=(by simp;omega);have Z:(d==3)=false:=(by simp;omega);clear N x;go_enter Tryz.func155,Tryz.ntmps155
   go_wp2_with(first|(go_at_call 156;(with_reducible refine(u.out _).mono ?_);rintro e B ⟨rfl,a⟩;have f:=Af (Ag w (.cells (Bt g prev i kind Ab next q ok os n on d root l m es (T) (D)) 47)) a;have p:=Aa (Cn a))|(go_at_call 157;(with_reducible refine(v.out _).mono ?_);rintro e G ⟨rfl,c⟩;have j:=Af f c;have s:=Aa (Ae (Cn a) c)))
   go_ret;exact⟨by simp,j⟩
  have A:(d==2||d==3)=true:=by rcases N with rfl|rfl<;>rfl
  by_cases E:Rc.pg root
  rotate_left
  ·rw[decide_eq_false E]at M
   rw[z.out (fun h=>E h.2.1)];rcases N with rfl|rfl
   ·clear x A E y
    go_enter Tryz.func155,Tryz.ntmps155
    go_wp2_with(first|(go_at_call 156;(with_reducible refine(u.out _).mono ?_);rintro e B ⟨rfl,a⟩;have f:=Af (Ag w (.cells (Bt g prev i kind Ab next q ok os n on 2 root l m es (T) (D)) 47)) a;have p:=Aa (Cn a))|(go_at_call 157;(with_reducible refine(v.out _).mono ?_);rintro e G ⟨rfl,c⟩;have j:=Af f c;have s:=Aa (Ae (Cn a) c))|(go_at_call 156;(with_reducible refine(M.out _).mono ?_);rintro e V ⟨rfl,k⟩;have t:=Af j k;have H:=Aa (Ae (Ae (Cn a) c) k)))
    go_ret;exact⟨by simp,t⟩
   ·clear x A E y
    go_enter Tryz.func155,Tryz.ntmps155
    go_wp2_with(first|(go_at_call 156;(with_reducible refine(u.out _).mono ?_);rintro e B ⟨rfl,a⟩;have f:=Af (Ag w (.cells (Bt g prev i kind Ab next q ok os n on 3 root l m es (T) (D)) 47)) a;have p:=Aa (Cn a))|(go_at_call 157;(with_reducible refine(v.out _).mono ?_);rintro e G ⟨rfl,c⟩;have j:=Af f c;have s:=Aa (Ae (Cn a) c))|(go_at_call 156;(with_reducible refine(M.out _).mono ?_);rintro e V ⟨rfl,k⟩;have t:=Af j k;have H:=Aa (Ae (Ae (Cn a) c) k)))
    go_ret;exact⟨by simp,t⟩
  rw[decide_eq_true E]at M;have O:=Hq (show decide (Rc.F7 ⟨g,prev,i,kind,Ab,next,q,⟨ok,os,n,on⟩,d,root,⟨l,m,es⟩,K,L⟩)=decide (l.size≤100∧Rc.pg m∧Rc.sl es)from decide_eq_decide.2 ⟨fun h=>by
   rcases h with⟨o,_⟩|⟨_,_,P,h4,h5⟩
   ·exact absurd o x
   ·exact⟨h5,P,h4⟩,fun h=>.inr ⟨N,E,h.2.1,h.2.2,h.1⟩⟩)
  rw[O.out];generalize decide (l.size≤100∧Rc.pg m∧Rc.sl es)=b at Q ⊢;rcases N with rfl|rfl
  ·clear x A E y O z
   go_enter Tryz.func155,Tryz.ntmps155
   go_wp2_with(first|(go_at_call 156;(with_reducible refine(u.out _).mono ?_);rintro e B ⟨rfl,a⟩;have f:=Af (Ag w (.cells (Bt g prev i kind Ab next q ok os n on 2 root l m es (T) (D)) 47)) a;have p:=Aa (Cn a))|(go_at_call 157;(with_reducible refine(v.out _).mono ?_);rintro e G ⟨rfl,c⟩;have j:=Af f c;have s:=Aa (Ae (Cn a) c))|(go_at_call 156;(with_reducible refine(M.out _).mono ?_);rintro e V ⟨rfl,k⟩;have t:=Af j k;have H:=Aa (Ae (Ae (Cn a) c) k))|(go_at_call 201;(with_reducible refine(Q.out _).mono ?_);rintro e w5 ⟨rfl,I⟩;have J:=Af t I))
   go_ret;exact⟨by simp,J⟩
  ·clear x A E y O z
   go_enter Tryz.func155,Tryz.ntmps155
   go_wp2_with(first|(go_at_call 156;(with_reducible refine(u.out _).mono ?_);rintro e B ⟨rfl,a⟩;have f:=Af (Ag w (.cells (Bt g prev i kind Ab next q ok os n on 3 root l m es (T) (D)) 47)) a;have p:=Aa (Cn a))|(go_at_call 157;(with_reducible refine(v.out _).mono ?_);rintro e G ⟨rfl,c⟩;have j:=Af f c;have s:=Aa (Ae (Cn a) c))|(go_at_call 156;(with_reducible refine(M.out _).mono ?_);rintro e V ⟨rfl,k⟩;have t:=Af j k;have H:=Aa (Ae (Ae (Cn a) c) k))|(go_at_call 201;(with_reducible refine(Q.out _).mono ?_);rintro e w5 ⟨rfl,I⟩;have J:=Af t I))
   go_ret;exact⟨by simp,J⟩
theorem gW (r:Rc.Rec)(A B:Option Addr)(c d:Nat)(w:World)(hr:Hc w r A c B d):
 Cr 158 #[Dp r (.slice A r.txns.length c) (.slice B r.dirty.length d)] w (.bool (decide (Rc.Kl r))):=by
 obtain⟨T,prev,U,kind,Ab,next,nu,⟨ok,os,oo,on⟩,V,root,⟨ek,ep,es⟩,t,u⟩:=r;dsimp only[Dp,Ec];obtain⟨w0,N⟩:=ex (w.alloc (.cells (Bt T prev U kind Ab next nu ok os oo on V root ek ep es (.slice A t.length c) (.slice B u.length d)) 47));have v:=Hq (show Bw w w0 from by rw[N];exact Ag _ _);have F:=Hq (show w0.heap[w.heap.size]? =some (.cells (Bt T prev U kind Ab next nu ok os oo on V root ek ep es (.slice A t.length c) (.slice B u.length d)) 47 (0,0))from by rw[N];exact heap_alloc_new _ _);have HT:=Hq (show tY w0 A c t from hr.txns.below v.out);have HD:=Hq (show tZ w0 B d u from hr.dirty.below v.out);have ah:t.length≤140737488355328:=hr.small.1;have ai:u.length≤140737488355328:=hr.small.2;have HN:=Hq (fun n W=>Eo n W);have HP:=Hq (fun n W=>I7 n W);obtain⟨z,hz⟩:=ex (decide (Rc.Kl ⟨T,prev,U,kind,Ab,next,nu,⟨ok,os,oo,on⟩,V,root,⟨ek,ep,es⟩,t,u⟩));rw[← hz];have HZ:=Hq hz;clear hr hz;go_enter Tryz.func158,Tryz.ntmps158;go_upto_region 1 with fail;rw[← N];clear N;obtain⟨g,hg⟩:=ex w.heap.size;rw[← hg]at F;rw[← hg];clear hg;go_wp2_with fail
 go_loopw [3] (fun i wr=>∃ k:Nat,k≤t.length∧i= .int .i64 (k:Int)∧(∀ j (E:j<t.length),j<k→Rc.Uj t[j])∧Bw w0 wr) (fun i _=>t.length-(intOf i).toNat)
 case atStart=>exact⟨0,Nat.zero_le _,rfl,fun _ _ h=>absurd h (by omega),Below.refl _ _⟩
 case round=>
  obtain⟨k,hk,rfl,C,G⟩:=hrel;have Q:=Hq C;clear C;have X:=Aa (Ae F.out G)
  by_cases a8:k<t.length
  ·have ad:(k:Int)<(t.length:Int):=by omega
   have aj:(0:Int)≤(k:Int):=(by omega);have ak:IntKind.i64.wrap ((k:Int)+1)=(k:Int)+1:=IntWalk.i64_in _ (by omega);obtain⟨b1,off,rfl,hc,O,b⟩:=Cv Ic (HT.out.below G) a8;have l:=Hq (show ¬ Rc.Uj t[k]→z=false from fun h=>HZ.out.trans (decide_eq_false (fun y=>h (y.2.2.1 _ (List.getElem_mem a8)))));have H:=Hq (show Rc.Uj t[k]→∀ j (E:j<t.length),j<k+1→Rc.Uj t[j]from fun h j E Y=>by
    rcases Nat.lt_or_eq_of_le (Nat.le_of_lt_succ Y)with q|q
    ·exact Q.out j E q
    ·subst q;exact h)
   clear Q;generalize t[k]=x at b l H;obtain⟨I,J,R,x4⟩:=x;have HC:=Hq (show wr.rangeAt b1 (off+k*4) [.int .i64 I,.int .i64 J,.int .i64 R,.bool x4]from b);clear b hc
   go_upto_region 5 with(first
    |with_reducible refine wpList_load_mid rfl 83 (.tmp 16) rfl b1 (off+k*4) rfl [.int .i64 I,.int .i64 J,.int .i64 R,.bool x4] _ HC.out lR Kr Kr ?_
    |with_reducible refine sN #[I,J,R,x4] ?_)
   have Z:=Hq (heap_alloc_new wr (.cells #[I,J,R,x4] 83));have K:=Hq (Af G (Ag wr (.cells #[I,J,R,x4] 83)));obtain⟨gx,a1⟩:=ex wr.heap.size;obtain⟨W1,P⟩:=ex (wr.alloc (.cells #[I,J,R,x4] 83));rw[← a1,← P]at Z;rw[← P]at K;rw[← a1,← P];clear a1 P G X HC O;have an:=Aa Z.out;have H1:=Hq (fun W=>Eo I W);have M:=Hq (fun W=>Eo J W);have H3:=Hq (fun W=>Eo R W)
   by_cases q:Rc.num I
   rotate_left
   ·rw[decide_eq_false q]at H1
    have o:=Hq (l.out (fun h=>q h.1));clear q
    go_wp2_with(go_at_call 152;(with_reducible refine(H1.out _).mono ?_);rintro e w2 ⟨rfl,a⟩)
    go_ret;exact⟨by rw[o.out];rfl,Af v.out (Af K.out a)⟩
   rw[decide_eq_true q]at H1
   by_cases y:Rc.num J
   rotate_left
   ·rw[decide_eq_false y]at M
    have o:=Hq (l.out (fun h=>y h.2.1));clear q y
    go_wp2_with(first
     |(go_at_call 152;(with_reducible refine(H1.out _).mono ?_);rintro e w2 ⟨rfl,a⟩;have D:=Aa (Ae Z.out a))
     |(go_at_call 152;(with_reducible refine(M.out _).mono ?_);rintro e w3 ⟨rfl,s⟩))
    go_ret;exact⟨by rw[o.out];rfl,Af v.out (Af (Af K.out a) s)⟩
   rw[decide_eq_true y]at M
   by_cases h3:Rc.num R
   ·rw[decide_eq_true h3]at H3
    have L:=Hq (H.out ⟨q,y,h3⟩);clear q y h3
    go_wp2_with(first
     |(go_at_call 152;(with_reducible refine(H1.out _).mono ?_);rintro e w2 ⟨rfl,a⟩;have D:=Aa (Ae Z.out a))
     |(go_at_call 152;(with_reducible refine(M.out _).mono ?_);rintro e w3 ⟨rfl,s⟩;have aa:=Aa (Ae (Ae Z.out a) s))
     |(go_at_call 152;(with_reducible refine(H3.out _).mono ?_);rintro e w4 ⟨rfl,a6⟩))
    go_roundw
    case rel=>exact⟨k+1,by omega,by go_num,L.out,Af (Af (Af K.out a) s) a6⟩
    case measure=>simp[intOf];omega
   ·rw[decide_eq_false h3]at H3
    have o:=Hq (l.out (fun h=>h3 h.2.2));clear q y h3
    go_wp2_with(first
     |(go_at_call 152;(with_reducible refine(H1.out _).mono ?_);rintro e w2 ⟨rfl,a⟩;have D:=Aa (Ae Z.out a))
     |(go_at_call 152;(with_reducible refine(M.out _).mono ?_);rintro e w3 ⟨rfl,s⟩;have aa:=Aa (Ae (Ae Z.out a) s))
     |(go_at_call 152;(with_reducible refine(H3.out _).mono ?_);rintro e w4 ⟨rfl,a6⟩))
    go_ret;exact⟨by rw[o.out];rfl,Af v.out (Af (Af (Af K.out a) s) a6)⟩
  ·have ad:¬ (k:Int)<(t.length:Int):=by omega
   have ae:=Hq (show ∀ x∈t,Rc.Uj x from fun x hx=>by
    obtain⟨j,E,rfl⟩:=List.mem_iff_getElem.1 hx;exact Q.out j E (by omega))
   clear Q;obtain⟨wo,rfl⟩:=ex wr;go_wp2_with fail
   go_loopw [5] (fun i wr=>∃ k:Nat,k≤u.length∧i= .int .i64 (k:Int)∧(∀ j (E:j<u.length),j<k→Rc.Mp u[j])∧Bw w0 wr) (fun i _=>u.length-(intOf i).toNat)
   case atStart=>exact⟨0,Nat.zero_le _,rfl,fun _ _ h=>absurd h (by omega),G⟩
   case round=>
    obtain⟨m,hm,rfl,C,f⟩:=hrel;have Q:=Hq C;clear C X;have X:=Aa (Ae F.out f)
    by_cases S:m<u.length
    ·have af:(m:Int)<(u.length:Int):=by omega
     have ao:(0:Int)≤(m:Int):=(by omega);have aq:IntKind.i64.wrap ((m:Int)+1)=(m:Int)+1:=IntWalk.i64_in _ (by omega);obtain⟨b1,off,rfl,hc,O,b⟩:=Cv Ms (HD.out.below f) S;have q0:=b 0 _ rfl;have q1:=b 1 _ rfl;simp only[Nat.add_zero]at q0;have l:=Hq (show ¬ Rc.Mp u[m]→z=false from fun h=>HZ.out.trans (decide_eq_false (fun y=>h (y.2.2.2 _ (List.getElem_mem S)))));have H:=Hq (show Rc.Mp u[m]→∀ j (E:j<u.length),j<m+1→Rc.Mp u[j]from fun h j E Y=>by
      rcases Nat.lt_or_eq_of_le (Nat.le_of_lt_succ Y)with q|q
      ·exact Q.out j E q
      ·subst q;exact h)
     clear Q b hc;generalize u[m]=x at q0 q1 l H;obtain⟨I,J⟩:=x;have Q1:=Hq q1;have H1:=Hq (fun W=>I7 I W);have M:=Hq (fun W=>Eo J W)
     by_cases q:Rc.pg I
     rotate_left
     ·rw[decide_eq_false q]at H1
      have o:=Hq (l.out (fun h=>q h.1));clear q
      go_wp2_with(go_at_call 156;(with_reducible refine(H1.out _).mono ?_);rintro e w2 ⟨rfl,a⟩)
      go_ret;exact⟨by rw[o.out];rfl,Af v.out (Af f a)⟩
     rw[decide_eq_true q]at H1
     by_cases y:Rc.num J
     ·rw[decide_eq_true y]at M
      have L:=Hq (H.out ⟨q,y⟩);clear q y
      go_wp2_with(first
       |(go_at_call 156;(with_reducible refine(H1.out _).mono ?_);rintro e w2 ⟨rfl,a⟩;have D:=Aa (Ae (Ae F.out f) a);have ag:=(a.cell (p:=⟨b1,off+m*2+1,none⟩) O).trans Q1.out)
       |(go_at_call 152;(with_reducible refine(M.out _).mono ?_);rintro e w3 ⟨rfl,s⟩))
      go_roundw
      case rel=>exact⟨m+1,by omega,by go_num,L.out,Af (Af f a) s⟩
      case measure=>simp[intOf];omega
     ·rw[decide_eq_false y]at M
      have o:=Hq (l.out (fun h=>y h.2));clear q y
      go_wp2_with(first
       |(go_at_call 156;(with_reducible refine(H1.out _).mono ?_);rintro e w2 ⟨rfl,a⟩;have D:=Aa (Ae (Ae F.out f) a);have ag:=(a.cell (p:=⟨b1,off+m*2+1,none⟩) O).trans Q1.out)
       |(go_at_call 152;(with_reducible refine(M.out _).mono ?_);rintro e w3 ⟨rfl,s⟩))
      go_ret;exact⟨by rw[o.out];rfl,Af v.out (Af (Af f a) s)⟩
    ·have af:¬ (m:Int)<(u.length:Int):=by omega
     have o:=Hq (show z=(decide (t.length≤1000)&&decide (u.length≤2000))from by
      rw[HZ.out,← Bool.decide_and];exact decide_eq_decide.2 ⟨fun h=>⟨h.1,h.2.1⟩,fun h=>⟨h.1,h.2,ae.out,fun x hx=>by
       obtain⟨j,E,rfl⟩:=List.mem_iff_getElem.1 hx;exact Q.out j E (by have h9:j<u.length:=E;omega)⟩⟩)
     by_cases h5:(t.length:Int)≤1000
     ·have a7:t.length≤1000:=by omega
      go_wp2_with fail;go_ret;exact⟨by rw[o.out];simp[a7];try omega,Af v.out f⟩
     ·have a7:¬ t.length≤1000:=by omega
      go_wp2_with fail;go_ret;exact⟨by rw[o.out];simp[a7];try omega,Af v.out f⟩
end Go.Proofs.YtdfkambdagoojaaGreatDoor
namespace Rc
variable {lsn prev txn Ab next nu how root : Int} {op : Op} {e : Key} {ts : List Cw} {ds : List Cx}
theorem zH {r:Rec}(h:Bz r):num r.lsn∧num r.prev∧num r.txn:=(Hh h).nums
theorem Ts {kind:Int}(g:kind=1∨kind=5∨kind=6∨kind=7)(a:num lsn∧num prev∧num txn):
 Bz ⟨lsn,prev,txn,kind,Ab,next,nu,op,how,root,e,ts,ds⟩↔bare kind lsn prev txn=⟨lsn,prev,txn,kind,Ab,next,nu,op,how,root,e,ts,ds⟩:=by
 constructor
 ·intro h
  have F:=Hh h;have b:=F.bare (by unfold E8;simp only;omega);have c:=F.noTree (by simp only;omega);have d:=F.noNext (by unfold hasNext;simp only;omega);have f:=F.noLists (by simp only;omega);simp only at b c d f;obtain⟨rfl,rfl⟩:=b;obtain⟨rfl,rfl,rfl⟩:=c;obtain⟨rfl,rfl,rfl⟩:=f;subst d
  rfl
 ·intro h
  rw[← h];exact .small kind lsn prev txn g a.1 a.2.1 a.2.2
theorem r_2 (c:num lsn∧num prev∧num txn):
 Bz ⟨lsn,prev,txn,2,Ab,next,nu,op,how,root,e,ts,ds⟩↔(⟨lsn,prev,txn,2,Ab,0,0,op,how,root,e,[],[]⟩:Rec)=⟨lsn,prev,txn,2,Ab,next,nu,op,how,root,e,ts,ds⟩∧pg Ab∧Jr op∧F7 ⟨lsn,prev,txn,2,Ab,next,nu,op,how,root,e,ts,ds⟩:=by
 constructor
 ·intro h
  have F:=Hh h;have a:=F.change (by unfold E8;simp);have d:=F.tree rfl;have b:=F.noNext (by unfold hasNext;simp);have f:=F.noLists (by simp);simp only at a b f;obtain⟨rfl,rfl,rfl⟩:=f;subst b;exact⟨rfl,a.1,a.2,d⟩
 ·rintro⟨h,a,d,b⟩
  injection h with _ _ _ _ _ g i _ _ _ _ j k
  subst g i j k;exact .change lsn prev txn Ab op how root e c.1 c.2.1 c.2.2 a d b
theorem r_3 (d:num lsn∧num prev∧num txn):
 Bz ⟨lsn,prev,txn,3,Ab,next,nu,op,how,root,e,ts,ds⟩↔(⟨lsn,prev,txn,3,Ab,next,0,op,0,0,D6,[],[]⟩:Rec)=⟨lsn,prev,txn,3,Ab,next,nu,op,how,root,e,ts,ds⟩∧pg Ab∧Jr op∧num next:=by
 constructor
 ·intro h
  have F:=Hh h;have a:=F.change (by unfold E8;simp);have b:=F.noTree (by simp);have c:=F.next (by unfold hasNext;simp);have f:=F.noLists (by simp);simp only at a b c f;obtain⟨rfl,rfl,rfl⟩:=f;obtain⟨rfl,rfl,rfl⟩:=b;exact⟨rfl,a.1,a.2,c⟩
 ·rintro⟨h,a,b,c⟩
  injection h with _ _ _ _ _ _ g _ i j k l m
  subst g l m i j k;exact .clr lsn prev txn Ab op next d.1 d.2.1 d.2.2 a b c
theorem r_4 (b:num lsn∧num prev∧num txn):
 Bz ⟨lsn,prev,txn,4,Ab,next,nu,op,how,root,e,ts,ds⟩↔(⟨lsn,prev,txn,4,0,next,0,K9,0,0,D6,[],[]⟩:Rec)=⟨lsn,prev,txn,4,Ab,next,nu,op,how,root,e,ts,ds⟩∧num next:=by
 constructor
 ·intro h
  have F:=Hh h;have c:=F.bare (by unfold E8;simp);have d:=F.noTree (by simp);have a:=F.next (by unfold hasNext;simp);have f:=F.noLists (by simp);simp only at c d a f;obtain⟨rfl,rfl,rfl⟩:=f;obtain⟨rfl,rfl,rfl⟩:=d;obtain⟨rfl,rfl⟩:=c;exact⟨rfl,a⟩
 ·rintro⟨h,a⟩
  injection h with _ _ _ _ g _ i j k l m n o
  subst g j i n o k l m;exact .nest lsn prev txn next b.1 b.2.1 b.2.2 a
theorem r_8 (c:num lsn∧num prev∧num txn):
 Bz ⟨lsn,prev,txn,8,Ab,next,nu,op,how,root,e,ts,ds⟩↔(⟨lsn,prev,txn,8,Ab,0,0,op,0,0,D6,[],[]⟩:Rec)=⟨lsn,prev,txn,8,Ab,next,nu,op,how,root,e,ts,ds⟩∧pg Ab∧Jr op:=by
 constructor
 ·intro h
  have F:=Hh h;have a:=F.change (by unfold E8;simp);have b:=F.noTree (by simp);have d:=F.noNext (by unfold hasNext;simp);have f:=F.noLists (by simp);simp only at a b d f;obtain⟨rfl,rfl,rfl⟩:=f;obtain⟨rfl,rfl,rfl⟩:=b;subst d;exact⟨rfl,a.1,a.2⟩
 ·rintro⟨h,a,b⟩
  injection h with _ _ _ _ _ g i _ j k l m n
  subst g i m n j k l;exact .image lsn prev txn Ab op c.1 c.2.1 c.2.2 a b
theorem r_9 (c:num lsn∧num prev∧num txn):
 Bz ⟨lsn,prev,txn,9,Ab,next,nu,op,how,root,e,ts,ds⟩↔(⟨lsn,prev,txn,9,0,0,nu,K9,0,0,D6,ts,ds⟩:Rec)=⟨lsn,prev,txn,9,Ab,next,nu,op,how,root,e,ts,ds⟩∧num nu∧Kl ⟨lsn,prev,txn,9,Ab,next,nu,op,how,root,e,ts,ds⟩:=by
 constructor
 ·intro h
  have F:=Hh h;have a:=F.bare (by unfold E8;simp);have b:=F.noTree (by simp);have f:=F.noNext (by unfold hasNext;simp);have d:=F.lists rfl;simp only at a b f d;obtain⟨rfl,rfl⟩:=a;obtain⟨rfl,rfl,rfl⟩:=b;subst f;exact⟨rfl,d.1,d.2⟩
 ·rintro⟨h,a,b⟩
  injection h with _ _ _ _ g i _ j k l m _ _
  subst g i j k l m;exact .check lsn prev txn nu ts ds c.1 c.2.1 c.2.2 a b
theorem vX {r:Rec}(h:¬ (1≤r.kind∧r.kind≤9)):¬ Bz r:=fun a=>h (Hh a).kind
end Rc
