import Derived.Test.YtmldoihahndcgaaGreatDoorHs00
import Derived.Test.YtmldoihahndcgaaGreatDoorHs04
import Derived.Test.YtmldoihahndcgaaGreatDoorHs01
import Derived.Test.YtmldoihahndcgaaGreatDoorHs05
import Derived.Lib.ConvBytes
import Derived.Lib.AppendStr
import Derived.Lib.FrozenHead
import Derived.Deep.MidRow
import Derived.Lib.LazyBuf
import Derived.Test.YtmldoihahndcgaaGreatDoorHs03
set_option maxRecDepth 100000
set_option maxHeartbeats 16000000
set_option linter.unusedSimpArgs false
namespace Go.Proofs.YtmldoihahndcgaaGreatDoor
open Go.RowKit
theorem Ng (n b:Int)(w:World):
 Cr 312 #[n,b] w (.bool (decide (0≤n∧n<b))):=by
 by_cases a:0≤n
 ·by_cases c:n<b
  ·rw[decide_eq_true (And.intro a c)]
   go_enter Tryz.func312,Tryz.ntmps312;go_wp2_with fail;go_ret;exact⟨by simp,Below.refl _ _⟩
  ·rw[decide_eq_false (fun h:0≤n∧n<b=>c h.2)]
   go_enter Tryz.func312,Tryz.ntmps312;go_wp2_with fail;go_ret;exact⟨by simp,Below.refl _ _⟩
 ·rw[decide_eq_false (fun h:0≤n∧n<b=>a h.1)]
  go_enter Tryz.func312,Tryz.ntmps312;go_wp2_with fail;go_ret;exact⟨by simp,Below.refl _ _⟩
theorem Jl (n:Int)(w:World):
 Cr 267 #[n] w (.bool (decide (Rc.num n))):=by
 have b:=Hq (fun W=>by(have h:=Ng n 1099511627776 W);rw[show decide (0≤n∧n<1099511627776)=decide (Rc.num n)from decide_eq_decide.2 Iff.rfl]at h;exact h);go_enter Tryz.func267,Tryz.ntmps267
 go_wp2_with(go_at_call 312;(with_reducible refine(b.out _).mono ?_);rintro e c ⟨rfl,a⟩)
 go_ret;exact⟨rfl,a⟩
theorem Kb (n:Int)(w:World):
 Cr 271 #[n] w (.bool (decide (Rc.pg n))):=by
 have b:=Hq (fun W=>by(have h:=Ng n 8388608 W);rw[show decide (0≤n∧n<8388608)=decide (Rc.pg n)from decide_eq_decide.2 Iff.rfl]at h;exact h);go_enter Tryz.func271,Tryz.ntmps271
 go_wp2_with(go_at_call 312;(with_reducible refine(b.out _).mono ?_);rintro e c ⟨rfl,a⟩)
 go_ret;exact⟨rfl,a⟩
theorem Kc (n:Int)(w:World):
 Cr 316 #[n] w (.bool (decide (Rc.sl n))):=by
 have b:=Hq (fun W=>by(have h:=Ng n 32768 W);rw[show decide (0≤n∧n<32768)=decide (Rc.sl n)from decide_eq_decide.2 Iff.rfl]at h;exact h);go_enter Tryz.func316,Tryz.ntmps316
 go_wp2_with(go_at_call 312;(with_reducible refine(b.out _).mono ?_);rintro e c ⟨rfl,a⟩)
 go_ret;exact⟨rfl,a⟩
theorem Wi (o:Rc.Op)(w:World):
 Cr 272 #[mA o] w (.bool (decide (Rc.Ij o))):=by
 obtain⟨k,s,o,n⟩:=o
 by_cases t:1≤k
 rotate_left
 ·have g0:k<1:=by omega
  clear t;rw[show decide (Rc.Ij ⟨k,s,o,n⟩)=false from decide_eq_false (fun h=>by obtain⟨g,j,f,i,l⟩:=h;simp only at g j f i l;omega)];go_enter Tryz.func272,Tryz.ntmps272;go_wp2_with fail;go_ret;exact⟨by simp[*],Ab _ _⟩
 by_cases g:k≤7
 rotate_left
 ·have g1:7<k:=by omega
  clear g;rw[show decide (Rc.Ij ⟨k,s,o,n⟩)=false from decide_eq_false (fun h=>by obtain⟨g,j,f,i,l⟩:=h;simp only at g j f i l;omega)];go_enter Tryz.func272,Tryz.ntmps272;go_wp2_with fail;go_ret;exact⟨by simp[*],Ab _ _⟩
 cases m:decide (Rc.sl s)with
 |false=>
  rw[show decide (Rc.Ij ⟨k,s,o,n⟩)=false from decide_eq_false (fun h=>by obtain⟨g,j,f,i,l⟩:=h;simp only at g j f i l;exact of_decide_eq_false m f)];have p:=Hq m;clear m;go_enter Tryz.func272,Tryz.ntmps272
  go_wp2_with(first|(go_at_call 316;(with_reducible refine(Kc s _).mono ?_);rintro e q ⟨rfl,a⟩;rw[p.out];have b:=Ae (heap_alloc_new w _) a;have c:=Aa b 2;have d:=Aa b 3;clear b;simp at c d))
  go_ret;exact⟨by simp[*],Ad (Ab _ _) a⟩
 |true=>
 have p:=Hq m;have r:=Hq (of_decide_eq_true m);clear m
 by_cases f:(o.size:Int)≤512
 rotate_left
 ·have g3:512<(o.size:Int):=by omega
  clear f;rw[show decide (Rc.Ij ⟨k,s,o,n⟩)=false from decide_eq_false (fun h=>by obtain⟨g,j,f,i,l⟩:=h;simp only at g j f i l;omega)];go_enter Tryz.func272,Tryz.ntmps272
  go_wp2_with(first|(go_at_call 316;(with_reducible refine(Kc s _).mono ?_);rintro e q ⟨rfl,a⟩;rw[p.out];have b:=Ae (heap_alloc_new w _) a;have c:=Aa b 2;have d:=Aa b 3;clear b;simp at c d))
  go_ret;exact⟨by simp[*],Ad (Ab _ _) a⟩
 by_cases i:(n.size:Int)≤512
 rotate_left
 ·have g4:512<(n.size:Int):=by omega
  clear i;rw[show decide (Rc.Ij ⟨k,s,o,n⟩)=false from decide_eq_false (fun h=>by obtain⟨g,j,f,i,l⟩:=h;simp only at g j f i l;omega)];go_enter Tryz.func272,Tryz.ntmps272
  go_wp2_with(first|(go_at_call 316;(with_reducible refine(Kc s _).mono ?_);rintro e q ⟨rfl,a⟩;rw[p.out];have b:=Ae (heap_alloc_new w _) a;have c:=Aa b 2;have d:=Aa b 3;clear b;simp at c d))
  go_ret;exact⟨by simp[*],Ad (Ab _ _) a⟩
 rw[show decide (Rc.Ij ⟨k,s,o,n⟩)=true from decide_eq_true ⟨by assumption,by assumption,r.out,by show o.size≤512;omega,by show n.size≤512;omega⟩];go_enter Tryz.func272,Tryz.ntmps272
 go_wp2_with(first|(go_at_call 316;(with_reducible refine(Kc s _).mono ?_);rintro e q ⟨rfl,a⟩;rw[p.out];have b:=Ae (heap_alloc_new w _) a;have c:=Aa b 2;have d:=Aa b 3;clear b;simp at c d))
 go_ret;exact⟨by simp[*],Ad (Ab _ _) a⟩
theorem cU (f:Rc.Key)(w:World):
 Cr 315 #[rL f] w (.bool (decide (f.key.size≤100∧Rc.pg f.Ac∧Rc.sl f.slot))):=by
 obtain⟨k,p,s⟩:=f;dsimp only
 by_cases o:(k.size:Int)≤100
 ·have g:k.size≤100:=by omega
  have i:=Hq (fun W=>Kb p W);have j:=Hq (fun W=>Kc s W)
  by_cases b:Rc.pg p
  ·rw[decide_eq_true b]at i
   by_cases d:Rc.sl s
   ·rw[decide_eq_true d]at j
    rw[decide_eq_true (show k.size≤100∧Rc.pg p∧Rc.sl s from⟨g,b,d⟩)];clear b d;go_enter Tryz.func315,Tryz.ntmps315
    go_wp2_with(first
     |(go_at_call 271;(with_reducible refine(i.out _).mono ?_);rintro e l ⟨rfl,a⟩;have m:=Aa (Ae (heap_alloc_new w _) a))
     |(go_at_call 316;(with_reducible refine(j.out _).mono ?_);rintro e n ⟨rfl,c⟩))
    go_ret;exact⟨rfl,Ad (Ad (Ab _ _) a) c⟩
   ·rw[decide_eq_false d]at j
    rw[decide_eq_false (show ¬ (k.size≤100∧Rc.pg p∧Rc.sl s)from fun h=>d h.2.2)];clear b d;go_enter Tryz.func315,Tryz.ntmps315
    go_wp2_with(first
     |(go_at_call 271;(with_reducible refine(i.out _).mono ?_);rintro e l ⟨rfl,a⟩;have m:=Aa (Ae (heap_alloc_new w _) a))
     |(go_at_call 316;(with_reducible refine(j.out _).mono ?_);rintro e n ⟨rfl,c⟩))
    go_ret;exact⟨rfl,Ad (Ad (Ab _ _) a) c⟩
  ·rw[decide_eq_false b]at i
   rw[decide_eq_false (show ¬ (k.size≤100∧Rc.pg p∧Rc.sl s)from fun h=>b h.2.1)];clear b;go_enter Tryz.func315,Tryz.ntmps315
   go_wp2_with(go_at_call 271;(with_reducible refine(i.out _).mono ?_);rintro e l ⟨rfl,a⟩)
   go_ret;exact⟨rfl,Ad (Ab _ _) a⟩
 ·have g:100<(k.size:Int):=by omega
  rw[decide_eq_false (show ¬ (k.size≤100∧Rc.pg p∧Rc.sl s)from fun h=>by have:=h.1;omega)];go_enter Tryz.func315,Tryz.ntmps315;go_wp2_with fail;go_ret;exact⟨by simp,Ab _ _⟩
end Go.Proofs.YtmldoihahndcgaaGreatDoor
namespace Rc
def tB (s:ByteArray):ByteArray:=⟨(t s).toArray⟩
theorem fG (s:ByteArray):(tB s).size=2+s.size:=by
 unfold tB
 show(t s).toArray.size=_
 rw[List.size_toArray];unfold t;rw[List.length_append,A6];simp
theorem tK (s:ByteArray)(_h:s.size≤65535):Oct.Ba s.size 2++s=tB s:=by
 apply ByteArray.ext
 rw[ByteArray.data_append]
 apply Array.toList_inj.1
 rw[Array.toList_append,show Oct.Ba (s.size:Int) 2=Oct.Ba (s.size:Int) ((2:Nat):Int)from rfl,Oct.Bt _ _ (by omega)];unfold tB t p
 rfl
end Rc
namespace Go.Proofs.YtmldoihahndcgaaGreatDoor
open Go.RowKit
theorem Kz (s:ByteArray)(d:s.size≤65535)(w:World):
 Cr 275 #[s] w (.string (Rc.tB s)):=by
 have f:=Hq (fun W=>Ix (s.size:Int) 2 (by omega) (by omega) W);have g:=Hq (Rc.tK s d);have h:(Oct.Ba (s.size:Int) ((2:Nat):Int)).size=2:=Oct.Bh _ 2 (by omega);have a:(Oct.Ba (s.size:Int) 2).size=2:=h;have i:¬ (65535:Int)<(s.size:Int):=by omega
 have c:∀ W:World,(Op.stringOp .add (Oct.Ba (s.size:Int) 2) s).run Tryz.prog W= .ok (.string (Rc.tB s)) W:=fun W=>by
  rw[← g.out];exact run_string_add_sum W _ _ (by rw[a];omega)
 go_enter Tryz.func275,Tryz.ntmps275
 go_wp2_with(go_at_call 206;(with_reducible refine(f.out _).mono ?_);rintro e j ⟨rfl,b⟩)
 go_ret;exact⟨rfl,b⟩
theorem Sr (o:Rc.Op)(t:o.Cs.size≤65535)(v:o.new.size≤65535)(w:World):
 Cr 274 #[mA o] w (.string ⟨(Rc.Mn o).toArray⟩):=by
 obtain⟨k,sl,d,on⟩:=o;dsimp only at t v ⊢;have l:=Hq (fun W=>Ix k 1 (by omega) (by omega) W);have m:=Hq (fun W=>Ix sl 2 (by omega) (by omega) W);have n:=Hq (fun W=>Kz d t W);have q:=Hq (fun W=>Kz on v W);have z:(Oct.Ba k ((1:Nat):Int)).size=1:=Oct.Bh _ 1 (by omega);have z2:(Oct.Ba sl ((2:Nat):Int)).size=2:=Oct.Bh _ 2 (by omega);have z3:=Rc.fG d;have z4:=Rc.fG on;have A:=Hq (show Oct.Ba k 1++Oct.Ba sl 2++Rc.tB d++Rc.tB on=⟨(Rc.Mn ⟨k,sl,d,on⟩).toArray⟩from by
  apply ByteArray.ext
  rw[ByteArray.data_append,ByteArray.data_append,ByteArray.data_append]
  apply Array.toList_inj.1
  rw[Array.toList_append,Array.toList_append,Array.toList_append,show Oct.Ba k 1=Oct.Ba k ((1:Nat):Int)from rfl,show Oct.Ba sl 2=Oct.Ba sl ((2:Nat):Int)from rfl,Oct.Bt _ 1 (by omega),Oct.Bt _ 2 (by omega)];unfold Rc.Mn Rc.tB Rc.p;simp only[List.append_assoc])
 rw[← A.out];clear A;have B:(Oct.Ba k 1).size=1:=z;have C:(Oct.Ba sl 2).size=2:=z2;clear z z2;generalize Oct.Ba k 1=i at l B ⊢;generalize Oct.Ba sl 2=j at m C ⊢;generalize Rc.tB d=h at n z3 ⊢;generalize Rc.tB on=r at q z4 ⊢;have M:∀ W:World,(Op.stringOp .add i j).run Tryz.prog W= .ok (.string (i++j)) W:=fun W=>run_string_add_sum W _ _ (by omega);have D:(i++j).size=3:=by rw[ByteArray.size_append];omega
 generalize i++j=s at M D ⊢;have a2:∀ W:World,(Op.stringOp .add s h).run Tryz.prog W= .ok (.string (s++h)) W:=fun W=>run_string_add_sum W _ _ (by omega);have E:(s++h).size=3+h.size:=by rw[ByteArray.size_append];omega
 generalize s++h=x at a2 E ⊢;have a3:∀ W:World,(Op.stringOp .add x r).run Tryz.prog W= .ok (.string (x++r)) W:=fun W=>run_string_add_sum W _ _ (by omega);generalize x++r=C3 at a3 ⊢;clear B C D E z3 z4 t v;have F:=Hq (heap_alloc_new w (.cells #[k,sl,d,on] 83));have G:=Hq (Ab w (.cells #[k,sl,d,on] 83));go_enter Tryz.func274,Tryz.ntmps274;go_upto_region 1 with fail;obtain⟨g,y⟩:=ex w.heap.size;obtain⟨H,f⟩:=ex (w.alloc (.cells #[k,sl,d,on] 83));rw[← y,← f]at F;rw[← f]at G;rw[← y,← f];clear y f;have N:=Ae F.out (Below.refl _ H).drew;have O:=Ad G.out (Below.refl _ H).drew;refine Gd (S:=(fun u=>u.heap[g]? =some (.cells #[k,sl,d,on] 83 (0,0)))) (fun a=>?_);refine Au 0 ?_;refine Au 1 ?_;refine Au 3 ?_;refine Au 4 ?_;refine Au 7 ?_;refine Au 8 ?_;refine Au 11 ?_;refine Au 12 ?_;refine Ch 2 fun K c=>?_
 go_simp
 refine(l.out _).mono ?_;rintro e v1 ⟨rfl,b⟩;have I:=Ae N b;have i:=Ad O b;try clear hSn
 have hSn:=I;clear b;refine Bq c (fun a=>?_);clear c K;refine Ch 5 fun K c=>?_
 go_simp
 refine(m.out _).mono ?_;rintro e v2 ⟨rfl,b⟩;have J:=Ae I b;have j:=Ad i b;try clear hSn
 have hSn:=J;clear b;refine Bq c (fun a=>?_);clear c K;refine Au 6 ?_;refine Ch 9 fun K c=>?_
 go_simp
 refine(n.out _).mono ?_;rintro e v3 ⟨rfl,b⟩;have L:=Ae J b;have h:=Ad j b;try clear hSn
 have hSn:=L;clear b;refine Bq c (fun a=>?_);clear c K;refine Au 10 ?_;refine Ch 13 fun K c=>?_
 go_simp
 refine(q.out _).mono ?_;rintro e v4 ⟨rfl,b⟩;have P:=Ae L b;have r:=Ad h b;try clear hSn
 have hSn:=P;clear b;refine Bq c (fun a=>?_);clear c K;refine Au 14 ?_;refine Au 15 ?_;refine wpAnyH_done Kr ?_ _;clear a hSn;go_wp2_with fail;go_ret;exact⟨rfl,r⟩
end Go.Proofs.YtmldoihahndcgaaGreatDoor
namespace Rc
def mk (l:List UInt8):ByteArray:=⟨l.toArray⟩
theorem Qu (l:List UInt8):(mk l).size=l.length:=by unfold mk;show l.toArray.size=_;simp
theorem sA (a b:List UInt8):mk a++mk b=mk (a++b):=by
 apply ByteArray.ext
 rw[ByteArray.data_append];unfold mk
 simp
theorem sB (n:Int)(k:Nat)(hk:k≤8):Oct.Ba n (k:Int)=mk (p n k):=by
 apply ByteArray.ext
 apply Array.toList_inj.1
 rw[Oct.Bt _ _ hk]
 rfl
end Rc
namespace Go.Proofs.YtmldoihahndcgaaGreatDoor
open Go.RowKit
theorem Ft (n:Int)(k:Nat)(hk:k≤8)(w:World):
 Cr 206 #[n,.int .i64 (k:Int)] w (.string (Rc.mk (Rc.p n k))):=by
 rw[← Rc.sB n k hk];exact Ix n k (by omega) (by omega) w
theorem Fy (a b:List UInt8)(h:a.length+b.length≤1000000)(W:World):(Op.stringOp .add (Rc.mk a) (Rc.mk b)).run Tryz.prog W= .ok (.string (Rc.mk (a++b))) W:=by
 rw[← Rc.sA];exact run_string_add_sum W _ _ (by rw[Rc.Qu,Rc.Qu];omega)
def Kd (B:Nat)(w:World)(v:Value)(l:List UInt8):Prop:=
 ∃ g cap,v= .slice (some ⟨g,0,none⟩) l.length cap∧B≤g∧g<w.heap.size∧l.length≤cap∧cap≤maxLen∧
  (∀ j,j<cap→(w.cell? ⟨g,j,none⟩).isSome=true∧w.frozen? ⟨g,j,none⟩=false)∧∀ (j:Nat) (hj:j<l.length),w.cell? ⟨g,j,none⟩=some (.int .u8 (l[j].toNat:Int))
theorem Kd.below {B:Nat}{w w':World}{v:Value}{l:List UInt8}(h:Kd B w v l)(a:Bw w w'):Kd B w' v l:=by
 obtain⟨g,cap,d,e,b,f,i,k,m⟩:=h;refine⟨g,cap,d,e,Nat.lt_of_lt_of_le b a.size,f,i,fun j c=>?_,fun j c=>?_⟩
 ·rw[a.cell (p:=⟨g,j,none⟩) b,a.frozen (p:=⟨g,j,none⟩) b];exact k j c
 ·rw[a.cell (p:=⟨g,j,none⟩) b];exact m j c
theorem Kd.mono {B a:Nat}{w:World}{v:Value}{l:List UInt8}(h:Kd B w v l)(b:a≤B):Kd a w v l:=by
 obtain⟨g,cap,c,d,e⟩:=h;exact⟨g,cap,c,Nat.le_trans b d,e⟩
theorem jP (w:World)(s:ByteArray)(g:s.size≤1000000):Kd w.heap.size (Lib.bytesWorld w 5 s) (.slice (some ⟨w.heap.size,0,none⟩) s.size (grownCap w s.size 0 5)) s.data.toList:=by
 have a:s.data.toList.length=s.size:=by simp
 have c:=grownCap_ge w s.size 0 5;have d:=grownCap_le_maxLen w s.size 0 5 (by simp only[maxLen];omega);have b:(Lib.bytesCells w 5 s).size=grownCap w s.size 0 5:=by
  unfold Lib.bytesCells;rw[Array.size_append,Array.size_map,Array.size_replicate]
  show s.size+_=_
  omega
 have f:=Lib.bytesWorld_at_new w 5 s;refine⟨w.heap.size,_,by rw[a],Nat.le_refl _,by rw[Lib.bytesWorld_size];omega,by rw[a];exact c,d,fun j e=>⟨?_,?_⟩,fun j e=>?_⟩
 ·unfold World.cell?
  rw[f];simp only;rw[Array.getElem?_eq_getElem (by rw[b];exact e)]
  rfl
 ·unfold World.frozen?
  rw[f];simp only[Bool.and_eq_false_iff,decide_eq_false_iff_not]
  left
  rw[b];omega
 ·rw[Lib.bytesWorld_cell w 5 s j (by omega)]
  rw[List.getD_eq_getElem?_getD,List.getElem?_eq_getElem e,Option.getD_some]
theorem Kd.back {P:Program}{B:Nat}{w:World}{v:Value}{l:List UInt8}(h:Kd B w v l){t u e:TypeId}(a:P.underlying t=some (.slice e))(b:P.underlying e=some (.int .u8))(c:P.underlying u=some .string):
 (convert t u v).run P w= .ok (.string ⟨l.toArray⟩) w:=by
 obtain⟨g,cap,rfl,_,i,_,_,_,d⟩:=h;exact run_convert_bytes_back w t u e ⟨g,0,none⟩ cap l a b c (fun j f=>by rw[Addr.add_mid,Nat.zero_add];exact d j f)
theorem Kd.set {B:Nat}{w:World}{v:Value}{l:List UInt8}(h:Kd B w v l):∃ g c,v= .slice (some ⟨g,0,none⟩) l.length c∧B≤g∧∀ i (hi:i<l.length),w.cell? ⟨g,i,none⟩=some (.int .u8 (l[i].toNat:Int))∧w.frozen? ⟨g,i,none⟩=false∧
 ∀ y:UInt8,Kd B (w.setCell ⟨g,i,none⟩ (.int .u8 (y.toNat:Int))) v (l.set i y)∧Below B w (w.setCell ⟨g,i,none⟩ (.int .u8 (y.toNat:Int))):=by
 obtain⟨g,cap,k,b,o,q,r,d,f⟩:=h;refine⟨g,cap,k,b,fun i hi=>⟨f i hi,(d i (by omega)).2,fun y=>⟨?_,(show Below B w w from⟨rfl,rfl,rfl,Nat.le_refl _,fun _ _=>rfl⟩).setCell (p:=⟨g,i,none⟩) b _⟩⟩⟩;have m:(w.setCell ⟨g,i,none⟩ (.int .u8 (y.toNat:Int))).cell? ⟨g,i,none⟩=some (.int .u8 (y.toNat:Int)):=World.cell?_setCell_same _ _ _ (f i hi);have n:∀ j,j≠i→(w.setCell ⟨g,i,none⟩ (.int .u8 (y.toNat:Int))).cell? ⟨g,j,none⟩=w.cell? ⟨g,j,none⟩:=fun j a=>World.cell?_setCell_other _ _ _ _ (fun e:(⟨g,i,none⟩:Addr)=⟨g,j,none⟩=>a (by injection e with _ e _;exact e.symm));refine⟨g,cap,by rw[List.length_set];exact k,b,by rw[World.size_setCell];exact o,by rw[List.length_set];exact q,r,fun j a=>⟨?_,?_⟩,fun j a=>?_⟩
 ·by_cases e:j=i
  ·subst e;rw[m];rfl
  ·rw[n j e];exact(d j a).1
 ·rw[World.frozen?_setCell];exact(d j a).2
 ·rw[List.length_set]at a
  by_cases e:j=i
  ·subst e;rw[m,List.getElem_set_self]
  ·rw[n j e,List.getElem_set_ne (fun h=>e h.symm)];exact f j a
theorem jQ (r:Rc.Rec)(T D:Value)(w:World):
 Cr 268 #[D7 r T D] w (D7 (Rc.bare r.kind r.lsn r.prev r.txn) (.slice none 0 0) (.slice none 0 0)):=by
 obtain⟨lsn,prev,txn,kind,Ac,next,d,⟨ok,os,e,on⟩,c,root,⟨f,g,es⟩,h,i⟩:=r;dsimp only[D7,Dz,Rc.bare,Rc.Jr,Rc.Cm];go_enter Tryz.func268,Tryz.ntmps268;go_upto_region 1 with fail;have a:=Hp w (Ct lsn prev txn kind Ac next d ok os e on c root f g es (T) (D)) 88 sT 88;obtain⟨j,b⟩:=Ee a;rw[← b]at a ⊢;clear b;have k:=Aa a.out.Ai
 go_wp2_with(with_reducible refine lS (Ct lsn prev txn kind 0 0 0 0 0 ⟨#[]⟩ ⟨#[]⟩ 0 0 ⟨#[]⟩ 0 0 (.slice none 0 0) (.slice none 0 0)) a.out.Am ?_)
 refine rT1 a.out.Am Da ?_;exact⟨rfl,(a.out.row 1 _ _ rfl).below⟩
theorem Zl (r:Rc.Rec)(T D:Value)(w:World):
 Cr 270 #[D7 r T D] w (.bool (decide (Rc.pg r.Ac∧Rc.Ij r.op∧Rc.Fs r))):=by
 obtain⟨f,prev,g,kind,Ac,next,o,⟨ok,os,m,on⟩,how,root,⟨k,l,es⟩,I,J⟩:=r;dsimp only;have s:=Hq (fun W=>Kb Ac W);have t:=Hq (fun W=>Wi ⟨ok,os,m,on⟩ W);have K:=Hq (fun W=>Kb root W);have N:=Hq (fun W=>cU ⟨k,l,es⟩ W);dsimp only at N t
 by_cases h1:Rc.pg Ac
 rotate_left
 ·rw[decide_eq_false h1]at s
  rw[decide_eq_false (fun h=>h1 h.1)];clear h1;go_enter Tryz.func270,Tryz.ntmps270
  go_wp2_with(first|(go_at_call 271;(with_reducible refine(s.out _).mono ?_);rintro e z ⟨rfl,a⟩;have d:=Ad (Ab w (.cells (Ct f prev g kind Ac next o ok os m on how root k l es (T) (D)) 88)) a;have n:=Aa (Bo a)))
  go_ret;exact⟨rfl,d⟩
 rw[decide_eq_true h1]at s
 by_cases C:Rc.Ij ⟨ok,os,m,on⟩
 rotate_left
 ·rw[decide_eq_false C]at t
  rw[decide_eq_false (fun h=>C h.2.1)];clear h1 C;go_enter Tryz.func270,Tryz.ntmps270
  go_wp2_with(first|(go_at_call 271;(with_reducible refine(s.out _).mono ?_);rintro e z ⟨rfl,a⟩;have d:=Ad (Ab w (.cells (Ct f prev g kind Ac next o ok os m on how root k l es (T) (D)) 88)) a;have n:=Aa (Bo a))|(go_at_call 272;(with_reducible refine(t.out _).mono ?_);rintro e E ⟨rfl,c⟩;have i:=Ad d c;have p:=Aa (Ae (Bo a) c)))
  go_ret;exact⟨rfl,i⟩
 rw[decide_eq_true C]at t;have A:decide (Rc.pg Ac∧Rc.Ij ⟨ok,os,m,on⟩∧Rc.Fs ⟨f,prev,g,kind,Ac,next,o,⟨ok,os,m,on⟩,how,root,⟨k,l,es⟩,I,J⟩)=decide (Rc.Fs ⟨f,prev,g,kind,Ac,next,o,⟨ok,os,m,on⟩,how,root,⟨k,l,es⟩,I,J⟩):=decide_eq_decide.2 ⟨fun h=>h.2.2,fun h=>⟨h1,C,h⟩⟩;rw[A];clear A h1 C
 by_cases u:how=1
 ·subst u
  have P:=Hq (fun W=>L8 ⟨k,l,es⟩ ⟨⟨#[]⟩,0,0⟩ W)
  by_cases O:root=0
  ·subst O
   have Q:=P.out;have L:=Hq (show decide (Rc.Fs ⟨f,prev,g,kind,Ac,next,o,⟨ok,os,m,on⟩,1,0,⟨k,l,es⟩,I,J⟩)=decide ((⟨k,l,es⟩:Rc.Key)=⟨⟨#[]⟩,0,0⟩)from decide_eq_decide.2 ⟨fun h=>by
    rcases h with⟨_,_,M⟩|⟨h1,_⟩
    ·exact M
    ·simp only at h1;omega,fun h=>.inl ⟨rfl,rfl,h⟩⟩)
   rw[L.out];generalize decide ((⟨k,l,es⟩:Rc.Key)=⟨⟨#[]⟩,0,0⟩)=b at Q ⊢;go_enter Tryz.func270,Tryz.ntmps270
   go_wp2_with(first|(go_at_call 271;(with_reducible refine(s.out _).mono ?_);rintro e z ⟨rfl,a⟩;have d:=Ad (Ab w (.cells (Ct f prev g kind Ac next o ok os m on 1 0 k l es (T) (D)) 88)) a;have n:=Aa (Bo a))|(go_at_call 272;(with_reducible refine(t.out _).mono ?_);rintro e E ⟨rfl,c⟩;have i:=Ad d c;have p:=Aa (Ae (Bo a) c)))
   go_ret;exact⟨by simp,i⟩
  ·have C:(root==0)=false:=by simp[O]
   rw[show decide (Rc.Fs ⟨f,prev,g,kind,Ac,next,o,⟨ok,os,m,on⟩,1,root,⟨k,l,es⟩,I,J⟩)=false from decide_eq_false (fun h=>by
    rcases h with⟨_,M,_⟩|⟨h1,_⟩
    ·exact O M
    ·simp only at h1;omega)]
   clear O;go_enter Tryz.func270,Tryz.ntmps270
   go_wp2_with(first|(go_at_call 271;(with_reducible refine(s.out _).mono ?_);rintro e z ⟨rfl,a⟩;have d:=Ad (Ab w (.cells (Ct f prev g kind Ac next o ok os m on 1 root k l es (T) (D)) 88)) a;have n:=Aa (Bo a))|(go_at_call 272;(with_reducible refine(t.out _).mono ?_);rintro e E ⟨rfl,c⟩;have i:=Ad d c;have p:=Aa (Ae (Bo a) c)))
   go_ret;exact⟨by simp,i⟩
 ·have v:(how==1)=false:=by simp[u]
  have x:=Hq (show ∀ (h:¬ ((how=2∨how=3)∧Rc.pg root∧Rc.pg l∧Rc.sl es∧k.size≤100)),decide (Rc.Fs ⟨f,prev,g,kind,Ac,next,o,⟨ok,os,m,on⟩,how,root,⟨k,l,es⟩,I,J⟩)=false from fun h=>decide_eq_false (fun S=>by
   rcases S with⟨h1,_⟩|h1
   ·exact u h1
   ·exact h h1))
  by_cases hk:how=2∨how=3
  rotate_left
  ·rw[x.out (fun h=>hk h.1)]
   have U:(how==2)=false:=(by simp;omega);have V:(how==3)=false:=(by simp;omega);clear hk u;go_enter Tryz.func270,Tryz.ntmps270
   go_wp2_with(first|(go_at_call 271;(with_reducible refine(s.out _).mono ?_);rintro e z ⟨rfl,a⟩;have d:=Ad (Ab w (.cells (Ct f prev g kind Ac next o ok os m on how root k l es (T) (D)) 88)) a;have n:=Aa (Bo a))|(go_at_call 272;(with_reducible refine(t.out _).mono ?_);rintro e E ⟨rfl,c⟩;have i:=Ad d c;have p:=Aa (Ae (Bo a) c)))
   go_ret;exact⟨by simp,i⟩
  have y:(how==2||how==3)=true:=by rcases hk with rfl|rfl<;>rfl
  by_cases B:Rc.pg root
  rotate_left
  ·rw[decide_eq_false B]at K
   rw[x.out (fun h=>B h.2.1)];rcases hk with rfl|rfl
   ·clear u y B v
    go_enter Tryz.func270,Tryz.ntmps270
    go_wp2_with(first|(go_at_call 271;(with_reducible refine(s.out _).mono ?_);rintro e z ⟨rfl,a⟩;have d:=Ad (Ab w (.cells (Ct f prev g kind Ac next o ok os m on 2 root k l es (T) (D)) 88)) a;have n:=Aa (Bo a))|(go_at_call 272;(with_reducible refine(t.out _).mono ?_);rintro e E ⟨rfl,c⟩;have i:=Ad d c;have p:=Aa (Ae (Bo a) c))|(go_at_call 271;(with_reducible refine(K.out _).mono ?_);rintro e R ⟨rfl,j⟩;have q:=Ad i j;have F:=Aa (Ae (Ae (Bo a) c) j)))
    go_ret;exact⟨by simp,q⟩
   ·clear u y B v
    go_enter Tryz.func270,Tryz.ntmps270
    go_wp2_with(first|(go_at_call 271;(with_reducible refine(s.out _).mono ?_);rintro e z ⟨rfl,a⟩;have d:=Ad (Ab w (.cells (Ct f prev g kind Ac next o ok os m on 3 root k l es (T) (D)) 88)) a;have n:=Aa (Bo a))|(go_at_call 272;(with_reducible refine(t.out _).mono ?_);rintro e E ⟨rfl,c⟩;have i:=Ad d c;have p:=Aa (Ae (Bo a) c))|(go_at_call 271;(with_reducible refine(K.out _).mono ?_);rintro e R ⟨rfl,j⟩;have q:=Ad i j;have F:=Aa (Ae (Ae (Bo a) c) j)))
    go_ret;exact⟨by simp,q⟩
  rw[decide_eq_true B]at K;have L:=Hq (show decide (Rc.Fs ⟨f,prev,g,kind,Ac,next,o,⟨ok,os,m,on⟩,how,root,⟨k,l,es⟩,I,J⟩)=decide (k.size≤100∧Rc.pg l∧Rc.sl es)from decide_eq_decide.2 ⟨fun h=>by
   rcases h with⟨h1,_⟩|⟨_,_,M,X,Y⟩
   ·exact absurd h1 u
   ·exact⟨Y,M,X⟩,fun h=>.inr ⟨hk,B,h.2.1,h.2.2,h.1⟩⟩)
  rw[L.out];generalize decide (k.size≤100∧Rc.pg l∧Rc.sl es)=b at N ⊢;rcases hk with rfl|rfl
  ·clear u y B v L x
   go_enter Tryz.func270,Tryz.ntmps270
   go_wp2_with(first|(go_at_call 271;(with_reducible refine(s.out _).mono ?_);rintro e z ⟨rfl,a⟩;have d:=Ad (Ab w (.cells (Ct f prev g kind Ac next o ok os m on 2 root k l es (T) (D)) 88)) a;have n:=Aa (Bo a))|(go_at_call 272;(with_reducible refine(t.out _).mono ?_);rintro e E ⟨rfl,c⟩;have i:=Ad d c;have p:=Aa (Ae (Bo a) c))|(go_at_call 271;(with_reducible refine(K.out _).mono ?_);rintro e R ⟨rfl,j⟩;have q:=Ad i j;have F:=Aa (Ae (Ae (Bo a) c) j))|(go_at_call 315;(with_reducible refine(N.out _).mono ?_);rintro e Z ⟨rfl,G⟩;have H:=Ad q G))
   go_ret;exact⟨by simp,H⟩
  ·clear u y B v L x
   go_enter Tryz.func270,Tryz.ntmps270
   go_wp2_with(first|(go_at_call 271;(with_reducible refine(s.out _).mono ?_);rintro e z ⟨rfl,a⟩;have d:=Ad (Ab w (.cells (Ct f prev g kind Ac next o ok os m on 3 root k l es (T) (D)) 88)) a;have n:=Aa (Bo a))|(go_at_call 272;(with_reducible refine(t.out _).mono ?_);rintro e E ⟨rfl,c⟩;have i:=Ad d c;have p:=Aa (Ae (Bo a) c))|(go_at_call 271;(with_reducible refine(K.out _).mono ?_);rintro e R ⟨rfl,j⟩;have q:=Ad i j;have F:=Aa (Ae (Ae (Bo a) c) j))|(go_at_call 315;(with_reducible refine(N.out _).mono ?_);rintro e Z ⟨rfl,G⟩;have H:=Ad q G))
   go_ret;exact⟨by simp,H⟩
end Go.Proofs.YtmldoihahndcgaaGreatDoor
namespace Rc
variable {lsn prev txn Ac next nu how root : Int} {op : Op} {e : Key} {ts : List A9} {ds : List Bp}
theorem sC {r:Rec}(h:Bs r):num r.lsn∧num r.prev∧num r.txn:=(F0 h).nums
theorem qL {kind:Int}(hk:kind=1∨kind=5∨kind=6∨kind=7)(a:num lsn∧num prev∧num txn):
 Bs ⟨lsn,prev,txn,kind,Ac,next,nu,op,how,root,e,ts,ds⟩↔bare kind lsn prev txn=⟨lsn,prev,txn,kind,Ac,next,nu,op,how,root,e,ts,ds⟩:=by
 constructor
 ·intro h
  have F:=F0 h;have b:=F.bare (by unfold E1;simp only;omega);have c:=F.noTree (by simp only;omega);have d:=F.noNext (by unfold hasNext;simp only;omega);have f:=F.noLists (by simp only;omega);simp only at b c d f;obtain⟨rfl,rfl⟩:=b;obtain⟨rfl,rfl,rfl⟩:=c;obtain⟨rfl,rfl,rfl⟩:=f;subst d
  rfl
 ·intro h
  rw[← h];exact .small kind lsn prev txn hk a.1 a.2.1 a.2.2
theorem vB (c:num lsn∧num prev∧num txn):
 Bs ⟨lsn,prev,txn,2,Ac,next,nu,op,how,root,e,ts,ds⟩↔(⟨lsn,prev,txn,2,Ac,0,0,op,how,root,e,[],[]⟩:Rec)=⟨lsn,prev,txn,2,Ac,next,nu,op,how,root,e,ts,ds⟩∧pg Ac∧Ij op∧Fs ⟨lsn,prev,txn,2,Ac,next,nu,op,how,root,e,ts,ds⟩:=by
 constructor
 ·intro h
  have F:=F0 h;have a:=F.change (by unfold E1;simp);have d:=F.tree rfl;have b:=F.noNext (by unfold hasNext;simp);have f:=F.noLists (by simp);simp only at a b f;obtain⟨rfl,rfl,rfl⟩:=f;subst b;exact⟨rfl,a.1,a.2,d⟩
 ·rintro⟨h,a,d,b⟩
  injection h with _ _ _ _ _ g i _ _ _ _ j k
  subst g i j k;exact .change lsn prev txn Ac op how root e c.1 c.2.1 c.2.2 a d b
theorem vC (d:num lsn∧num prev∧num txn):
 Bs ⟨lsn,prev,txn,3,Ac,next,nu,op,how,root,e,ts,ds⟩↔(⟨lsn,prev,txn,3,Ac,next,0,op,0,0,Cm,[],[]⟩:Rec)=⟨lsn,prev,txn,3,Ac,next,nu,op,how,root,e,ts,ds⟩∧pg Ac∧Ij op∧num next:=by
 constructor
 ·intro h
  have F:=F0 h;have a:=F.change (by unfold E1;simp);have b:=F.noTree (by simp);have c:=F.next (by unfold hasNext;simp);have f:=F.noLists (by simp);simp only at a b c f;obtain⟨rfl,rfl,rfl⟩:=f;obtain⟨rfl,rfl,rfl⟩:=b;exact⟨rfl,a.1,a.2,c⟩
 ·rintro⟨h,a,b,c⟩
  injection h with _ _ _ _ _ _ g _ i j k l m
  subst g l m i j k;exact .clr lsn prev txn Ac op next d.1 d.2.1 d.2.2 a b c
theorem vD (c:num lsn∧num prev∧num txn):
 Bs ⟨lsn,prev,txn,8,Ac,next,nu,op,how,root,e,ts,ds⟩↔(⟨lsn,prev,txn,8,Ac,0,0,op,0,0,Cm,[],[]⟩:Rec)=⟨lsn,prev,txn,8,Ac,next,nu,op,how,root,e,ts,ds⟩∧pg Ac∧Ij op:=by
 constructor
 ·intro h
  have F:=F0 h;have a:=F.change (by unfold E1;simp);have b:=F.noTree (by simp);have d:=F.noNext (by unfold hasNext;simp);have f:=F.noLists (by simp);simp only at a b d f;obtain⟨rfl,rfl,rfl⟩:=f;obtain⟨rfl,rfl,rfl⟩:=b;subst d;exact⟨rfl,a.1,a.2⟩
 ·rintro⟨h,a,b⟩
  injection h with _ _ _ _ _ g i _ j k l m n
  subst g i m n j k l;exact .image lsn prev txn Ac op c.1 c.2.1 c.2.2 a b
end Rc
