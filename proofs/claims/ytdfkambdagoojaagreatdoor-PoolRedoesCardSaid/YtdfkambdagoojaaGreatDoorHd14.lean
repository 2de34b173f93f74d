import Derived.Test.YtdfkambdagoojaaGreatDoorHd00
import Derived.Test.YtdfkambdagoojaaGreatDoorHd07
import Derived.Test.YtdfkambdagoojaaGreatDoorHd01
import Derived.WalkSmall
import Derived.Deep.DeepCutAuto
set_option maxRecDepth 100000
set_option maxHeartbeats 16000000
set_option linter.unusedSimpArgs false
namespace Go.Proofs.YtdfkambdagoojaaGreatDoor
open Go.RowKit
structure I8 (w:World):Prop where
 tab:Lib.TabIs Tryz.prog w "internal/strconv.uint64pow10" .u64 Lib.pow10Tab
 syn:∃ tp p,w.var? Tryz.prog "strconv.ErrSyntax"=some #[.iface tp p]
 ran:∃ tp p,w.var? Tryz.prog "strconv.ErrRange"=some #[.iface tp p]
 size:5≤w.heap.size
theorem Abe:Tryz.prog.globalNamed "internal/strconv.uint64pow10"=some 3:=by kernel_rfl
theorem Abf:Tryz.prog.globalNamed "strconv.ErrSyntax"=some 0:=by kernel_rfl
theorem Abg:Tryz.prog.globalNamed "strconv.ErrRange"=some 1:=by kernel_rfl
theorem I8.below {w w':World}(h:I8 w)(a:Bw w w'):I8 w':=by
 have i:=h.size;obtain⟨c,d,e⟩:=h.syn;obtain⟨f,g,b⟩:=h.ran;exact⟨var?_below a Abe (by omega) h.tab,⟨c,d,var?_below a Abf (by omega) e⟩,⟨f,g,var?_below a Abg (by omega) b⟩,Nat.le_trans h.size a.size⟩
theorem dD (w:World)(k:Nat)(os:Array Obj):Bw w (Sort.grow (w.drewN k) os):=
 ⟨rfl,rfl,rfl,by show w.heap.size≤(w.heap++os).size;rw[Array.size_append];omega,fun j a=>by
   show(w.heap++os)[j]? =w.heap[j]?
   rw[Array.getElem?_append_left a]⟩
theorem dE (n:Int)(a: -9223372036854775808≤n)(b:n≤9223372036854775807)(w:World)(c:I8 w):
 Cr 210 #[n] w (.string (Js n)):=by
 refine(Tryz.strconv_Itoa n a b w c.tab).mono ?_;rintro e w' ⟨rfl,k,os,rfl⟩;exact⟨rfl,dD _ _ _⟩
theorem sP (s:ByteArray)(b:s.size≤281474976710656)(h:∀ v,Lib.atoiAll s.data.toList≠ .ok v)(w:World)(g:I8 w):
 Cq 209 #[s] w fun e w'=>∃ n p,e= .returned (.tuple #[n,.iface 239 p])∧Bw w w':=by
 cases c:Lib.atoiAll s.data.toList
 ·rename_i v;exact absurd c (h v)
 ·obtain⟨d,p,a⟩:=g.syn
  refine(Any.strconv_Atoi_syntax_var Tryz.laysC172 s b c d p w a).mono ?_;rintro e w' ⟨N,rfl,_,_,f⟩;exact⟨_,_,rfl,f⟩
 ·obtain⟨d,p,a⟩:=g.ran
  refine(Any.strconv_Atoi_range_var Tryz.laysC172 s b c d p w a).mono ?_;rintro e w' ⟨N,rfl,_,_,f⟩;exact⟨_,_,rfl,f⟩
theorem oD (s:ByteArray)(a:s.size≤281474976710656)(v:Int)(h:Lib.atoiAll s.data.toList= .ok v)(w:World):
 Cr 209 #[s] w (.tuple #[v,.nilIface]):=by
 refine(Tryz.strconv_Atoi_ok s (by omega) v h w).mono ?_;rintro e w' ⟨rfl,b⟩;refine⟨rfl,?_⟩;rcases b with rfl|⟨t,rfl⟩
 ·exact Below.refl _ _
 ·exact Le _ _ _
theorem Xo (p:ByteArray)(b:p.size≤140737488355328)(w:World):
 Cr 213 #[p] w (.string (Cj p 0)):=by
 have a:=Hq (fun W=>Kj p 0 b W);generalize Cj p 0=q at a ⊢;go_enter Tryz.func213,Tryz.ntmps213
 go_wp2_with(go_at_call 71;refine(a.out _).mono ?_;rintro e d ⟨rfl,c⟩)
 go_ret;exact⟨rfl,c⟩
abbrev E0 (o:Il):Value:=.agg #[o.kind,o.slot,o.A5,o.new]
structure Vq (X:Nat) (o:Il) (w0 u:World):Prop where
 c0:u.cell? ⟨X,0,none⟩=some (.int .i64 o.kind)
 c1:u.cell? ⟨X,1,none⟩=some (.int .i64 o.slot)
 c2:u.cell? ⟨X,2,none⟩=some (.string o.A5)
 c3:u.cell? ⟨X,3,none⟩=some (.string o.new)
 lt:X<u.heap.size
 below:Bw w0 u
abbrev E1 (X:Nat)(o:Il)(w0 u:World):Prop:=
 u.cell? ⟨X,0,none⟩=some (.int .i64 o.kind)∧u.cell? ⟨X,1,none⟩=some (.int .i64 o.slot)∧u.cell? ⟨X,2,none⟩=some (.string o.A5)∧u.cell? ⟨X,3,none⟩=some (.string o.new)∧Vq X o w0 u
theorem Vq.step {X:Nat}{o:Il}{b u v:World}(h:Vq X o b u)(a:Bw u v):Vq X o b v:=
 ⟨by rw[a.cell (p:=⟨X,0,none⟩) h.lt];exact h.c0,by rw[a.cell (p:=⟨X,1,none⟩) h.lt];exact h.c1,by rw[a.cell (p:=⟨X,2,none⟩) h.lt];exact h.c2,by rw[a.cell (p:=⟨X,3,none⟩) h.lt];exact h.c3,Nat.lt_of_lt_of_le h.lt a.size,Af h.below a⟩
theorem Vq.v {X:Nat}{o:Il}{a u:World}(h:Vq X o a u):E1 X o a u:=⟨h.c0,h.c1,h.c2,h.c3,h⟩
theorem De (w:World)(o:Il)(T:TypeId):Vq w.heap.size o w (w.alloc (.cells #[o.kind,o.slot,o.A5,o.new] T)):=by
 have h:=heap_alloc_new w (.cells #[o.kind,o.slot,o.A5,o.new] T);exact⟨by rw[Aa h];rfl,by rw[Aa h];rfl,by rw[Aa h];rfl,by rw[Aa h];rfl,by simp,Ag _ _⟩
theorem toList_nil (a:ByteArray):a.toList=[]↔a.size=0:=by
 rw[ByteArray.toList_eq];have h:a.data.toList.length=a.size:=by simp
 constructor
 ·intro e;rw[e]at h;exact h.symm
 ·intro e;exact List.eq_nil_of_length_eq_zero (by omega)
theorem E4 {a b:ByteArray}(h:a≠b):(a.toList==b.toList)=false:=by
 rw[ByteArray.toList_eq,ByteArray.toList_eq];exact beq_eq_false_iff_ne.2 (fun e=>h (ByteArray.ext (Array.toList_inj.1 e)))
theorem Ft {a:ByteArray}(h:a.size=0):a.toList=[]∧a.toList.isEmpty=true∧(a.toList==[])=true:=by
 have:=(toList_nil a).2 h;rw[this];simp
theorem Ez {a:ByteArray}(h:a.size≠0):¬ a.toList=[]∧a.toList.isEmpty=false∧(a.toList==[])=false:=by
 have b:¬ a.toList=[]:=fun e=>h ((toList_nil a).1 e);exact⟨b,by simpa using b,by simpa using b⟩
theorem oE (p:ByteArray)(o:Il)(F:p.size≤140737488355328)(G:o.new.size≤140737488355328)(w:World):
 Cr 179 #[p,E0 o] w (.tuple #[.string (Ih p o).1,.bool (Ih p o).2]):=by
 have s:=Hq (fun W=>Xo p F W);have x:=Hq (fun W=>Xo o.new G W);have H:=Hq (fun W=>Yi p F W);have y:=Hq (fun W=>Kj o.new ((Ac p).lsn:Nat) G W);have c:=Hq (De w o 40);obtain⟨R,B⟩:=ex (Ih p o);rw[← B];have C:=Hq B;clear B;have d:=Hq (fun h=>C.out.trans (if_neg h));have f:=Hq (fun h=>C.out.trans (if_pos h));clear C;obtain⟨kind,slot,A5,new⟩:=o;dsimp only[E0]at x y c d f ⊢;generalize Cj p 0=pp at s d f;generalize Cj new 0=n at x d f;generalize ((Ac p).lsn:Nat)=l at H y f;generalize Cj new (l:Int)=q at y f
 by_cases t:slot=0
 rotate_left
 ·have j:=Hq (d.out (fun h=>t h.1))
  have I:(slot==0)=false:=by simp[t]
  have J:(slot != 0)=true:=by simp[t]
  clear t d f;go_enter Tryz.func179,Tryz.ntmps179
  go_upto_region 1 with(fail)
  generalize w.alloc (.cells #[kind,slot,A5,new] 40)=V at c ⊢;refine Hw (S:=(fun u=>E1 w.heap.size ⟨kind,slot,A5,new⟩ w u)) (fun a=>?_) (by first|exact c.out.v|exact hSn|exact(c.out.step (Below.refl _ _).drew).v|exact(c.out.step (Dt _ _)).v);refine tkQ 0 ?_;refine tkQ 1 ?_;refine tkQ 2 ?_;refine tkQ 3 ?_;refine Eh 4 (some 11) rfl ?_
  try simp only[Act.put,pS]
  refine Eh 5 (some 12) rfl ?_
  try simp only[Act.put,pS]
  refine Eh 6 (some 13) rfl ?_
  try simp only[Act.put,pS]
  refine Eh 7 (some 14) rfl ?_
  try simp only[Act.put,pS]
  refine Eh 8 (some 15) rfl ?_
  try simp only[Act.put,pS]
  refine tkQ 9 ?_;refine tkQ 10 ?_;refine Eh 11 (some 18) rfl ?_
  try simp only[Act.put,pS]
  refine Eh 12 (some 19) rfl ?_
  try simp only[Act.put,pS]
  refine Eh 13 (some 20) rfl ?_
  try simp only[Act.put,pS]
  refine tkQ 14 ?_;refine tkQ 15 ?_;refine Eh 16 (some 23) rfl ?_
  try simp only[Act.put,pS]
  refine Eh 17 (some 24) rfl ?_
  try simp only[Act.put,pS]
  refine Eh 18 (some 25) rfl ?_
  try simp only[Act.put,pS]
  refine Eh 19 (some 26) rfl ?_
  try simp only[Act.put,pS]
  refine Eh 20 (some 27) rfl ?_
  try simp only[Act.put,pS]
  refine Eh 21 (some 28) rfl ?_
  try simp only[Act.put,pS]
  refine tkQ 22 ?_;refine wpAnyH_done Kr ?_ _;go_wp2_with fail;go_ret2;exact⟨by rw[j.out];rfl,a.2.2.2.2.below⟩
 ·subst t
  by_cases z:A5=pp
  rotate_left
  ·have j:=Hq (d.out (fun h=>z h.2.1))
   have L:=E4 z;clear z d f;go_enter Tryz.func179,Tryz.ntmps179
   go_upto_region 1 with(fail)
   generalize w.alloc (.cells #[kind,(),A5,new] 40)=V at c ⊢;refine Hw (S:=(fun u=>E1 w.heap.size ⟨kind,0,A5,new⟩ w u)) (fun a=>?_) (by first|exact c.out.v|exact hSn|exact(c.out.step (Below.refl _ _).drew).v|exact(c.out.step (Dt _ _)).v);refine tkQ 0 ?_;refine tkQ 1 ?_;refine tkQ 2 ?_;refine tkQ 3 ?_;refine tkQ 4 ?_;refine tkQ 5 ?_;refine tkQ 6 ?_;refine D3 7 fun K g=>?_
   go_simp
   refine(s.out _).mono ?_;rintro e k ⟨rfl,b⟩;have hSn:=(a.2.2.2.2.step b).v;clear a b;try go_simp
   refine Db g (fun a=>?_) (by first|exact c.out.v|exact hSn|exact(c.out.step (Below.refl _ _).drew).v|exact(c.out.step (Dt _ _)).v);clear g K;refine tkQ 8 ?_;refine tkQ 9 ?_;refine tkQ 10 ?_;refine Eh 11 (some 18) rfl ?_
   try simp only[Act.put,pS]
   refine Eh 12 (some 19) rfl ?_
   try simp only[Act.put,pS]
   refine Eh 13 (some 20) rfl ?_
   try simp only[Act.put,pS]
   refine tkQ 14 ?_;refine tkQ 15 ?_;refine Eh 16 (some 23) rfl ?_
   try simp only[Act.put,pS]
   refine Eh 17 (some 24) rfl ?_
   try simp only[Act.put,pS]
   refine Eh 18 (some 25) rfl ?_
   try simp only[Act.put,pS]
   refine Eh 19 (some 26) rfl ?_
   try simp only[Act.put,pS]
   refine Eh 20 (some 27) rfl ?_
   try simp only[Act.put,pS]
   refine Eh 21 (some 28) rfl ?_
   try simp only[Act.put,pS]
   refine tkQ 22 ?_;refine wpAnyH_done Kr ?_ _;go_wp2_with fail;go_ret2;exact⟨by rw[j.out];rfl,a.2.2.2.2.below⟩
  ·subst z
   have L:(A5.toList==A5.toList)=true:=beq_self_eq_true _
   by_cases m:new.size=0
   ·have j:=Hq (d.out (fun h=>h.2.2.1 m))
    obtain⟨M,z2,z3⟩:=Ft m;clear m d f;go_enter Tryz.func179,Tryz.ntmps179
    go_upto_region 1 with(fail)
    generalize w.alloc (.cells #[kind,(),A5,new] 40)=V at c ⊢;refine Hw (S:=(fun u=>E1 w.heap.size ⟨kind,0,A5,new⟩ w u)) (fun a=>?_) (by first|exact c.out.v|exact hSn|exact(c.out.step (Below.refl _ _).drew).v|exact(c.out.step (Dt _ _)).v);refine tkQ 0 ?_;refine tkQ 1 ?_;refine tkQ 2 ?_;refine tkQ 3 ?_;refine tkQ 4 ?_;refine tkQ 5 ?_;refine tkQ 6 ?_;refine D3 7 fun K g=>?_
    go_simp
    refine(s.out _).mono ?_;rintro e k ⟨rfl,b⟩;have hSn:=(a.2.2.2.2.step b).v;clear a b;try go_simp
    refine Db g (fun a=>?_) (by first|exact c.out.v|exact hSn|exact(c.out.step (Below.refl _ _).drew).v|exact(c.out.step (Dt _ _)).v);clear g K;refine tkQ 8 ?_;refine tkQ 9 ?_;refine tkQ 10 ?_;refine tkQ 11 ?_;refine tkQ 12 ?_;refine tkQ 13 ?_;refine tkQ 14 ?_;refine tkQ 15 ?_;refine Eh 16 (some 23) rfl ?_
    try simp only[Act.put,pS]
    refine Eh 17 (some 24) rfl ?_
    try simp only[Act.put,pS]
    refine Eh 18 (some 25) rfl ?_
    try simp only[Act.put,pS]
    refine Eh 19 (some 26) rfl ?_
    try simp only[Act.put,pS]
    refine Eh 20 (some 27) rfl ?_
    try simp only[Act.put,pS]
    refine Eh 21 (some 28) rfl ?_
    try simp only[Act.put,pS]
    refine tkQ 22 ?_;refine wpAnyH_done Kr ?_ _;go_wp2_with fail;go_ret2;exact⟨by rw[j.out];rfl,a.2.2.2.2.below⟩
   ·obtain⟨M,z2,z3⟩:=Ez m
    by_cases A:n=new
    rotate_left
    ·have j:=Hq (d.out (fun h=>A h.2.2.2))
     have D:=E4 A;clear A m d f;go_enter Tryz.func179,Tryz.ntmps179
     go_upto_region 1 with(fail)
     generalize w.alloc (.cells #[kind,(),A5,new] 40)=V at c ⊢;refine Hw (S:=(fun u=>E1 w.heap.size ⟨kind,0,A5,new⟩ w u)) (fun a=>?_) (by first|exact c.out.v|exact hSn|exact(c.out.step (Below.refl _ _).drew).v|exact(c.out.step (Dt _ _)).v);refine tkQ 0 ?_;refine tkQ 1 ?_;refine tkQ 2 ?_;refine tkQ 3 ?_;refine tkQ 4 ?_;refine tkQ 5 ?_;refine tkQ 6 ?_;refine D3 7 fun K g=>?_
     go_simp
     refine(s.out _).mono ?_;rintro e k ⟨rfl,b⟩;have hSn:=(a.2.2.2.2.step b).v;clear a b;try go_simp
     refine Db g (fun a=>?_) (by first|exact c.out.v|exact hSn|exact(c.out.step (Below.refl _ _).drew).v|exact(c.out.step (Dt _ _)).v);clear g K;refine tkQ 8 ?_;refine tkQ 9 ?_;refine tkQ 10 ?_;refine tkQ 11 ?_;refine tkQ 12 ?_;refine tkQ 13 ?_;refine tkQ 14 ?_;refine tkQ 15 ?_;refine tkQ 16 ?_;refine tkQ 17 ?_;refine tkQ 19 ?_;refine tkQ 20 ?_;refine D3 18 fun K g=>?_
     go_simp
     refine(x.out _).mono ?_;rintro e k ⟨rfl,b⟩;have hSn:=(a.2.2.2.2.step b).v;clear a b;try go_simp
     refine Db g (fun a=>?_) (by first|exact c.out.v|exact hSn|exact(c.out.step (Below.refl _ _).drew).v|exact(c.out.step (Dt _ _)).v);clear g K;refine tkQ 21 ?_;refine tkQ 22 ?_;refine wpAnyH_done Kr ?_ _;go_wp2_with fail;go_ret2;exact⟨by rw[j.out];rfl,a.2.2.2.2.below⟩
    ·subst A
     have D:(n.toList==n.toList)=true:=beq_self_eq_true _;have j:=Hq (f.out ⟨rfl,rfl,m,rfl⟩);clear m d f;go_enter Tryz.func179,Tryz.ntmps179
     go_upto_region 1 with(fail)
     generalize w.alloc (.cells #[kind,(),A5,n] 40)=V at c ⊢;refine Hw (S:=(fun u=>E1 w.heap.size ⟨kind,0,A5,n⟩ w u)) (fun a=>?_) (by first|exact c.out.v|exact hSn|exact(c.out.step (Below.refl _ _).drew).v|exact(c.out.step (Dt _ _)).v);refine tkQ 0 ?_;refine tkQ 1 ?_;refine tkQ 2 ?_;refine tkQ 3 ?_;refine tkQ 4 ?_;refine tkQ 5 ?_;refine tkQ 6 ?_;refine D3 7 fun K g=>?_
     go_simp
     refine(s.out _).mono ?_;rintro e k ⟨rfl,b⟩;have hSn:=(a.2.2.2.2.step b).v;clear a b;try go_simp
     refine Db g (fun a=>?_) (by first|exact c.out.v|exact hSn|exact(c.out.step (Below.refl _ _).drew).v|exact(c.out.step (Dt _ _)).v);clear g K;refine tkQ 8 ?_;refine tkQ 9 ?_;refine tkQ 10 ?_;refine tkQ 11 ?_;refine tkQ 12 ?_;refine tkQ 13 ?_;refine tkQ 14 ?_;refine tkQ 15 ?_;refine tkQ 16 ?_;refine tkQ 17 ?_;refine tkQ 19 ?_;refine tkQ 20 ?_;refine D3 18 fun K g=>?_
     go_simp
     refine(x.out _).mono ?_;rintro e k ⟨rfl,b⟩;have hSn:=(a.2.2.2.2.step b).v;clear a b;try go_simp
     refine Db g (fun a=>?_) (by first|exact c.out.v|exact hSn|exact(c.out.step (Below.refl _ _).drew).v|exact(c.out.step (Dt _ _)).v);clear g K;refine tkQ 21 ?_;refine tkQ 22 ?_;refine wpAnyH_done Kr ?_ _;have i:=Hq a.2.2.2.2;clear a hSn
     go_upto_region 3 with(fail)
     refine Hw (S:=(fun u=>E1 w.heap.size ⟨kind,0,A5,n⟩ w u)) (fun a=>?_) (by first|exact i.out.v|exact hSn|exact(i.out.step (Below.refl _ _).drew).v|exact(i.out.step (Dt _ _)).v);refine tkQ 0 ?_;refine tkQ 1 ?_;refine tkQ 2 ?_;refine D3 3 fun K g=>?_
     go_simp
     refine(H.out _).mono ?_;rintro e k ⟨rfl,b⟩;have hSn:=(a.2.2.2.2.step b).v;clear a b;try go_simp
     refine Db g (fun a=>?_) (by first|exact i.out.v|exact hSn|exact(i.out.step (Below.refl _ _).drew).v|exact(i.out.step (Dt _ _)).v);clear g K;refine D3 4 fun K g=>?_
     go_simp
     refine(y.out _).mono ?_;rintro e k ⟨rfl,b⟩;have hSn:=(a.2.2.2.2.step b).v;clear a b;try go_simp
     refine Db g (fun a=>?_) (by first|exact i.out.v|exact hSn|exact(i.out.step (Below.refl _ _).drew).v|exact(i.out.step (Dt _ _)).v);clear g K;refine tkQ 5 ?_;refine wpAnyH_done Kr ?_ _
     by_cases r:q.size=0
     ·obtain⟨N,O,P⟩:=Ft r
      have E:=Hq (decide_eq_true r);clear r;go_wp2_with fail;go_ret2;exact⟨by rw[j.out,E.out];simp,a.2.2.2.2.below⟩
     ·obtain⟨N,O,P⟩:=Ez r
      have E:=Hq (decide_eq_false r);clear r;go_wp2_with fail;go_ret2;exact⟨by rw[j.out,E.out];simp,a.2.2.2.2.below⟩
theorem hJ {l:List UInt8}{v:Int}(h:Lib.atoiAll l= .ok v): -9223372036854775808≤v∧v≤9223372036854775807:=by
 cases l with
 |nil=>cases h
 |cons c r=>
  simp only[Lib.atoiAll]at h
  cases a:Lib.parseMag (if c.toNat=43∨c.toNat=45 then r else c::r)
  ·rename_i u
   rw[a]at h;simp only at h
   split at h
   ·cases h
   ·split at h
    ·cases h
    ·injection h with h
     subst h
     split<;>omega
  ·rw[a]at h;cases h
  ·rw[a]at h;cases h
theorem iA {p:ByteArray}{o:Il}(h:∀ v,Lib.atoiAll o.new.data.toList≠ .ok v):Ek p o=Dm:=by
 unfold Ek
 split
 ·rename_i v a;exact absurd a (h v)
 ·rfl
theorem dF {p:ByteArray}{o:Il}{n:Int}(h:Lib.atoiAll o.new.data.toList= .ok n):Ek p o=if Js n=o.new∧o.A5=Js ((Ac p).link:Nat)∧o.slot=0 then(D9 p n,!decide ((D9 p n).size=0))else Dm:=by
 unfold Ek;rw[h]
theorem iB (p:ByteArray)(o:Il)(T:p.size≤140737488355328)(ho:o.new.size≤140737488355328)(w:World)(F:I8 w):
 Cr 178 #[p,E0 o] w (.tuple #[.string (Ek p o).1,.bool (Ek p o).2]):=by
 have i:=Hq (De w o 40);have j:=Hq F;clear F;obtain⟨R,N⟩:=ex (Ek p o);rw[← N];have G:=Hq N;clear N
 by_cases y:∃ v,Lib.atoiAll o.new.data.toList= .ok v
 rotate_left
 ·have r:∀ v,Lib.atoiAll o.new.data.toList≠ .ok v:=fun v F=>y ⟨v,F⟩
  have s:=Hq (G.out.trans (iA r));have x:=Hq (fun W C=>sP o.new (by omega) r W C);clear y r G;obtain⟨kind,slot,A5,new⟩:=o;dsimp only[E0]at i x s ⊢;go_enter Tryz.func178,Tryz.ntmps178
  go_upto_region 2 with((go_at_call 209;refine(x.out _ (j.out.below (Ag _ _))).mono ?_;rintro e H ⟨n,pp,rfl,c⟩))
  have d:=Hq (i.out.step c);have f:=Hq (j.out.below (Af (Ag _ _) c));clear i j c;refine Hw (S:=(fun u=>E1 w.heap.size ⟨kind,slot,A5,new⟩ w u∧I8 u)) (fun a=>?_) (by first|exact⟨d.out.v,f.out⟩|exact hSn|exact⟨(d.out.step (Below.refl _ _).drew).v,f.out.below (Below.refl _ _).drew⟩);refine tkQ 0 ?_;refine tkQ 1 ?_;refine tkQ 2 ?_;refine Eh 3 (some 18) rfl ?_
  try simp only[Act.put,pS]
  refine Eh 4 (some 19) rfl ?_
  try simp only[Act.put,pS]
  refine Eh 5 (some 20) rfl ?_
  try simp only[Act.put,pS]
  refine Eh 6 (some 21) rfl ?_
  try simp only[Act.put,pS]
  refine Eh 7 (some 22) rfl ?_
  try simp only[Act.put,pS]
  refine tkQ 8 ?_;refine tkQ 9 ?_;refine Eh 10 (some 25) rfl ?_
  try simp only[Act.put,pS]
  refine Eh 11 (some 26) rfl ?_
  try simp only[Act.put,pS]
  refine Eh 12 (some 27) rfl ?_
  try simp only[Act.put,pS]
  refine Eh 13 (some 28) rfl ?_
  try simp only[Act.put,pS]
  refine Eh 14 (some 29) rfl ?_
  try simp only[Act.put,pS]
  refine Eh 15 (some 30) rfl ?_
  try simp only[Act.put,pS]
  refine tkQ 16 ?_;refine tkQ 17 ?_;refine Eh 18 (some 33) rfl ?_
  try simp only[Act.put,pS]
  refine Eh 19 (some 34) rfl ?_
  try simp only[Act.put,pS]
  refine Eh 20 (some 35) rfl ?_
  try simp only[Act.put,pS]
  refine tkQ 21 ?_;refine wpAnyH_done Kr ?_ _;go_wp2_with fail;go_ret2;exact⟨by rw[s.out];rfl,a.1.2.2.2.2.below⟩
 ·obtain⟨n,I⟩:=y
  obtain⟨X,Y⟩:=hJ I;have x:=Hq (fun W=>oD o.new (by omega) n I W);have z:=Hq (G.out.trans (dF I));have D:=Hq (fun W C=>dE n X Y W C);have J:=Hq (fun W=>qC p T W);have HJ:=Hq (fun W C=>dE ((Ac p).link:Nat) (by omega) (by have:=Kt p;omega) W C);have O:=Hq (fun W=>aS p n T W);have l:=Hq (fun h=>z.out.trans (if_neg h));have m:=Hq (fun h=>z.out.trans (if_pos h));clear I G z;obtain⟨kind,slot,A5,new⟩:=o;dsimp only[E0]at i x l m ⊢;generalize Js n=tn at D l m;generalize Js ((Ac p).link:Nat)=tk at HJ l m;generalize ((Ac p).link:Nat)=k at J HJ;generalize D9 p n=q at O m
  by_cases L:tn=new
  rotate_left
  ·have s:=Hq (l.out (fun h=>L h.1))
   have Z:=E4 L;clear L l m;go_enter Tryz.func178,Tryz.ntmps178
   go_upto_region 2 with((go_at_call 209;refine(x.out _).mono ?_;rintro e H ⟨rfl,c⟩))
   have d:=Hq (i.out.step c);have f:=Hq (j.out.below (Af (Ag _ _) c));clear i j c;refine Hw (S:=(fun u=>E1 w.heap.size ⟨kind,slot,A5,new⟩ w u∧I8 u)) (fun a=>?_) (by first|exact⟨d.out.v,f.out⟩|exact hSn|exact⟨(d.out.step (Below.refl _ _).drew).v,f.out.below (Below.refl _ _).drew⟩);refine tkQ 0 ?_;refine tkQ 1 ?_;refine tkQ 2 ?_;refine tkQ 3 ?_;refine tkQ 5 ?_;refine tkQ 6 ?_;refine D3 4 fun K g=>?_
   go_simp
   refine(D.out _ a.2).mono ?_;rintro e t ⟨rfl,b⟩;have hSn:=And.intro (a.1.2.2.2.2.step b).v (a.2.below b);clear a b;try go_simp
   refine Db g (fun a=>?_) (by first|exact⟨d.out.v,f.out⟩|exact hSn|exact⟨(d.out.step (Below.refl _ _).drew).v,f.out.below (Below.refl _ _).drew⟩);clear g K;refine tkQ 7 ?_;refine tkQ 8 ?_;refine tkQ 9 ?_;refine Eh 10 (some 25) rfl ?_
   try simp only[Act.put,pS]
   refine Eh 11 (some 26) rfl ?_
   try simp only[Act.put,pS]
   refine Eh 12 (some 27) rfl ?_
   try simp only[Act.put,pS]
   refine Eh 13 (some 28) rfl ?_
   try simp only[Act.put,pS]
   refine Eh 14 (some 29) rfl ?_
   try simp only[Act.put,pS]
   refine Eh 15 (some 30) rfl ?_
   try simp only[Act.put,pS]
   refine tkQ 16 ?_;refine tkQ 17 ?_;refine Eh 18 (some 33) rfl ?_
   try simp only[Act.put,pS]
   refine Eh 19 (some 34) rfl ?_
   try simp only[Act.put,pS]
   refine Eh 20 (some 35) rfl ?_
   try simp only[Act.put,pS]
   refine tkQ 21 ?_;refine wpAnyH_done Kr ?_ _;go_wp2_with fail;go_ret2;exact⟨by rw[s.out];rfl,a.1.2.2.2.2.below⟩
  ·subst L
   have Z:(tn.toList==tn.toList)=true:=beq_self_eq_true _
   by_cases M:A5=tk
   rotate_left
   ·have s:=Hq (l.out (fun h=>M h.2.1))
    have P:=E4 M;clear M l m;go_enter Tryz.func178,Tryz.ntmps178
    go_upto_region 2 with((go_at_call 209;refine(x.out _).mono ?_;rintro e H ⟨rfl,c⟩))
    have d:=Hq (i.out.step c);have f:=Hq (j.out.below (Af (Ag _ _) c));clear i j c;refine Hw (S:=(fun u=>E1 w.heap.size ⟨kind,slot,A5,tn⟩ w u∧I8 u)) (fun a=>?_) (by first|exact⟨d.out.v,f.out⟩|exact hSn|exact⟨(d.out.step (Below.refl _ _).drew).v,f.out.below (Below.refl _ _).drew⟩);refine tkQ 0 ?_;refine tkQ 1 ?_;refine tkQ 2 ?_;refine tkQ 3 ?_;refine tkQ 5 ?_;refine tkQ 6 ?_;refine D3 4 fun K g=>?_
    go_simp
    refine(D.out _ a.2).mono ?_;rintro e t ⟨rfl,b⟩;have hSn:=And.intro (a.1.2.2.2.2.step b).v (a.2.below b);clear a b;try go_simp
    refine Db g (fun a=>?_) (by first|exact⟨d.out.v,f.out⟩|exact hSn|exact⟨(d.out.step (Below.refl _ _).drew).v,f.out.below (Below.refl _ _).drew⟩);clear g K;refine tkQ 7 ?_;refine tkQ 8 ?_;refine tkQ 9 ?_;refine tkQ 10 ?_;refine tkQ 11 ?_;refine tkQ 12 ?_;refine D3 13 fun K g=>?_
    go_simp
    refine(J.out _).mono ?_;rintro e t ⟨rfl,b⟩;have hSn:=And.intro (a.1.2.2.2.2.step b).v (a.2.below b);clear a b;try go_simp
    refine Db g (fun a=>?_) (by first|exact⟨d.out.v,f.out⟩|exact hSn|exact⟨(d.out.step (Below.refl _ _).drew).v,f.out.below (Below.refl _ _).drew⟩);clear g K;refine D3 14 fun K g=>?_
    go_simp
    refine(HJ.out _ a.2).mono ?_;rintro e t ⟨rfl,b⟩;have hSn:=And.intro (a.1.2.2.2.2.step b).v (a.2.below b);clear a b;try go_simp
    refine Db g (fun a=>?_) (by first|exact⟨d.out.v,f.out⟩|exact hSn|exact⟨(d.out.step (Below.refl _ _).drew).v,f.out.below (Below.refl _ _).drew⟩);clear g K;refine tkQ 15 ?_;refine tkQ 16 ?_;refine tkQ 17 ?_;refine Eh 18 (some 33) rfl ?_
    try simp only[Act.put,pS]
    refine Eh 19 (some 34) rfl ?_
    try simp only[Act.put,pS]
    refine Eh 20 (some 35) rfl ?_
    try simp only[Act.put,pS]
    refine tkQ 21 ?_;refine wpAnyH_done Kr ?_ _;go_wp2_with fail;go_ret2;exact⟨by rw[s.out];rfl,a.1.2.2.2.2.below⟩
   ·subst M
    have P:(A5.toList==A5.toList)=true:=beq_self_eq_true _
    by_cases E:slot=0
    rotate_left
    ·have s:=Hq (l.out (fun h=>E h.2.2))
     have U:(slot==0)=false:=(by simp[E]);have V:(slot != 0)=true:=(by simp[E]);clear E l m;go_enter Tryz.func178,Tryz.ntmps178
     go_upto_region 2 with((go_at_call 209;refine(x.out _).mono ?_;rintro e H ⟨rfl,c⟩))
     have d:=Hq (i.out.step c);have f:=Hq (j.out.below (Af (Ag _ _) c));clear i j c;refine Hw (S:=(fun u=>E1 w.heap.size ⟨kind,slot,A5,tn⟩ w u∧I8 u)) (fun a=>?_) (by first|exact⟨d.out.v,f.out⟩|exact hSn|exact⟨(d.out.step (Below.refl _ _).drew).v,f.out.below (Below.refl _ _).drew⟩);refine tkQ 0 ?_;refine tkQ 1 ?_;refine tkQ 2 ?_;refine tkQ 3 ?_;refine tkQ 5 ?_;refine tkQ 6 ?_;refine D3 4 fun K g=>?_
     go_simp
     refine(D.out _ a.2).mono ?_;rintro e t ⟨rfl,b⟩;have hSn:=And.intro (a.1.2.2.2.2.step b).v (a.2.below b);clear a b;try go_simp
     refine Db g (fun a=>?_) (by first|exact⟨d.out.v,f.out⟩|exact hSn|exact⟨(d.out.step (Below.refl _ _).drew).v,f.out.below (Below.refl _ _).drew⟩);clear g K;refine tkQ 7 ?_;refine tkQ 8 ?_;refine tkQ 9 ?_;refine tkQ 10 ?_;refine tkQ 11 ?_;refine tkQ 12 ?_;refine D3 13 fun K g=>?_
     go_simp
     refine(J.out _).mono ?_;rintro e t ⟨rfl,b⟩;have hSn:=And.intro (a.1.2.2.2.2.step b).v (a.2.below b);clear a b;try go_simp
     refine Db g (fun a=>?_) (by first|exact⟨d.out.v,f.out⟩|exact hSn|exact⟨(d.out.step (Below.refl _ _).drew).v,f.out.below (Below.refl _ _).drew⟩);clear g K;refine D3 14 fun K g=>?_
     go_simp
     refine(HJ.out _ a.2).mono ?_;rintro e t ⟨rfl,b⟩;have hSn:=And.intro (a.1.2.2.2.2.step b).v (a.2.below b);clear a b;try go_simp
     refine Db g (fun a=>?_) (by first|exact⟨d.out.v,f.out⟩|exact hSn|exact⟨(d.out.step (Below.refl _ _).drew).v,f.out.below (Below.refl _ _).drew⟩);clear g K;refine tkQ 15 ?_;refine tkQ 16 ?_;refine tkQ 17 ?_;refine tkQ 18 ?_;refine tkQ 19 ?_;refine tkQ 20 ?_;refine tkQ 21 ?_;refine wpAnyH_done Kr ?_ _;go_wp2_with fail;go_ret2;exact⟨by rw[s.out];rfl,a.1.2.2.2.2.below⟩
    ·subst E
     have s:=Hq (m.out ⟨rfl,rfl,rfl⟩);clear l m;go_enter Tryz.func178,Tryz.ntmps178
     go_upto_region 2 with((go_at_call 209;refine(x.out _).mono ?_;rintro e H ⟨rfl,c⟩))
     have d:=Hq (i.out.step c);have f:=Hq (j.out.below (Af (Ag _ _) c));clear i j c;refine Hw (S:=(fun u=>E1 w.heap.size ⟨kind,0,A5,tn⟩ w u∧I8 u)) (fun a=>?_) (by first|exact⟨d.out.v,f.out⟩|exact hSn|exact⟨(d.out.step (Below.refl _ _).drew).v,f.out.below (Below.refl _ _).drew⟩);refine tkQ 0 ?_;refine tkQ 1 ?_;refine tkQ 2 ?_;refine tkQ 3 ?_;refine tkQ 5 ?_;refine tkQ 6 ?_;refine D3 4 fun K g=>?_
     go_simp
     refine(D.out _ a.2).mono ?_;rintro e t ⟨rfl,b⟩;have hSn:=And.intro (a.1.2.2.2.2.step b).v (a.2.below b);clear a b;try go_simp
     refine Db g (fun a=>?_) (by first|exact⟨d.out.v,f.out⟩|exact hSn|exact⟨(d.out.step (Below.refl _ _).drew).v,f.out.below (Below.refl _ _).drew⟩);clear g K;refine tkQ 7 ?_;refine tkQ 8 ?_;refine tkQ 9 ?_;refine tkQ 10 ?_;refine tkQ 11 ?_;refine tkQ 12 ?_;refine D3 13 fun K g=>?_
     go_simp
     refine(J.out _).mono ?_;rintro e t ⟨rfl,b⟩;have hSn:=And.intro (a.1.2.2.2.2.step b).v (a.2.below b);clear a b;try go_simp
     refine Db g (fun a=>?_) (by first|exact⟨d.out.v,f.out⟩|exact hSn|exact⟨(d.out.step (Below.refl _ _).drew).v,f.out.below (Below.refl _ _).drew⟩);clear g K;refine D3 14 fun K g=>?_
     go_simp
     refine(HJ.out _ a.2).mono ?_;rintro e t ⟨rfl,b⟩;have hSn:=And.intro (a.1.2.2.2.2.step b).v (a.2.below b);clear a b;try go_simp
     refine Db g (fun a=>?_) (by first|exact⟨d.out.v,f.out⟩|exact hSn|exact⟨(d.out.step (Below.refl _ _).drew).v,f.out.below (Below.refl _ _).drew⟩);clear g K;refine tkQ 15 ?_;refine tkQ 16 ?_;refine tkQ 17 ?_;refine tkQ 18 ?_;refine tkQ 19 ?_;refine tkQ 20 ?_;refine tkQ 21 ?_;refine wpAnyH_done Kr ?_ _
     by_cases B:q.size=0
     ·obtain⟨y1,y2,y3⟩:=Ft B
      have Q:=Hq (decide_eq_true B);clear B
      go_wp2_with((go_at_call 212;refine(O.out _).mono ?_;rintro e w4 ⟨rfl,A⟩))
      go_ret2;exact⟨by rw[s.out,Q.out];simp,Af a.1.2.2.2.2.below A⟩
     ·obtain⟨y1,y2,y3⟩:=Ez B
      have Q:=Hq (decide_eq_false B);clear B
      go_wp2_with((go_at_call 212;refine(O.out _).mono ?_;rintro e w4 ⟨rfl,A⟩))
      go_ret2;exact⟨by rw[s.out,Q.out];simp,Af a.1.2.2.2.2.below A⟩
theorem zJ (p:ByteArray)(o:Il)(j:o.kind=1)(q:p.size≤140737488355328)(C:o.new.size≤140737488355328)(w:World)(t:I8 w):
 Cr 124 #[p,E0 o] w (.tuple #[.string (Cg p o).1,.bool (Cg p o).2]):=by
 have k:=Hq (De w o 40);have D:=Hq t;have f:=Hq (fun W=>Fw p o.slot q W);obtain⟨R,l⟩:=ex (Cg p o);rw[← l];have c:=Hq (l.trans (show Cg p o=if o.A5.size=0 then okB (Iv p o.slot o.new)else Dm by unfold Cg;rw[j];rfl));have h:=Hq (fun W=>qE p o.slot o.new q W);generalize Iv p o.slot o.new=x at h c;obtain⟨E,ex⟩:=x;unfold G7 at h;have b:=Hq (show Er p o=(!decide ((Pg.Ay (Ac p).recs o.slot).size=0)&&decide (o.A5=Pg.Ay (Ac p).recs o.slot))from rfl);generalize Er p o=oi at b c;generalize (!decide ((Pg.Ay (Ac p).recs o.slot).size=0))=u at b f;generalize Pg.Ay (Ac p).recs o.slot=r at b f;obtain⟨kind,slot,A5,new⟩:=o;dsimp only[E0]at k f b c j h ⊢;subst j;clear l t;go_enter Tryz.func124,Tryz.ntmps124
 go_upto_region 2 with(go_at_call 172;refine(f.out _).mono ?_;rintro e y ⟨rfl,g⟩)
 have H1:=Hq (k.out.step g);clear k g;obtain⟨c0,c1,c2,c3,-⟩:=H1.out.v;dsimp only at c0 c1 c2 c3
 go_cut [8] (fun s z=>s= .bool oi∧y=z)
 case first=>
  cases u with
  |false=>
   have a:=Hq (b.out.trans (Bool.false_and _));go_wp2_with fail;go_meet
   case rel=>exact⟨by rw[a.out],rfl⟩
  |true=>
   by_cases i:A5=r
   ·subst i
    have A:(A5.toList==A5.toList)=true:=beq_self_eq_true _;have a:=Hq (b.out.trans (show _=true by simp));go_wp2_with fail;go_meet
    case rel=>exact⟨by rw[a.out],rfl⟩
   ·have A:=E4 i
    have a:=Hq (b.out.trans (show _=false by simp[i]));clear i;go_wp2_with fail;go_meet
    case rel=>exact⟨by rw[a.out],rfl⟩
 case rest=>
  obtain⟨rfl,rfl⟩:=hcut;clear b f
  by_cases d:A5.size=0
  ·have m:=Hq (c.out.trans (if_pos d))
   obtain⟨B,z2,z3⟩:=Ft d;clear d c
   go_wp2_with((go_at_call 173;refine(h.out _).mono ?_;rintro e F ⟨rfl,n⟩))
   go_ret2;exact⟨by rw[m.out];rfl,Af H1.out.below n⟩
  ·have m:=Hq (c.out.trans (if_neg d))
   obtain⟨B,z2,z3⟩:=Ez d;clear d c;go_wp2_with fail;go_ret2;exact⟨by rw[m.out];rfl,H1.out.below⟩
theorem zK (p:ByteArray)(o:Il)(k:o.kind=2)(q:p.size≤140737488355328)(D:o.new.size≤140737488355328)(w:World)(t:I8 w):
 Cr 124 #[p,E0 o] w (.tuple #[.string (Cg p o).1,.bool (Cg p o).2]):=by
 have l:=Hq (De w o 40);have E:=Hq t;have f:=Hq (fun W=>Fw p o.slot q W);obtain⟨R,m⟩:=ex (Cg p o);rw[← m];have b:=Hq (m.trans (show Cg p o=if Er p o&&decide (o.new.size=0)then okB (K8 p o.slot)else Dm by unfold Cg;rw[k];rfl));have i:=Hq (fun W=>qF p o.slot q W);generalize K8 p o.slot=x at i b;obtain⟨F,ex⟩:=x;unfold G7 at i;have c:=Hq (show Er p o=(!decide ((Pg.Ay (Ac p).recs o.slot).size=0)&&decide (o.A5=Pg.Ay (Ac p).recs o.slot))from rfl);generalize Er p o=u at c b;generalize (!decide ((Pg.Ay (Ac p).recs o.slot).size=0))=y at c f;generalize Pg.Ay (Ac p).recs o.slot=r at c f;obtain⟨kind,slot,A5,new⟩:=o;dsimp only[E0]at l f c b k i ⊢;subst k;clear m t;go_enter Tryz.func124,Tryz.ntmps124
 go_upto_region 2 with(go_at_call 172;refine(f.out _).mono ?_;rintro e z ⟨rfl,g⟩)
 have H1:=Hq (l.out.step g);clear l g;obtain⟨c0,c1,c2,c3,-⟩:=H1.out.v;dsimp only at c0 c1 c2 c3
 go_cut [8] (fun s A=>s= .bool u∧z=A)
 case first=>
  cases y with
  |false=>
   have a:=Hq (c.out.trans (Bool.false_and _));go_wp2_with fail;go_meet
   case rel=>exact⟨by rw[a.out],rfl⟩
  |true=>
   by_cases j:A5=r
   ·subst j
    have B:(A5.toList==A5.toList)=true:=beq_self_eq_true _;have a:=Hq (c.out.trans (show _=true by simp));go_wp2_with fail;go_meet
    case rel=>exact⟨by rw[a.out],rfl⟩
   ·have B:=E4 j
    have a:=Hq (c.out.trans (show _=false by simp[j]));clear j;go_wp2_with fail;go_meet
    case rel=>exact⟨by rw[a.out],rfl⟩
 case rest=>
  obtain⟨rfl,rfl⟩:=hcut;clear c f
  cases u with
  |true=>
   by_cases d:new.size=0
   ·have h:=Hq (b.out.trans (if_pos (by simp[d])))
    obtain⟨C,z2,z3⟩:=Ft d;clear d b
    go_wp2_with((go_at_call 174;refine(i.out _).mono ?_;rintro e G ⟨rfl,n⟩))
    go_ret2;exact⟨by rw[h.out];rfl,Af H1.out.below n⟩
   ·have h:=Hq (b.out.trans (if_neg (by simp[d])))
    obtain⟨C,z2,z3⟩:=Ez d;clear d b;go_wp2_with fail;go_ret2;exact⟨by rw[h.out];rfl,H1.out.below⟩
  |false=>
   have h:=Hq (b.out.trans (if_neg (by simp)));clear b;go_wp2_with fail;go_ret2;exact⟨by rw[h.out];rfl,H1.out.below⟩
theorem zL (p:ByteArray)(o:Il)(i:o.kind=3)(n:p.size≤140737488355328)(B:o.new.size≤140737488355328)(w:World)(q:I8 w):
 Cr 124 #[p,E0 o] w (.tuple #[.string (Cg p o).1,.bool (Cg p o).2]):=by
 have j:=Hq (De w o 40);have C:=Hq q;have d:=Hq (fun W=>Fw p o.slot n W);obtain⟨R,k⟩:=ex (Cg p o);rw[← k];have c:=Hq (k.trans (show Cg p o=if Er p o then okB (Jy p o.slot o.new)else Dm by unfold Cg;rw[i];rfl));have g:=Hq (fun W=>qG p o.slot o.new n W);generalize Jy p o.slot o.new=x at g c;obtain⟨D,ex⟩:=x;unfold G7 at g;have b:=Hq (show Er p o=(!decide ((Pg.Ay (Ac p).recs o.slot).size=0)&&decide (o.A5=Pg.Ay (Ac p).recs o.slot))from rfl);generalize Er p o=t at b c;generalize (!decide ((Pg.Ay (Ac p).recs o.slot).size=0))=u at b d;generalize Pg.Ay (Ac p).recs o.slot=r at b d;obtain⟨kind,slot,A5,new⟩:=o;dsimp only[E0]at j d b c i g ⊢;subst i;clear k q;go_enter Tryz.func124,Tryz.ntmps124
 go_upto_region 2 with(go_at_call 172;refine(d.out _).mono ?_;rintro e y ⟨rfl,f⟩)
 have H1:=Hq (j.out.step f);clear j f;obtain⟨c0,c1,c2,c3,-⟩:=H1.out.v;dsimp only at c0 c1 c2 c3
 go_cut [8] (fun s z=>s= .bool t∧y=z)
 case first=>
  cases u with
  |false=>
   have a:=Hq (b.out.trans (Bool.false_and _));go_wp2_with fail;go_meet
   case rel=>exact⟨by rw[a.out],rfl⟩
  |true=>
   by_cases h:A5=r
   ·subst h
    have A:(A5.toList==A5.toList)=true:=beq_self_eq_true _;have a:=Hq (b.out.trans (show _=true by simp));go_wp2_with fail;go_meet
    case rel=>exact⟨by rw[a.out],rfl⟩
   ·have A:=E4 h
    have a:=Hq (b.out.trans (show _=false by simp[h]));clear h;go_wp2_with fail;go_meet
    case rel=>exact⟨by rw[a.out],rfl⟩
 case rest=>
  obtain⟨rfl,rfl⟩:=hcut;clear b d
  cases t with
  |true=>
   have l:=Hq (c.out.trans (if_pos rfl));clear c
   go_wp2_with((go_at_call 175;refine(g.out _).mono ?_;rintro e E ⟨rfl,m⟩))
   go_ret2;exact⟨by rw[l.out];rfl,Af H1.out.below m⟩
  |false=>
   have l:=Hq (c.out.trans (if_neg (by simp)));clear c;go_wp2_with fail;go_ret2;exact⟨by rw[l.out];rfl,H1.out.below⟩
theorem zM (p:ByteArray)(o:Il)(j:o.kind=4)(q:p.size≤140737488355328)(C:o.new.size≤140737488355328)(w:World)(t:I8 w):
 Cr 124 #[p,E0 o] w (.tuple #[.string (Cg p o).1,.bool (Cg p o).2]):=by
 have k:=Hq (De w o 40);have D:=Hq t;have f:=Hq (fun W=>Fw p o.slot q W);obtain⟨R,l⟩:=ex (Cg p o);rw[← l];have c:=Hq (l.trans (show Cg p o=if o.A5.size=0 then okB (J3 p o.slot o.new)else Dm by unfold Cg;rw[j];rfl));have h:=Hq (fun W=>rI p o.slot o.new q W);generalize J3 p o.slot o.new=x at h c;obtain⟨E,ex⟩:=x;unfold G7 at h;have b:=Hq (show Er p o=(!decide ((Pg.Ay (Ac p).recs o.slot).size=0)&&decide (o.A5=Pg.Ay (Ac p).recs o.slot))from rfl);generalize Er p o=oi at b c;generalize (!decide ((Pg.Ay (Ac p).recs o.slot).size=0))=u at b f;generalize Pg.Ay (Ac p).recs o.slot=r at b f;obtain⟨kind,slot,A5,new⟩:=o;dsimp only[E0]at k f b c j h ⊢;subst j;clear l t;go_enter Tryz.func124,Tryz.ntmps124
 go_upto_region 2 with(go_at_call 172;refine(f.out _).mono ?_;rintro e y ⟨rfl,g⟩)
 have H1:=Hq (k.out.step g);clear k g;obtain⟨c0,c1,c2,c3,-⟩:=H1.out.v;dsimp only at c0 c1 c2 c3
 go_cut [8] (fun s z=>s= .bool oi∧y=z)
 case first=>
  cases u with
  |false=>
   have a:=Hq (b.out.trans (Bool.false_and _));go_wp2_with fail;go_meet
   case rel=>exact⟨by rw[a.out],rfl⟩
  |true=>
   by_cases i:A5=r
   ·subst i
    have A:(A5.toList==A5.toList)=true:=beq_self_eq_true _;have a:=Hq (b.out.trans (show _=true by simp));go_wp2_with fail;go_meet
    case rel=>exact⟨by rw[a.out],rfl⟩
   ·have A:=E4 i
    have a:=Hq (b.out.trans (show _=false by simp[i]));clear i;go_wp2_with fail;go_meet
    case rel=>exact⟨by rw[a.out],rfl⟩
 case rest=>
  obtain⟨rfl,rfl⟩:=hcut;clear b f
  by_cases d:A5.size=0
  ·have m:=Hq (c.out.trans (if_pos d))
   obtain⟨B,z2,z3⟩:=Ft d;clear d c
   go_wp2_with((go_at_call 176;refine(h.out _).mono ?_;rintro e F ⟨rfl,n⟩))
   go_ret2;exact⟨by rw[m.out];rfl,Af H1.out.below n⟩
  ·have m:=Hq (c.out.trans (if_neg d))
   obtain⟨B,z2,z3⟩:=Ez d;clear d c;go_wp2_with fail;go_ret2;exact⟨by rw[m.out];rfl,H1.out.below⟩
theorem zN (p:ByteArray)(o:Il)(k:o.kind=5)(q:p.size≤140737488355328)(D:o.new.size≤140737488355328)(w:World)(t:I8 w):
 Cr 124 #[p,E0 o] w (.tuple #[.string (Cg p o).1,.bool (Cg p o).2]):=by
 have l:=Hq (De w o 40);have E:=Hq t;have f:=Hq (fun W=>Fw p o.slot q W);obtain⟨R,m⟩:=ex (Cg p o);rw[← m];have b:=Hq (m.trans (show Cg p o=if Er p o&&decide (o.new.size=0)then okB (Lb p o.slot)else Dm by unfold Cg;rw[k];rfl));have i:=Hq (fun W=>rJ p o.slot q W);generalize Lb p o.slot=x at i b;obtain⟨F,ex⟩:=x;unfold G7 at i;have c:=Hq (show Er p o=(!decide ((Pg.Ay (Ac p).recs o.slot).size=0)&&decide (o.A5=Pg.Ay (Ac p).recs o.slot))from rfl);generalize Er p o=u at c b;generalize (!decide ((Pg.Ay (Ac p).recs o.slot).size=0))=y at c f;generalize Pg.Ay (Ac p).recs o.slot=r at c f;obtain⟨kind,slot,A5,new⟩:=o;dsimp only[E0]at l f c b k i ⊢;subst k;clear m t;go_enter Tryz.func124,Tryz.ntmps124
 go_upto_region 2 with(go_at_call 172;refine(f.out _).mono ?_;rintro e z ⟨rfl,g⟩)
 have H1:=Hq (l.out.step g);clear l g;obtain⟨c0,c1,c2,c3,-⟩:=H1.out.v;dsimp only at c0 c1 c2 c3
 go_cut [8] (fun s A=>s= .bool u∧z=A)
 case first=>
  cases y with
  |false=>
   have a:=Hq (c.out.trans (Bool.false_and _));go_wp2_with fail;go_meet
   case rel=>exact⟨by rw[a.out],rfl⟩
  |true=>
   by_cases j:A5=r
   ·subst j
    have B:(A5.toList==A5.toList)=true:=beq_self_eq_true _;have a:=Hq (c.out.trans (show _=true by simp));go_wp2_with fail;go_meet
    case rel=>exact⟨by rw[a.out],rfl⟩
   ·have B:=E4 j
    have a:=Hq (c.out.trans (show _=false by simp[j]));clear j;go_wp2_with fail;go_meet
    case rel=>exact⟨by rw[a.out],rfl⟩
 case rest=>
  obtain⟨rfl,rfl⟩:=hcut;clear c f
  cases u with
  |true=>
   by_cases d:new.size=0
   ·have h:=Hq (b.out.trans (if_pos (by simp[d])))
    obtain⟨C,z2,z3⟩:=Ft d;clear d b
    go_wp2_with((go_at_call 177;refine(i.out _).mono ?_;rintro e G ⟨rfl,n⟩))
    go_ret2;exact⟨by rw[h.out];rfl,Af H1.out.below n⟩
   ·have h:=Hq (b.out.trans (if_neg (by simp[d])))
    obtain⟨C,z2,z3⟩:=Ez d;clear d b;go_wp2_with fail;go_ret2;exact⟨by rw[h.out];rfl,H1.out.below⟩
  |false=>
   have h:=Hq (b.out.trans (if_neg (by simp)));clear b;go_wp2_with fail;go_ret2;exact⟨by rw[h.out];rfl,H1.out.below⟩
theorem zO (p:ByteArray)(o:Il)(h:o.kind=6)(m:p.size≤140737488355328)(q:o.new.size≤140737488355328)(w:World)(n:I8 w):
 Cr 124 #[p,E0 o] w (.tuple #[.string (Cg p o).1,.bool (Cg p o).2]):=by
 have i:=Hq (De w o 40);have t:=Hq n;have c:=Hq (fun W=>Fw p o.slot m W);obtain⟨R,j⟩:=ex (Cg p o);rw[← j];have f:=Hq (j.trans (show Cg p o=Ek p o by unfold Cg;rw[h];rfl));have k:=Hq (fun W u=>iB p o m q W u);generalize Ek p o=x at k f;obtain⟨C,D⟩:=x;have b:=Hq (show Er p o=(!decide ((Pg.Ay (Ac p).recs o.slot).size=0)&&decide (o.A5=Pg.Ay (Ac p).recs o.slot))from rfl);generalize Er p o=oi at b f;generalize (!decide ((Pg.Ay (Ac p).recs o.slot).size=0))=y at b c;generalize Pg.Ay (Ac p).recs o.slot=r at b c;obtain⟨kind,slot,A5,new⟩:=o;dsimp only[E0]at i c b f h k ⊢;subst h;clear j n;go_enter Tryz.func124,Tryz.ntmps124
 go_upto_region 2 with(go_at_call 172;refine(c.out _).mono ?_;rintro e z ⟨rfl,d⟩)
 have H1:=Hq (i.out.step d);clear i d;obtain⟨c0,c1,c2,c3,-⟩:=H1.out.v;dsimp only at c0 c1 c2 c3
 go_cut [8] (fun s A=>s= .bool oi∧z=A)
 case first=>
  cases y with
  |false=>
   have a:=Hq (b.out.trans (Bool.false_and _));go_wp2_with fail;go_meet
   case rel=>exact⟨by rw[a.out],rfl⟩
  |true=>
   by_cases g:A5=r
   ·subst g
    have B:(A5.toList==A5.toList)=true:=beq_self_eq_true _;have a:=Hq (b.out.trans (show _=true by simp));go_wp2_with fail;go_meet
    case rel=>exact⟨by rw[a.out],rfl⟩
   ·have B:=E4 g
    have a:=Hq (b.out.trans (show _=false by simp[g]));clear g;go_wp2_with fail;go_meet
    case rel=>exact⟨by rw[a.out],rfl⟩
 case rest=>
  obtain⟨rfl,rfl⟩:=hcut;clear b c
  go_wp2_with((go_at_call 178;refine(k.out _ (t.out.below H1.out.below)).mono ?_;rintro e E ⟨rfl,l⟩))
  go_ret2;exact⟨by rw[f.out];rfl,Af H1.out.below l⟩
theorem zP (p:ByteArray)(o:Il)(h:o.kind=7)(m:p.size≤140737488355328)(q:o.new.size≤140737488355328)(w:World)(n:I8 w):
 Cr 124 #[p,E0 o] w (.tuple #[.string (Cg p o).1,.bool (Cg p o).2]):=by
 have i:=Hq (De w o 40);have A:=Hq n;have c:=Hq (fun W=>Fw p o.slot m W);obtain⟨R,j⟩:=ex (Cg p o);rw[← j];have f:=Hq (j.trans (show Cg p o=Ih p o by unfold Cg;rw[h];rfl));have k:=Hq (fun W=>oE p o m q W);generalize Ih p o=x at k f;obtain⟨B,C⟩:=x;have b:=Hq (show Er p o=(!decide ((Pg.Ay (Ac p).recs o.slot).size=0)&&decide (o.A5=Pg.Ay (Ac p).recs o.slot))from rfl);generalize Er p o=oi at b f;generalize (!decide ((Pg.Ay (Ac p).recs o.slot).size=0))=t at b c;generalize Pg.Ay (Ac p).recs o.slot=r at b c;obtain⟨kind,slot,A5,new⟩:=o;dsimp only[E0]at i c b f h k ⊢;subst h;clear j n;go_enter Tryz.func124,Tryz.ntmps124
 go_upto_region 2 with(go_at_call 172;refine(c.out _).mono ?_;rintro e u ⟨rfl,d⟩)
 have H1:=Hq (i.out.step d);clear i d;obtain⟨c0,c1,c2,c3,-⟩:=H1.out.v;dsimp only at c0 c1 c2 c3
 go_cut [8] (fun s y=>s= .bool oi∧u=y)
 case first=>
  cases t with
  |false=>
   have a:=Hq (b.out.trans (Bool.false_and _));go_wp2_with fail;go_meet
   case rel=>exact⟨by rw[a.out],rfl⟩
  |true=>
   by_cases g:A5=r
   ·subst g
    have z:(A5.toList==A5.toList)=true:=beq_self_eq_true _;have a:=Hq (b.out.trans (show _=true by simp));go_wp2_with fail;go_meet
    case rel=>exact⟨by rw[a.out],rfl⟩
   ·have z:=E4 g
    have a:=Hq (b.out.trans (show _=false by simp[g]));clear g;go_wp2_with fail;go_meet
    case rel=>exact⟨by rw[a.out],rfl⟩
 case rest=>
  obtain⟨rfl,rfl⟩:=hcut;clear b c
  go_wp2_with((go_at_call 179;refine(k.out _).mono ?_;rintro e D ⟨rfl,l⟩))
  go_ret2;exact⟨by rw[f.out];rfl,Af H1.out.below l⟩
theorem oF (p:ByteArray)(o:Il)(j:¬ (1≤o.kind∧o.kind≤7))(l:p.size≤140737488355328)(x:o.new.size≤140737488355328)(w:World)(k:I8 w):
 Cr 124 #[p,E0 o] w (.tuple #[.string (Cg p o).1,.bool (Cg p o).2]):=by
 have h:=Hq (De w o 40);have y:=Hq k;have c:=Hq (fun W=>Fw p o.slot l W);obtain⟨R,i⟩:=ex (Cg p o);rw[← i];have f:=Hq (i.trans (show Cg p o=Dm by unfold Cg;rw[if_neg (by omega),if_neg (by omega),if_neg (by omega),if_neg (by omega),if_neg (by omega),if_neg (by omega),if_neg (by omega)]));have b:=Hq (show Er p o=(!decide ((Pg.Ay (Ac p).recs o.slot).size=0)&&decide (o.A5=Pg.Ay (Ac p).recs o.slot))from rfl);generalize Er p o=oi at b f;generalize (!decide ((Pg.Ay (Ac p).recs o.slot).size=0))=m at b c;generalize Pg.Ay (Ac p).recs o.slot=r at b c;obtain⟨kind,slot,A5,new⟩:=o;dsimp only[E0]at h c b f j ⊢;have z:(kind==1)=false:=by simp;omega
 have A:(kind==2)=false:=by simp;omega
 have B:(kind==3)=false:=by simp;omega
 have C:(kind==4)=false:=by simp;omega
 have D:(kind==5)=false:=by simp;omega
 have E:(kind==6)=false:=by simp;omega
 have F:(kind==7)=false:=by simp;omega
 clear i k j;go_enter Tryz.func124,Tryz.ntmps124
 go_upto_region 2 with(go_at_call 172;refine(c.out _).mono ?_;rintro e n ⟨rfl,d⟩)
 have H1:=Hq (h.out.step d);clear h d;obtain⟨c0,c1,c2,c3,-⟩:=H1.out.v;dsimp only at c0 c1 c2 c3
 go_cut [8] (fun s q=>s= .bool oi∧n=q)
 case first=>
  cases m with
  |false=>
   have a:=Hq (b.out.trans (Bool.false_and _));go_wp2_with fail;go_meet
   case rel=>exact⟨by rw[a.out],rfl⟩
  |true=>
   by_cases g:A5=r
   ·subst g
    have t:(A5.toList==A5.toList)=true:=beq_self_eq_true _;have a:=Hq (b.out.trans (show _=true by simp));go_wp2_with fail;go_meet
    case rel=>exact⟨by rw[a.out],rfl⟩
   ·have t:=E4 g
    have a:=Hq (b.out.trans (show _=false by simp[g]));clear g;go_wp2_with fail;go_meet
    case rel=>exact⟨by rw[a.out],rfl⟩
 case rest=>
  obtain⟨rfl,rfl⟩:=hcut;clear b c;have u:=Hq f.out;clear f;go_wp2_with fail;go_ret2;exact⟨by rw[u.out];rfl,H1.out.below⟩
theorem dG (p:ByteArray)(o:Il)(a:p.size≤140737488355328)(b:o.new.size≤140737488355328)(w:World)(c:I8 w):
 Cr 124 #[p,E0 o] w (.tuple #[.string (Cg p o).1,.bool (Cg p o).2]):=by
 by_cases h:1≤o.kind∧o.kind≤7
 ·obtain h|h|h|h|h|h|h:o.kind=1∨o.kind=2∨o.kind=3∨o.kind=4∨o.kind=5∨o.kind=6∨o.kind=7:=by omega
  ·exact zJ p o h a b w c
  ·exact zK p o h a b w c
  ·exact zL p o h a b w c
  ·exact zM p o h a b w c
  ·exact zN p o h a b w c
  ·exact zO p o h a b w c
  ·exact zP p o h a b w c
 ·exact oF p o h a b w c
theorem iD (p:ByteArray)(o:Il)(h:p.size≤140737488355328)(i:o.new.size≤140737488355328)(w:World)(j:I8 w):
 Cr 123 #[p,E0 o] w (.bool (Fs p o)):=by
 have d:=Hq (fun W k=>dG p o h i W k);have f:=Hq (fun W=>N9 p h W);have g:=Hq (j.below (Ag w (.cells #[o.kind,o.slot,o.A5,o.new] 40)));unfold Fs;generalize Bo p=b at f ⊢;generalize Cg p o=x at d ⊢;obtain⟨n,q⟩:=x;obtain⟨kind,slot,A5,new⟩:=o;dsimp only[E0]at d g ⊢;clear j i
 cases b with
 |true=>
  go_enter Tryz.func123,Tryz.ntmps123
  go_wp2_with(first|(go_at_call 124;refine(d.out _ g.out).mono ?_;rintro e l ⟨rfl,a⟩)|(go_at_call 118;refine(f.out _).mono ?_;rintro e m ⟨rfl,c⟩))
  go_ret;exact⟨by simp,Af (Af (Ag _ _) a) c⟩
 |false=>
  go_enter Tryz.func123,Tryz.ntmps123
  go_wp2_with(first|(go_at_call 124;refine(d.out _ g.out).mono ?_;rintro e l ⟨rfl,a⟩)|(go_at_call 118;refine(f.out _).mono ?_;rintro e m ⟨rfl,c⟩))
  go_ret;exact⟨by simp,Af (Af (Ag _ _) a) c⟩
theorem sQ {p:ByteArray}{o:Il}(h:Fs p o=true):jZ p o=((Cg p o).1,0):=by unfold jZ;rw[if_pos h]
theorem yI {p:ByteArray}{o:Il}(h:Fs p o=false):jZ p o=(⟨#[]⟩,1):=by unfold jZ;rw[if_neg (by rw[h];simp)]
theorem iE (p:ByteArray)(o:Il)(n:p.size≤140737488355328)(i:o.new.size≤140737488355328)(w:World)(q:I8 w):
 Cr 69 #[p,E0 o] w (G7 (jZ p o)):=by
 have j:=Hq (fun W k=>dG p o n i W k);have f:=Hq (fun W k=>iD p o n i W k);have r:=Hq (De w o 40);have g:=Hq (q.below (Ag w (.cells #[o.kind,o.slot,o.A5,o.new] 40)));have c:=Hq (fun h=>sQ (p:=p) (o:=o) h);have d:=Hq (fun h=>yI (p:=p) (o:=o) h);generalize jZ p o=R at c d ⊢;generalize Fs p o=b at f c d;generalize Cg p o=x at j c;obtain⟨t,u⟩:=x;obtain⟨kind,slot,A5,new⟩:=o;dsimp only[E0]at j f g r ⊢;clear q i
 cases b with
 |true=>
  have l:=Hq (c.out rfl);clear c d;go_enter Tryz.func69,Tryz.ntmps69
  go_wp2_with(first|(go_at_call 123;refine(f.out _ g.out).mono ?_;rintro e s ⟨rfl,a⟩;obtain⟨c0,c1,c2,c3,-⟩:=(r.out.step a).v;dsimp only at c0 c1 c2 c3)|(go_at_call 124;refine(j.out _ (g.out.below a)).mono ?_;rintro e y ⟨rfl,m⟩))
  go_ret2;exact⟨by rw[l.out];rfl,Af (Af (Ag _ _) a) m⟩
 |false=>
  have l:=Hq (d.out rfl);clear c d;go_enter Tryz.func69,Tryz.ntmps69
  go_wp2_with((go_at_call 123;refine(f.out _ g.out).mono ?_;rintro e s ⟨rfl,a⟩))
  go_ret2;exact⟨by rw[l.out];rfl,Af (Ag _ _) a⟩
end Go.Proofs.YtdfkambdagoojaaGreatDoor
