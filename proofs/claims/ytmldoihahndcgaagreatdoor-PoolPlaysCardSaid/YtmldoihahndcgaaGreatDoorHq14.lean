import Derived.Test.YtmldoihahndcgaaGreatDoorHq00
import Derived.Test.YtmldoihahndcgaaGreatDoorHq07
import Derived.Test.YtmldoihahndcgaaGreatDoorHq01
import Derived.WalkSmall
import Derived.Deep.DeepCutAuto
set_option maxRecDepth 100000
set_option maxHeartbeats 16000000
set_option linter.unusedSimpArgs false
namespace Go.Proofs.YtmldoihahndcgaaGreatDoor
open Go.RowKit
structure Gf (w:World):Prop where
 tab:Lib.TabIs Tryz.prog w "internal/strconv.uint64pow10" .u64 Lib.pow10Tab
 syn:∃ tp p,w.var? Tryz.prog "strconv.ErrSyntax"=some #[.iface tp p]
 ran:∃ tp p,w.var? Tryz.prog "strconv.ErrRange"=some #[.iface tp p]
 size:5<w.heap.size
theorem vT:Tryz.prog.globalNamed "internal/strconv.uint64pow10"=some 1:=by kernel_rfl
theorem vU:Tryz.prog.globalNamed "strconv.ErrSyntax"=some 4:=by kernel_rfl
theorem tX:Tryz.prog.globalNamed "strconv.ErrRange"=some 5:=by kernel_rfl
theorem Gf.below {w w':World}(h:Gf w)(a:Bw w w'):Gf w':=by
 have i:=h.size;obtain⟨c,d,e⟩:=h.syn;obtain⟨f,g,b⟩:=h.ran;exact⟨var?_below a vT (by omega) h.tab,⟨c,d,var?_below a vU (by omega) e⟩,⟨f,g,var?_below a tX (by omega) b⟩,Nat.le_trans h.size a.size⟩
theorem Ze (w:World)(k:Nat)(os:Array Obj):Bw w (Sort.grow (w.drewN k) os):=
 ⟨rfl,rfl,rfl,by show w.heap.size≤(w.heap++os).size;rw[Array.size_append];omega,fun j a=>by
   show(w.heap++os)[j]? =w.heap[j]?
   rw[Array.getElem?_append_left a]⟩
theorem Zf (n:Int)(a: -9223372036854775808≤n)(b:n≤9223372036854775807)(w:World)(c:Gf w):
 Cr 158 #[n] w (.string (Ip n)):=by
 refine(Tryz.strconv_Itoa n a b w c.tab).mono ?_;rintro e w' ⟨rfl,k,os,rfl⟩;exact⟨rfl,Ze _ _ _⟩
theorem nV (s:ByteArray)(b:s.size≤281474976710656)(h:∀ v,Lib.atoiAll s.data.toList≠ .ok v)(w:World)(g:Gf w):
 Cq 317 #[s] w fun e w'=>∃ n p,e= .returned (.tuple #[n,.iface 289 p])∧Bw w w':=by
 cases c:Lib.atoiAll s.data.toList
 ·rename_i v;exact absurd c (h v)
 ·obtain⟨d,p,a⟩:=g.syn
  refine(Any.strconv_Atoi_syntax_var Tryz.laysC172 s b c d p w a).mono ?_;rintro e w' ⟨N,rfl,_,_,f⟩;exact⟨_,_,rfl,f⟩
 ·obtain⟨d,p,a⟩:=g.ran
  refine(Any.strconv_Atoi_range_var Tryz.laysC172 s b c d p w a).mono ?_;rintro e w' ⟨N,rfl,_,_,f⟩;exact⟨_,_,rfl,f⟩
theorem jD (s:ByteArray)(a:s.size≤281474976710656)(v:Int)(h:Lib.atoiAll s.data.toList= .ok v)(w:World):
 Cr 317 #[s] w (.tuple #[v,.nilIface]):=by
 refine(Tryz.strconv_Atoi_ok s (by omega) v h w).mono ?_;rintro e w' ⟨rfl,b⟩;refine⟨rfl,?_⟩;rcases b with rfl|⟨t,rfl⟩
 ·exact Below.refl _ _
 ·exact P3 _ _ _
theorem U5 (p:ByteArray)(b:p.size≤140737488355328)(w:World):
 Cr 319 #[p] w (.string (Cj p 0)):=by
 have a:=Hq (fun W=>Jg p 0 b W);generalize Cj p 0=q at a ⊢;go_enter Tryz.func319,Tryz.ntmps319
 go_wp2_with(go_at_call 20;refine(a.out _).mono ?_;rintro e d ⟨rfl,c⟩)
 go_ret;exact⟨rfl,c⟩
abbrev Ep (o:Hf):Value:=.agg #[o.kind,o.slot,o.Bd,o.new]
structure Tf (X:Nat) (o:Hf) (w0 u:World):Prop where
 c0:u.cell? ⟨X,0,none⟩=some (.int .i64 o.kind)
 c1:u.cell? ⟨X,1,none⟩=some (.int .i64 o.slot)
 c2:u.cell? ⟨X,2,none⟩=some (.string o.Bd)
 c3:u.cell? ⟨X,3,none⟩=some (.string o.new)
 lt:X<u.heap.size
 below:Bw w0 u
abbrev Er (X:Nat)(o:Hf)(w0 u:World):Prop:=
 u.cell? ⟨X,0,none⟩=some (.int .i64 o.kind)∧u.cell? ⟨X,1,none⟩=some (.int .i64 o.slot)∧u.cell? ⟨X,2,none⟩=some (.string o.Bd)∧u.cell? ⟨X,3,none⟩=some (.string o.new)∧Tf X o w0 u
theorem Tf.step {X:Nat}{o:Hf}{b u v:World}(h:Tf X o b u)(a:Bw u v):Tf X o b v:=
 ⟨by rw[a.cell (p:=⟨X,0,none⟩) h.lt];exact h.c0,by rw[a.cell (p:=⟨X,1,none⟩) h.lt];exact h.c1,by rw[a.cell (p:=⟨X,2,none⟩) h.lt];exact h.c2,by rw[a.cell (p:=⟨X,3,none⟩) h.lt];exact h.c3,Nat.lt_of_lt_of_le h.lt a.size,Ae h.below a⟩
theorem Tf.v {X:Nat}{o:Hf}{a u:World}(h:Tf X o a u):Er X o a u:=⟨h.c0,h.c1,h.c2,h.c3,h⟩
theorem C6 (w:World)(o:Hf)(T:TypeId):Tf w.heap.size o w (w.alloc (.cells #[o.kind,o.slot,o.Bd,o.new] T)):=by
 have h:=heap_alloc_new w (.cells #[o.kind,o.slot,o.Bd,o.new] T);exact⟨by rw[Aa h];rfl,by rw[Aa h];rfl,by rw[Aa h];rfl,by rw[Aa h];rfl,by simp,Ad _ _⟩
theorem toList_nil (a:ByteArray):a.toList=[]↔a.size=0:=by
 rw[ByteArray.toList_eq];have h:a.data.toList.length=a.size:=by simp
 constructor
 ·intro e;rw[e]at h;exact h.symm
 ·intro e;exact List.eq_nil_of_length_eq_zero (by omega)
theorem Et {a b:ByteArray}(h:a≠b):(a.toList==b.toList)=false:=by
 rw[ByteArray.toList_eq,ByteArray.toList_eq];exact beq_eq_false_iff_ne.2 (fun e=>h (ByteArray.ext (Array.toList_inj.1 e)))
theorem Fg {a:ByteArray}(h:a.size=0):a.toList=[]∧a.toList.isEmpty=true∧(a.toList==[])=true:=by
 have:=(toList_nil a).2 h;rw[this];simp
theorem En {a:ByteArray}(h:a.size≠0):¬ a.toList=[]∧a.toList.isEmpty=false∧(a.toList==[])=false:=by
 have b:¬ a.toList=[]:=fun e=>h ((toList_nil a).1 e);exact⟨b,by simpa using b,by simpa using b⟩
theorem jE (p:ByteArray)(o:Hf)(F:p.size≤140737488355328)(G:o.new.size≤140737488355328)(w:World):
 Cr 282 #[p,Ep o] w (.tuple #[.string (Ha p o).1,.bool (Ha p o).2]):=by
 have s:=Hq (fun W=>U5 p F W);have x:=Hq (fun W=>U5 o.new G W);have H:=Hq (fun W=>Vr p F W);have y:=Hq (fun W=>Jg o.new ((Ab p).lsn:Nat) G W);have c:=Hq (C6 w o 83);obtain⟨R,B⟩:=ex (Ha p o);rw[← B];have C:=Hq B;clear B;have d:=Hq (fun h=>C.out.trans (if_neg h));have f:=Hq (fun h=>C.out.trans (if_pos h));clear C;obtain⟨kind,slot,Bd,new⟩:=o;dsimp only[Ep]at x y c d f ⊢;generalize Cj p 0=pp at s d f;generalize Cj new 0=n at x d f;generalize ((Ab p).lsn:Nat)=l at H y f;generalize Cj new (l:Int)=q at y f
 by_cases t:slot=0
 rotate_left
 ·have j:=Hq (d.out (fun h=>t h.1))
  have I:(slot==0)=false:=by simp[t]
  have J:(slot != 0)=true:=by simp[t]
  clear t d f;go_enter Tryz.func282,Tryz.ntmps282
  go_upto_region 1 with(fail)
  generalize w.alloc (.cells #[kind,slot,Bd,new] 83)=V at c ⊢;refine E4 (S:=(fun u=>Er w.heap.size ⟨kind,slot,Bd,new⟩ w u)) (fun a=>?_) (by first|exact c.out.v|exact hSn|exact(c.out.step (Below.refl _ _).drew).v|exact(c.out.step (C5 _ _)).v);refine tkQ 0 ?_;refine tkQ 1 ?_;refine tkQ 2 ?_;refine tkQ 3 ?_;refine Dx 4 (some 11) rfl ?_
  try simp only[Act.put,pS]
  refine Dx 5 (some 12) rfl ?_
  try simp only[Act.put,pS]
  refine Dx 6 (some 13) rfl ?_
  try simp only[Act.put,pS]
  refine Dx 7 (some 14) rfl ?_
  try simp only[Act.put,pS]
  refine Dx 8 (some 15) rfl ?_
  try simp only[Act.put,pS]
  refine tkQ 9 ?_;refine tkQ 10 ?_;refine Dx 11 (some 18) rfl ?_
  try simp only[Act.put,pS]
  refine Dx 12 (some 19) rfl ?_
  try simp only[Act.put,pS]
  refine Dx 13 (some 20) rfl ?_
  try simp only[Act.put,pS]
  refine tkQ 14 ?_;refine tkQ 15 ?_;refine Dx 16 (some 23) rfl ?_
  try simp only[Act.put,pS]
  refine Dx 17 (some 24) rfl ?_
  try simp only[Act.put,pS]
  refine Dx 18 (some 25) rfl ?_
  try simp only[Act.put,pS]
  refine Dx 19 (some 26) rfl ?_
  try simp only[Act.put,pS]
  refine Dx 20 (some 27) rfl ?_
  try simp only[Act.put,pS]
  refine Dx 21 (some 28) rfl ?_
  try simp only[Act.put,pS]
  refine tkQ 22 ?_;refine wpAnyH_done Kr ?_ _;go_wp2_with fail;go_ret2;exact⟨by rw[j.out];rfl,a.2.2.2.2.below⟩
 ·subst t
  by_cases z:Bd=pp
  rotate_left
  ·have j:=Hq (d.out (fun h=>z h.2.1))
   have L:=Et z;clear z d f;go_enter Tryz.func282,Tryz.ntmps282
   go_upto_region 1 with(fail)
   generalize w.alloc (.cells #[kind,(),Bd,new] 83)=V at c ⊢;refine E4 (S:=(fun u=>Er w.heap.size ⟨kind,0,Bd,new⟩ w u)) (fun a=>?_) (by first|exact c.out.v|exact hSn|exact(c.out.step (Below.refl _ _).drew).v|exact(c.out.step (C5 _ _)).v);refine tkQ 0 ?_;refine tkQ 1 ?_;refine tkQ 2 ?_;refine tkQ 3 ?_;refine tkQ 4 ?_;refine tkQ 5 ?_;refine tkQ 6 ?_;refine Bx 7 fun K g=>?_
   go_simp
   refine(s.out _).mono ?_;rintro e k ⟨rfl,b⟩;have hSn:=(a.2.2.2.2.step b).v;clear a b;try go_simp
   refine Bl g (fun a=>?_) (by first|exact c.out.v|exact hSn|exact(c.out.step (Below.refl _ _).drew).v|exact(c.out.step (C5 _ _)).v);clear g K;refine tkQ 8 ?_;refine tkQ 9 ?_;refine tkQ 10 ?_;refine Dx 11 (some 18) rfl ?_
   try simp only[Act.put,pS]
   refine Dx 12 (some 19) rfl ?_
   try simp only[Act.put,pS]
   refine Dx 13 (some 20) rfl ?_
   try simp only[Act.put,pS]
   refine tkQ 14 ?_;refine tkQ 15 ?_;refine Dx 16 (some 23) rfl ?_
   try simp only[Act.put,pS]
   refine Dx 17 (some 24) rfl ?_
   try simp only[Act.put,pS]
   refine Dx 18 (some 25) rfl ?_
   try simp only[Act.put,pS]
   refine Dx 19 (some 26) rfl ?_
   try simp only[Act.put,pS]
   refine Dx 20 (some 27) rfl ?_
   try simp only[Act.put,pS]
   refine Dx 21 (some 28) rfl ?_
   try simp only[Act.put,pS]
   refine tkQ 22 ?_;refine wpAnyH_done Kr ?_ _;go_wp2_with fail;go_ret2;exact⟨by rw[j.out];rfl,a.2.2.2.2.below⟩
  ·subst z
   have L:(Bd.toList==Bd.toList)=true:=beq_self_eq_true _
   by_cases m:new.size=0
   ·have j:=Hq (d.out (fun h=>h.2.2.1 m))
    obtain⟨M,z2,z3⟩:=Fg m;clear m d f;go_enter Tryz.func282,Tryz.ntmps282
    go_upto_region 1 with(fail)
    generalize w.alloc (.cells #[kind,(),Bd,new] 83)=V at c ⊢;refine E4 (S:=(fun u=>Er w.heap.size ⟨kind,0,Bd,new⟩ w u)) (fun a=>?_) (by first|exact c.out.v|exact hSn|exact(c.out.step (Below.refl _ _).drew).v|exact(c.out.step (C5 _ _)).v);refine tkQ 0 ?_;refine tkQ 1 ?_;refine tkQ 2 ?_;refine tkQ 3 ?_;refine tkQ 4 ?_;refine tkQ 5 ?_;refine tkQ 6 ?_;refine Bx 7 fun K g=>?_
    go_simp
    refine(s.out _).mono ?_;rintro e k ⟨rfl,b⟩;have hSn:=(a.2.2.2.2.step b).v;clear a b;try go_simp
    refine Bl g (fun a=>?_) (by first|exact c.out.v|exact hSn|exact(c.out.step (Below.refl _ _).drew).v|exact(c.out.step (C5 _ _)).v);clear g K;refine tkQ 8 ?_;refine tkQ 9 ?_;refine tkQ 10 ?_;refine tkQ 11 ?_;refine tkQ 12 ?_;refine tkQ 13 ?_;refine tkQ 14 ?_;refine tkQ 15 ?_;refine Dx 16 (some 23) rfl ?_
    try simp only[Act.put,pS]
    refine Dx 17 (some 24) rfl ?_
    try simp only[Act.put,pS]
    refine Dx 18 (some 25) rfl ?_
    try simp only[Act.put,pS]
    refine Dx 19 (some 26) rfl ?_
    try simp only[Act.put,pS]
    refine Dx 20 (some 27) rfl ?_
    try simp only[Act.put,pS]
    refine Dx 21 (some 28) rfl ?_
    try simp only[Act.put,pS]
    refine tkQ 22 ?_;refine wpAnyH_done Kr ?_ _;go_wp2_with fail;go_ret2;exact⟨by rw[j.out];rfl,a.2.2.2.2.below⟩
   ·obtain⟨M,z2,z3⟩:=En m
    by_cases A:n=new
    rotate_left
    ·have j:=Hq (d.out (fun h=>A h.2.2.2))
     have D:=Et A;clear A m d f;go_enter Tryz.func282,Tryz.ntmps282
     go_upto_region 1 with(fail)
     generalize w.alloc (.cells #[kind,(),Bd,new] 83)=V at c ⊢;refine E4 (S:=(fun u=>Er w.heap.size ⟨kind,0,Bd,new⟩ w u)) (fun a=>?_) (by first|exact c.out.v|exact hSn|exact(c.out.step (Below.refl _ _).drew).v|exact(c.out.step (C5 _ _)).v);refine tkQ 0 ?_;refine tkQ 1 ?_;refine tkQ 2 ?_;refine tkQ 3 ?_;refine tkQ 4 ?_;refine tkQ 5 ?_;refine tkQ 6 ?_;refine Bx 7 fun K g=>?_
     go_simp
     refine(s.out _).mono ?_;rintro e k ⟨rfl,b⟩;have hSn:=(a.2.2.2.2.step b).v;clear a b;try go_simp
     refine Bl g (fun a=>?_) (by first|exact c.out.v|exact hSn|exact(c.out.step (Below.refl _ _).drew).v|exact(c.out.step (C5 _ _)).v);clear g K;refine tkQ 8 ?_;refine tkQ 9 ?_;refine tkQ 10 ?_;refine tkQ 11 ?_;refine tkQ 12 ?_;refine tkQ 13 ?_;refine tkQ 14 ?_;refine tkQ 15 ?_;refine tkQ 16 ?_;refine tkQ 17 ?_;refine tkQ 19 ?_;refine tkQ 20 ?_;refine Bx 18 fun K g=>?_
     go_simp
     refine(x.out _).mono ?_;rintro e k ⟨rfl,b⟩;have hSn:=(a.2.2.2.2.step b).v;clear a b;try go_simp
     refine Bl g (fun a=>?_) (by first|exact c.out.v|exact hSn|exact(c.out.step (Below.refl _ _).drew).v|exact(c.out.step (C5 _ _)).v);clear g K;refine tkQ 21 ?_;refine tkQ 22 ?_;refine wpAnyH_done Kr ?_ _;go_wp2_with fail;go_ret2;exact⟨by rw[j.out];rfl,a.2.2.2.2.below⟩
    ·subst A
     have D:(n.toList==n.toList)=true:=beq_self_eq_true _;have j:=Hq (f.out ⟨rfl,rfl,m,rfl⟩);clear m d f;go_enter Tryz.func282,Tryz.ntmps282
     go_upto_region 1 with(fail)
     generalize w.alloc (.cells #[kind,(),Bd,n] 83)=V at c ⊢;refine E4 (S:=(fun u=>Er w.heap.size ⟨kind,0,Bd,n⟩ w u)) (fun a=>?_) (by first|exact c.out.v|exact hSn|exact(c.out.step (Below.refl _ _).drew).v|exact(c.out.step (C5 _ _)).v);refine tkQ 0 ?_;refine tkQ 1 ?_;refine tkQ 2 ?_;refine tkQ 3 ?_;refine tkQ 4 ?_;refine tkQ 5 ?_;refine tkQ 6 ?_;refine Bx 7 fun K g=>?_
     go_simp
     refine(s.out _).mono ?_;rintro e k ⟨rfl,b⟩;have hSn:=(a.2.2.2.2.step b).v;clear a b;try go_simp
     refine Bl g (fun a=>?_) (by first|exact c.out.v|exact hSn|exact(c.out.step (Below.refl _ _).drew).v|exact(c.out.step (C5 _ _)).v);clear g K;refine tkQ 8 ?_;refine tkQ 9 ?_;refine tkQ 10 ?_;refine tkQ 11 ?_;refine tkQ 12 ?_;refine tkQ 13 ?_;refine tkQ 14 ?_;refine tkQ 15 ?_;refine tkQ 16 ?_;refine tkQ 17 ?_;refine tkQ 19 ?_;refine tkQ 20 ?_;refine Bx 18 fun K g=>?_
     go_simp
     refine(x.out _).mono ?_;rintro e k ⟨rfl,b⟩;have hSn:=(a.2.2.2.2.step b).v;clear a b;try go_simp
     refine Bl g (fun a=>?_) (by first|exact c.out.v|exact hSn|exact(c.out.step (Below.refl _ _).drew).v|exact(c.out.step (C5 _ _)).v);clear g K;refine tkQ 21 ?_;refine tkQ 22 ?_;refine wpAnyH_done Kr ?_ _;have i:=Hq a.2.2.2.2;clear a hSn
     go_upto_region 3 with(fail)
     refine E4 (S:=(fun u=>Er w.heap.size ⟨kind,0,Bd,n⟩ w u)) (fun a=>?_) (by first|exact i.out.v|exact hSn|exact(i.out.step (Below.refl _ _).drew).v|exact(i.out.step (C5 _ _)).v);refine tkQ 0 ?_;refine tkQ 1 ?_;refine tkQ 2 ?_;refine Bx 3 fun K g=>?_
     go_simp
     refine(H.out _).mono ?_;rintro e k ⟨rfl,b⟩;have hSn:=(a.2.2.2.2.step b).v;clear a b;try go_simp
     refine Bl g (fun a=>?_) (by first|exact i.out.v|exact hSn|exact(i.out.step (Below.refl _ _).drew).v|exact(i.out.step (C5 _ _)).v);clear g K;refine Bx 4 fun K g=>?_
     go_simp
     refine(y.out _).mono ?_;rintro e k ⟨rfl,b⟩;have hSn:=(a.2.2.2.2.step b).v;clear a b;try go_simp
     refine Bl g (fun a=>?_) (by first|exact i.out.v|exact hSn|exact(i.out.step (Below.refl _ _).drew).v|exact(i.out.step (C5 _ _)).v);clear g K;refine tkQ 5 ?_;refine wpAnyH_done Kr ?_ _
     by_cases r:q.size=0
     ·obtain⟨N,O,P⟩:=Fg r
      have E:=Hq (decide_eq_true r);clear r;go_wp2_with fail;go_ret2;exact⟨by rw[j.out,E.out];simp,a.2.2.2.2.below⟩
     ·obtain⟨N,O,P⟩:=En r
      have E:=Hq (decide_eq_false r);clear r;go_wp2_with fail;go_ret2;exact⟨by rw[j.out,E.out];simp,a.2.2.2.2.below⟩
theorem cQ {l:List UInt8}{v:Int}(h:Lib.atoiAll l= .ok v): -9223372036854775808≤v∧v≤9223372036854775807:=by
 cases l with
 |nil=>cases h
 |cons c r=>
  simp only[Lib.atoiAll]at h
  cases a:Lib.parseMag (if c.toNat=43∨c.toNat=45 then r else c::r)
  ·rename_i u
   rw[a]at h;simp only at h
   split at h
   ·cases h
   ·split at h
    ·cases h
    ·injection h with h
     subst h
     split<;>omega
  ·rw[a]at h;cases h
  ·rw[a]at h;cases h
theorem cR {p:ByteArray}{o:Hf}(h:∀ v,Lib.atoiAll o.new.data.toList≠ .ok v):D8 p o=Da:=by
 unfold D8
 split
 ·rename_i v a;exact absurd a (h v)
 ·rfl
theorem Zg {p:ByteArray}{o:Hf}{n:Int}(h:Lib.atoiAll o.new.data.toList= .ok n):D8 p o=if Ip n=o.new∧o.Bd=Ip ((Ab p).link:Nat)∧o.slot=0 then(Dy p n,!decide ((Dy p n).size=0))else Da:=by
 unfold D8;rw[h]
theorem cS (p:ByteArray)(o:Hf)(U:p.size≤140737488355328)(ho:o.new.size≤140737488355328)(w:World)(G:Gf w):
 Cr 281 #[p,Ep o] w (.tuple #[.string (D8 p o).1,.bool (D8 p o).2]):=by
 have i:=Hq (C6 w o 83);have j:=Hq G;clear G;obtain⟨R,O⟩:=ex (D8 p o);rw[← O];have H:=Hq O;clear O
 by_cases y:∃ v,Lib.atoiAll o.new.data.toList= .ok v
 rotate_left
 ·have r:∀ v,Lib.atoiAll o.new.data.toList≠ .ok v:=fun v G=>y ⟨v,G⟩
  have s:=Hq (H.out.trans (cR r));have x:=Hq (fun W C=>nV o.new (by omega) r W C);clear y r H;obtain⟨kind,slot,Bd,new⟩:=o;dsimp only[Ep]at i x s ⊢;go_enter Tryz.func281,Tryz.ntmps281
  go_upto_region 2 with((go_at_call 317;refine(x.out _ (j.out.below (Ad _ _))).mono ?_;rintro e I ⟨n,pp,rfl,c⟩))
  have d:=Hq (i.out.step c);have f:=Hq (j.out.below (Ae (Ad _ _) c));clear i j c;refine E4 (S:=(fun u=>Er w.heap.size ⟨kind,slot,Bd,new⟩ w u∧Gf u)) (fun a=>?_) (by first|exact⟨d.out.v,f.out⟩|exact hSn|exact⟨(d.out.step (Below.refl _ _).drew).v,f.out.below (Below.refl _ _).drew⟩);refine tkQ 0 ?_;refine tkQ 1 ?_;refine tkQ 2 ?_;refine Dx 3 (some 18) rfl ?_
  try simp only[Act.put,pS]
  refine Dx 4 (some 19) rfl ?_
  try simp only[Act.put,pS]
  refine Dx 5 (some 20) rfl ?_
  try simp only[Act.put,pS]
  refine Dx 6 (some 21) rfl ?_
  try simp only[Act.put,pS]
  refine Dx 7 (some 22) rfl ?_
  try simp only[Act.put,pS]
  refine tkQ 8 ?_;refine tkQ 9 ?_;refine Dx 10 (some 25) rfl ?_
  try simp only[Act.put,pS]
  refine Dx 11 (some 26) rfl ?_
  try simp only[Act.put,pS]
  refine Dx 12 (some 27) rfl ?_
  try simp only[Act.put,pS]
  refine Dx 13 (some 28) rfl ?_
  try simp only[Act.put,pS]
  refine Dx 14 (some 29) rfl ?_
  try simp only[Act.put,pS]
  refine Dx 15 (some 30) rfl ?_
  try simp only[Act.put,pS]
  refine tkQ 16 ?_;refine tkQ 17 ?_;refine Dx 18 (some 33) rfl ?_
  try simp only[Act.put,pS]
  refine Dx 19 (some 34) rfl ?_
  try simp only[Act.put,pS]
  refine Dx 20 (some 35) rfl ?_
  try simp only[Act.put,pS]
  refine tkQ 21 ?_;refine wpAnyH_done Kr ?_ _;go_wp2_with fail;go_ret2;exact⟨by rw[s.out];rfl,a.1.2.2.2.2.below⟩
 ·obtain⟨n,J⟩:=y
  obtain⟨Y,Z⟩:=cQ J;have x:=Hq (fun W=>jD o.new (by omega) n J W);have z:=Hq (H.out.trans (Zg J));have D:=Hq (fun W C=>Zf n Y Z W C);have L:=Hq (fun W=>lE p U W);have E:=Hq (fun W C=>Zf ((Ab p).link:Nat) (by omega) (by have:=Jk p;omega) W C);have P:=Hq (fun W=>Xr p n U W);have l:=Hq (fun h=>z.out.trans (if_neg h));have m:=Hq (fun h=>z.out.trans (if_pos h));clear J H z;obtain⟨kind,slot,Bd,new⟩:=o;dsimp only[Ep]at i x l m ⊢;generalize Ip n=tn at D l m;generalize Ip ((Ab p).link:Nat)=tk at E l m;generalize ((Ab p).link:Nat)=k at L E;generalize Dy p n=q at P m
  by_cases M:tn=new
  rotate_left
  ·have s:=Hq (l.out (fun h=>M h.1))
   have hq:=Et M;clear M l m;go_enter Tryz.func281,Tryz.ntmps281
   go_upto_region 2 with((go_at_call 317;refine(x.out _).mono ?_;rintro e I ⟨rfl,c⟩))
   have d:=Hq (i.out.step c);have f:=Hq (j.out.below (Ae (Ad _ _) c));clear i j c;refine E4 (S:=(fun u=>Er w.heap.size ⟨kind,slot,Bd,new⟩ w u∧Gf u)) (fun a=>?_) (by first|exact⟨d.out.v,f.out⟩|exact hSn|exact⟨(d.out.step (Below.refl _ _).drew).v,f.out.below (Below.refl _ _).drew⟩);refine tkQ 0 ?_;refine tkQ 1 ?_;refine tkQ 2 ?_;refine tkQ 3 ?_;refine tkQ 5 ?_;refine tkQ 6 ?_;refine Bx 4 fun K g=>?_
   go_simp
   refine(D.out _ a.2).mono ?_;rintro e t ⟨rfl,b⟩;have hSn:=And.intro (a.1.2.2.2.2.step b).v (a.2.below b);clear a b;try go_simp
   refine Bl g (fun a=>?_) (by first|exact⟨d.out.v,f.out⟩|exact hSn|exact⟨(d.out.step (Below.refl _ _).drew).v,f.out.below (Below.refl _ _).drew⟩);clear g K;refine tkQ 7 ?_;refine tkQ 8 ?_;refine tkQ 9 ?_;refine Dx 10 (some 25) rfl ?_
   try simp only[Act.put,pS]
   refine Dx 11 (some 26) rfl ?_
   try simp only[Act.put,pS]
   refine Dx 12 (some 27) rfl ?_
   try simp only[Act.put,pS]
   refine Dx 13 (some 28) rfl ?_
   try simp only[Act.put,pS]
   refine Dx 14 (some 29) rfl ?_
   try simp only[Act.put,pS]
   refine Dx 15 (some 30) rfl ?_
   try simp only[Act.put,pS]
   refine tkQ 16 ?_;refine tkQ 17 ?_;refine Dx 18 (some 33) rfl ?_
   try simp only[Act.put,pS]
   refine Dx 19 (some 34) rfl ?_
   try simp only[Act.put,pS]
   refine Dx 20 (some 35) rfl ?_
   try simp only[Act.put,pS]
   refine tkQ 21 ?_;refine wpAnyH_done Kr ?_ _;go_wp2_with fail;go_ret2;exact⟨by rw[s.out];rfl,a.1.2.2.2.2.below⟩
  ·subst M
   have hq:(tn.toList==tn.toList)=true:=beq_self_eq_true _
   by_cases N:Bd=tk
   rotate_left
   ·have s:=Hq (l.out (fun h=>N h.2.1))
    have Q:=Et N;clear N l m;go_enter Tryz.func281,Tryz.ntmps281
    go_upto_region 2 with((go_at_call 317;refine(x.out _).mono ?_;rintro e I ⟨rfl,c⟩))
    have d:=Hq (i.out.step c);have f:=Hq (j.out.below (Ae (Ad _ _) c));clear i j c;refine E4 (S:=(fun u=>Er w.heap.size ⟨kind,slot,Bd,tn⟩ w u∧Gf u)) (fun a=>?_) (by first|exact⟨d.out.v,f.out⟩|exact hSn|exact⟨(d.out.step (Below.refl _ _).drew).v,f.out.below (Below.refl _ _).drew⟩);refine tkQ 0 ?_;refine tkQ 1 ?_;refine tkQ 2 ?_;refine tkQ 3 ?_;refine tkQ 5 ?_;refine tkQ 6 ?_;refine Bx 4 fun K g=>?_
    go_simp
    refine(D.out _ a.2).mono ?_;rintro e t ⟨rfl,b⟩;have hSn:=And.intro (a.1.2.2.2.2.step b).v (a.2.below b);clear a b;try go_simp
    refine Bl g (fun a=>?_) (by first|exact⟨d.out.v,f.out⟩|exact hSn|exact⟨(d.out.step (Below.refl _ _).drew).v,f.out.below (Below.refl _ _).drew⟩);clear g K;refine tkQ 7 ?_;refine tkQ 8 ?_;refine tkQ 9 ?_;refine tkQ 10 ?_;refine tkQ 11 ?_;refine tkQ 12 ?_;refine Bx 13 fun K g=>?_
    go_simp
    refine(L.out _).mono ?_;rintro e t ⟨rfl,b⟩;have hSn:=And.intro (a.1.2.2.2.2.step b).v (a.2.below b);clear a b;try go_simp
    refine Bl g (fun a=>?_) (by first|exact⟨d.out.v,f.out⟩|exact hSn|exact⟨(d.out.step (Below.refl _ _).drew).v,f.out.below (Below.refl _ _).drew⟩);clear g K;refine Bx 14 fun K g=>?_
    go_simp
    refine(E.out _ a.2).mono ?_;rintro e t ⟨rfl,b⟩;have hSn:=And.intro (a.1.2.2.2.2.step b).v (a.2.below b);clear a b;try go_simp
    refine Bl g (fun a=>?_) (by first|exact⟨d.out.v,f.out⟩|exact hSn|exact⟨(d.out.step (Below.refl _ _).drew).v,f.out.below (Below.refl _ _).drew⟩);clear g K;refine tkQ 15 ?_;refine tkQ 16 ?_;refine tkQ 17 ?_;refine Dx 18 (some 33) rfl ?_
    try simp only[Act.put,pS]
    refine Dx 19 (some 34) rfl ?_
    try simp only[Act.put,pS]
    refine Dx 20 (some 35) rfl ?_
    try simp only[Act.put,pS]
    refine tkQ 21 ?_;refine wpAnyH_done Kr ?_ _;go_wp2_with fail;go_ret2;exact⟨by rw[s.out];rfl,a.1.2.2.2.2.below⟩
   ·subst N
    have Q:(Bd.toList==Bd.toList)=true:=beq_self_eq_true _
    by_cases F:slot=0
    rotate_left
    ·have s:=Hq (l.out (fun h=>F h.2.2))
     have V:(slot==0)=false:=(by simp[F]);have X:(slot != 0)=true:=(by simp[F]);clear F l m;go_enter Tryz.func281,Tryz.ntmps281
     go_upto_region 2 with((go_at_call 317;refine(x.out _).mono ?_;rintro e I ⟨rfl,c⟩))
     have d:=Hq (i.out.step c);have f:=Hq (j.out.below (Ae (Ad _ _) c));clear i j c;refine E4 (S:=(fun u=>Er w.heap.size ⟨kind,slot,Bd,tn⟩ w u∧Gf u)) (fun a=>?_) (by first|exact⟨d.out.v,f.out⟩|exact hSn|exact⟨(d.out.step (Below.refl _ _).drew).v,f.out.below (Below.refl _ _).drew⟩);refine tkQ 0 ?_;refine tkQ 1 ?_;refine tkQ 2 ?_;refine tkQ 3 ?_;refine tkQ 5 ?_;refine tkQ 6 ?_;refine Bx 4 fun K g=>?_
     go_simp
     refine(D.out _ a.2).mono ?_;rintro e t ⟨rfl,b⟩;have hSn:=And.intro (a.1.2.2.2.2.step b).v (a.2.below b);clear a b;try go_simp
     refine Bl g (fun a=>?_) (by first|exact⟨d.out.v,f.out⟩|exact hSn|exact⟨(d.out.step (Below.refl _ _).drew).v,f.out.below (Below.refl _ _).drew⟩);clear g K;refine tkQ 7 ?_;refine tkQ 8 ?_;refine tkQ 9 ?_;refine tkQ 10 ?_;refine tkQ 11 ?_;refine tkQ 12 ?_;refine Bx 13 fun K g=>?_
     go_simp
     refine(L.out _).mono ?_;rintro e t ⟨rfl,b⟩;have hSn:=And.intro (a.1.2.2.2.2.step b).v (a.2.below b);clear a b;try go_simp
     refine Bl g (fun a=>?_) (by first|exact⟨d.out.v,f.out⟩|exact hSn|exact⟨(d.out.step (Below.refl _ _).drew).v,f.out.below (Below.refl _ _).drew⟩);clear g K;refine Bx 14 fun K g=>?_
     go_simp
     refine(E.out _ a.2).mono ?_;rintro e t ⟨rfl,b⟩;have hSn:=And.intro (a.1.2.2.2.2.step b).v (a.2.below b);clear a b;try go_simp
     refine Bl g (fun a=>?_) (by first|exact⟨d.out.v,f.out⟩|exact hSn|exact⟨(d.out.step (Below.refl _ _).drew).v,f.out.below (Below.refl _ _).drew⟩);clear g K;refine tkQ 15 ?_;refine tkQ 16 ?_;refine tkQ 17 ?_;refine tkQ 18 ?_;refine tkQ 19 ?_;refine tkQ 20 ?_;refine tkQ 21 ?_;refine wpAnyH_done Kr ?_ _;go_wp2_with fail;go_ret2;exact⟨by rw[s.out];rfl,a.1.2.2.2.2.below⟩
    ·subst F
     have s:=Hq (m.out ⟨rfl,rfl,rfl⟩);clear l m;go_enter Tryz.func281,Tryz.ntmps281
     go_upto_region 2 with((go_at_call 317;refine(x.out _).mono ?_;rintro e I ⟨rfl,c⟩))
     have d:=Hq (i.out.step c);have f:=Hq (j.out.below (Ae (Ad _ _) c));clear i j c;refine E4 (S:=(fun u=>Er w.heap.size ⟨kind,0,Bd,tn⟩ w u∧Gf u)) (fun a=>?_) (by first|exact⟨d.out.v,f.out⟩|exact hSn|exact⟨(d.out.step (Below.refl _ _).drew).v,f.out.below (Below.refl _ _).drew⟩);refine tkQ 0 ?_;refine tkQ 1 ?_;refine tkQ 2 ?_;refine tkQ 3 ?_;refine tkQ 5 ?_;refine tkQ 6 ?_;refine Bx 4 fun K g=>?_
     go_simp
     refine(D.out _ a.2).mono ?_;rintro e t ⟨rfl,b⟩;have hSn:=And.intro (a.1.2.2.2.2.step b).v (a.2.below b);clear a b;try go_simp
     refine Bl g (fun a=>?_) (by first|exact⟨d.out.v,f.out⟩|exact hSn|exact⟨(d.out.step (Below.refl _ _).drew).v,f.out.below (Below.refl _ _).drew⟩);clear g K;refine tkQ 7 ?_;refine tkQ 8 ?_;refine tkQ 9 ?_;refine tkQ 10 ?_;refine tkQ 11 ?_;refine tkQ 12 ?_;refine Bx 13 fun K g=>?_
     go_simp
     refine(L.out _).mono ?_;rintro e t ⟨rfl,b⟩;have hSn:=And.intro (a.1.2.2.2.2.step b).v (a.2.below b);clear a b;try go_simp
     refine Bl g (fun a=>?_) (by first|exact⟨d.out.v,f.out⟩|exact hSn|exact⟨(d.out.step (Below.refl _ _).drew).v,f.out.below (Below.refl _ _).drew⟩);clear g K;refine Bx 14 fun K g=>?_
     go_simp
     refine(E.out _ a.2).mono ?_;rintro e t ⟨rfl,b⟩;have hSn:=And.intro (a.1.2.2.2.2.step b).v (a.2.below b);clear a b;try go_simp
     refine Bl g (fun a=>?_) (by first|exact⟨d.out.v,f.out⟩|exact hSn|exact⟨(d.out.step (Below.refl _ _).drew).v,f.out.below (Below.refl _ _).drew⟩);clear g K;refine tkQ 15 ?_;refine tkQ 16 ?_;refine tkQ 17 ?_;refine tkQ 18 ?_;refine tkQ 19 ?_;refine tkQ 20 ?_;refine tkQ 21 ?_;refine wpAnyH_done Kr ?_ _
     by_cases B:q.size=0
     ·obtain⟨y1,y2,y3⟩:=Fg B
      have T:=Hq (decide_eq_true B);clear B
      go_wp2_with((go_at_call 318;refine(P.out _).mono ?_;rintro e w4 ⟨rfl,A⟩))
      go_ret2;exact⟨by rw[s.out,T.out];simp,Ae a.1.2.2.2.2.below A⟩
     ·obtain⟨y1,y2,y3⟩:=En B
      have T:=Hq (decide_eq_false B);clear B
      go_wp2_with((go_at_call 318;refine(P.out _).mono ?_;rintro e w4 ⟨rfl,A⟩))
      go_ret2;exact⟨by rw[s.out,T.out];simp,Ae a.1.2.2.2.2.below A⟩
theorem tY (p:ByteArray)(o:Hf)(j:o.kind=1)(q:p.size≤140737488355328)(C:o.new.size≤140737488355328)(w:World)(t:Gf w):
 Cr 229 #[p,Ep o] w (.tuple #[.string (Bv p o).1,.bool (Bv p o).2]):=by
 have k:=Hq (C6 w o 83);have D:=Hq t;have f:=Hq (fun W=>Fk p o.slot q W);obtain⟨R,l⟩:=ex (Bv p o);rw[← l];have c:=Hq (l.trans (show Bv p o=if o.Bd.size=0 then okB (Hk p o.slot o.new)else Da by unfold Bv;rw[j];rfl));have h:=Hq (fun W=>lG p o.slot o.new q W);generalize Hk p o.slot o.new=x at h c;obtain⟨E,ex⟩:=x;unfold Gm at h;have b:=Hq (show Ee p o=(!decide ((Pg.Aw (Ab p).recs o.slot).size=0)&&decide (o.Bd=Pg.Aw (Ab p).recs o.slot))from rfl);generalize Ee p o=oi at b c;generalize (!decide ((Pg.Aw (Ab p).recs o.slot).size=0))=u at b f;generalize Pg.Aw (Ab p).recs o.slot=r at b f;obtain⟨kind,slot,Bd,new⟩:=o;dsimp only[Ep]at k f b c j h ⊢;subst j;clear l t;go_enter Tryz.func229,Tryz.ntmps229
 go_upto_region 2 with(go_at_call 86;refine(f.out _).mono ?_;rintro e y ⟨rfl,g⟩)
 have H1:=Hq (k.out.step g);clear k g;obtain⟨c0,c1,c2,c3,-⟩:=H1.out.v;dsimp only at c0 c1 c2 c3
 go_cut [8] (fun s z=>s= .bool oi∧y=z)
 case first=>
  cases u with
  |false=>
   have a:=Hq (b.out.trans (Bool.false_and _));go_wp2_with fail;go_meet
   case rel=>exact⟨by rw[a.out],rfl⟩
  |true=>
   by_cases i:Bd=r
   ·subst i
    have A:(Bd.toList==Bd.toList)=true:=beq_self_eq_true _;have a:=Hq (b.out.trans (show _=true by simp));go_wp2_with fail;go_meet
    case rel=>exact⟨by rw[a.out],rfl⟩
   ·have A:=Et i
    have a:=Hq (b.out.trans (show _=false by simp[i]));clear i;go_wp2_with fail;go_meet
    case rel=>exact⟨by rw[a.out],rfl⟩
 case rest=>
  obtain⟨rfl,rfl⟩:=hcut;clear b f
  by_cases d:Bd.size=0
  ·have m:=Hq (c.out.trans (if_pos d))
   obtain⟨B,z2,z3⟩:=Fg d;clear d c
   go_wp2_with((go_at_call 128;refine(h.out _).mono ?_;rintro e F ⟨rfl,n⟩))
   go_ret2;exact⟨by rw[m.out];rfl,Ae H1.out.below n⟩
  ·have m:=Hq (c.out.trans (if_neg d))
   obtain⟨B,z2,z3⟩:=En d;clear d c;go_wp2_with fail;go_ret2;exact⟨by rw[m.out];rfl,H1.out.below⟩
theorem tZ (p:ByteArray)(o:Hf)(k:o.kind=2)(q:p.size≤140737488355328)(D:o.new.size≤140737488355328)(w:World)(t:Gf w):
 Cr 229 #[p,Ep o] w (.tuple #[.string (Bv p o).1,.bool (Bv p o).2]):=by
 have l:=Hq (C6 w o 83);have E:=Hq t;have f:=Hq (fun W=>Fk p o.slot q W);obtain⟨R,m⟩:=ex (Bv p o);rw[← m];have b:=Hq (m.trans (show Bv p o=if Ee p o&&decide (o.new.size=0)then okB (Jp p o.slot)else Da by unfold Bv;rw[k];rfl));have i:=Hq (fun W=>lH p o.slot q W);generalize Jp p o.slot=x at i b;obtain⟨F,ex⟩:=x;unfold Gm at i;have c:=Hq (show Ee p o=(!decide ((Pg.Aw (Ab p).recs o.slot).size=0)&&decide (o.Bd=Pg.Aw (Ab p).recs o.slot))from rfl);generalize Ee p o=u at c b;generalize (!decide ((Pg.Aw (Ab p).recs o.slot).size=0))=y at c f;generalize Pg.Aw (Ab p).recs o.slot=r at c f;obtain⟨kind,slot,Bd,new⟩:=o;dsimp only[Ep]at l f c b k i ⊢;subst k;clear m t;go_enter Tryz.func229,Tryz.ntmps229
 go_upto_region 2 with(go_at_call 86;refine(f.out _).mono ?_;rintro e z ⟨rfl,g⟩)
 have H1:=Hq (l.out.step g);clear l g;obtain⟨c0,c1,c2,c3,-⟩:=H1.out.v;dsimp only at c0 c1 c2 c3
 go_cut [8] (fun s A=>s= .bool u∧z=A)
 case first=>
  cases y with
  |false=>
   have a:=Hq (c.out.trans (Bool.false_and _));go_wp2_with fail;go_meet
   case rel=>exact⟨by rw[a.out],rfl⟩
  |true=>
   by_cases j:Bd=r
   ·subst j
    have B:(Bd.toList==Bd.toList)=true:=beq_self_eq_true _;have a:=Hq (c.out.trans (show _=true by simp));go_wp2_with fail;go_meet
    case rel=>exact⟨by rw[a.out],rfl⟩
   ·have B:=Et j
    have a:=Hq (c.out.trans (show _=false by simp[j]));clear j;go_wp2_with fail;go_meet
    case rel=>exact⟨by rw[a.out],rfl⟩
 case rest=>
  obtain⟨rfl,rfl⟩:=hcut;clear c f
  cases u with
  |true=>
   by_cases d:new.size=0
   ·have h:=Hq (b.out.trans (if_pos (by simp[d])))
    obtain⟨C,z2,z3⟩:=Fg d;clear d b
    go_wp2_with((go_at_call 278;refine(i.out _).mono ?_;rintro e G ⟨rfl,n⟩))
    go_ret2;exact⟨by rw[h.out];rfl,Ae H1.out.below n⟩
   ·have h:=Hq (b.out.trans (if_neg (by simp[d])))
    obtain⟨C,z2,z3⟩:=En d;clear d b;go_wp2_with fail;go_ret2;exact⟨by rw[h.out];rfl,H1.out.below⟩
  |false=>
   have h:=Hq (b.out.trans (if_neg (by simp)));clear b;go_wp2_with fail;go_ret2;exact⟨by rw[h.out];rfl,H1.out.below⟩
theorem uA (p:ByteArray)(o:Hf)(i:o.kind=3)(n:p.size≤140737488355328)(B:o.new.size≤140737488355328)(w:World)(q:Gf w):
 Cr 229 #[p,Ep o] w (.tuple #[.string (Bv p o).1,.bool (Bv p o).2]):=by
 have j:=Hq (C6 w o 83);have C:=Hq q;have d:=Hq (fun W=>Fk p o.slot n W);obtain⟨R,k⟩:=ex (Bv p o);rw[← k];have c:=Hq (k.trans (show Bv p o=if Ee p o then okB (Iu p o.slot o.new)else Da by unfold Bv;rw[i];rfl));have g:=Hq (fun W=>lI p o.slot o.new n W);generalize Iu p o.slot o.new=x at g c;obtain⟨D,ex⟩:=x;unfold Gm at g;have b:=Hq (show Ee p o=(!decide ((Pg.Aw (Ab p).recs o.slot).size=0)&&decide (o.Bd=Pg.Aw (Ab p).recs o.slot))from rfl);generalize Ee p o=t at b c;generalize (!decide ((Pg.Aw (Ab p).recs o.slot).size=0))=u at b d;generalize Pg.Aw (Ab p).recs o.slot=r at b d;obtain⟨kind,slot,Bd,new⟩:=o;dsimp only[Ep]at j d b c i g ⊢;subst i;clear k q;go_enter Tryz.func229,Tryz.ntmps229
 go_upto_region 2 with(go_at_call 86;refine(d.out _).mono ?_;rintro e y ⟨rfl,f⟩)
 have H1:=Hq (j.out.step f);clear j f;obtain⟨c0,c1,c2,c3,-⟩:=H1.out.v;dsimp only at c0 c1 c2 c3
 go_cut [8] (fun s z=>s= .bool t∧y=z)
 case first=>
  cases u with
  |false=>
   have a:=Hq (b.out.trans (Bool.false_and _));go_wp2_with fail;go_meet
   case rel=>exact⟨by rw[a.out],rfl⟩
  |true=>
   by_cases h:Bd=r
   ·subst h
    have A:(Bd.toList==Bd.toList)=true:=beq_self_eq_true _;have a:=Hq (b.out.trans (show _=true by simp));go_wp2_with fail;go_meet
    case rel=>exact⟨by rw[a.out],rfl⟩
   ·have A:=Et h
    have a:=Hq (b.out.trans (show _=false by simp[h]));clear h;go_wp2_with fail;go_meet
    case rel=>exact⟨by rw[a.out],rfl⟩
 case rest=>
  obtain⟨rfl,rfl⟩:=hcut;clear b d
  cases t with
  |true=>
   have l:=Hq (c.out.trans (if_pos rfl));clear c
   go_wp2_with((go_at_call 83;refine(g.out _).mono ?_;rintro e E ⟨rfl,m⟩))
   go_ret2;exact⟨by rw[l.out];rfl,Ae H1.out.below m⟩
  |false=>
   have l:=Hq (c.out.trans (if_neg (by simp)));clear c;go_wp2_with fail;go_ret2;exact⟨by rw[l.out];rfl,H1.out.below⟩
theorem uB (p:ByteArray)(o:Hf)(j:o.kind=4)(q:p.size≤140737488355328)(C:o.new.size≤140737488355328)(w:World)(t:Gf w):
 Cr 229 #[p,Ep o] w (.tuple #[.string (Bv p o).1,.bool (Bv p o).2]):=by
 have k:=Hq (C6 w o 83);have D:=Hq t;have f:=Hq (fun W=>Fk p o.slot q W);obtain⟨R,l⟩:=ex (Bv p o);rw[← l];have c:=Hq (l.trans (show Bv p o=if o.Bd.size=0 then okB (I0 p o.slot o.new)else Da by unfold Bv;rw[j];rfl));have h:=Hq (fun W=>mO p o.slot o.new q W);generalize I0 p o.slot o.new=x at h c;obtain⟨E,ex⟩:=x;unfold Gm at h;have b:=Hq (show Ee p o=(!decide ((Pg.Aw (Ab p).recs o.slot).size=0)&&decide (o.Bd=Pg.Aw (Ab p).recs o.slot))from rfl);generalize Ee p o=oi at b c;generalize (!decide ((Pg.Aw (Ab p).recs o.slot).size=0))=u at b f;generalize Pg.Aw (Ab p).recs o.slot=r at b f;obtain⟨kind,slot,Bd,new⟩:=o;dsimp only[Ep]at k f b c j h ⊢;subst j;clear l t;go_enter Tryz.func229,Tryz.ntmps229
 go_upto_region 2 with(go_at_call 86;refine(f.out _).mono ?_;rintro e y ⟨rfl,g⟩)
 have H1:=Hq (k.out.step g);clear k g;obtain⟨c0,c1,c2,c3,-⟩:=H1.out.v;dsimp only at c0 c1 c2 c3
 go_cut [8] (fun s z=>s= .bool oi∧y=z)
 case first=>
  cases u with
  |false=>
   have a:=Hq (b.out.trans (Bool.false_and _));go_wp2_with fail;go_meet
   case rel=>exact⟨by rw[a.out],rfl⟩
  |true=>
   by_cases i:Bd=r
   ·subst i
    have A:(Bd.toList==Bd.toList)=true:=beq_self_eq_true _;have a:=Hq (b.out.trans (show _=true by simp));go_wp2_with fail;go_meet
    case rel=>exact⟨by rw[a.out],rfl⟩
   ·have A:=Et i
    have a:=Hq (b.out.trans (show _=false by simp[i]));clear i;go_wp2_with fail;go_meet
    case rel=>exact⟨by rw[a.out],rfl⟩
 case rest=>
  obtain⟨rfl,rfl⟩:=hcut;clear b f
  by_cases d:Bd.size=0
  ·have m:=Hq (c.out.trans (if_pos d))
   obtain⟨B,z2,z3⟩:=Fg d;clear d c
   go_wp2_with((go_at_call 279;refine(h.out _).mono ?_;rintro e F ⟨rfl,n⟩))
   go_ret2;exact⟨by rw[m.out];rfl,Ae H1.out.below n⟩
  ·have m:=Hq (c.out.trans (if_neg d))
   obtain⟨B,z2,z3⟩:=En d;clear d c;go_wp2_with fail;go_ret2;exact⟨by rw[m.out];rfl,H1.out.below⟩
theorem uC (p:ByteArray)(o:Hf)(k:o.kind=5)(q:p.size≤140737488355328)(D:o.new.size≤140737488355328)(w:World)(t:Gf w):
 Cr 229 #[p,Ep o] w (.tuple #[.string (Bv p o).1,.bool (Bv p o).2]):=by
 have l:=Hq (C6 w o 83);have E:=Hq t;have f:=Hq (fun W=>Fk p o.slot q W);obtain⟨R,m⟩:=ex (Bv p o);rw[← m];have b:=Hq (m.trans (show Bv p o=if Ee p o&&decide (o.new.size=0)then okB (Jr p o.slot)else Da by unfold Bv;rw[k];rfl));have i:=Hq (fun W=>mP p o.slot q W);generalize Jr p o.slot=x at i b;obtain⟨F,ex⟩:=x;unfold Gm at i;have c:=Hq (show Ee p o=(!decide ((Pg.Aw (Ab p).recs o.slot).size=0)&&decide (o.Bd=Pg.Aw (Ab p).recs o.slot))from rfl);generalize Ee p o=u at c b;generalize (!decide ((Pg.Aw (Ab p).recs o.slot).size=0))=y at c f;generalize Pg.Aw (Ab p).recs o.slot=r at c f;obtain⟨kind,slot,Bd,new⟩:=o;dsimp only[Ep]at l f c b k i ⊢;subst k;clear m t;go_enter Tryz.func229,Tryz.ntmps229
 go_upto_region 2 with(go_at_call 86;refine(f.out _).mono ?_;rintro e z ⟨rfl,g⟩)
 have H1:=Hq (l.out.step g);clear l g;obtain⟨c0,c1,c2,c3,-⟩:=H1.out.v;dsimp only at c0 c1 c2 c3
 go_cut [8] (fun s A=>s= .bool u∧z=A)
 case first=>
  cases y with
  |false=>
   have a:=Hq (c.out.trans (Bool.false_and _));go_wp2_with fail;go_meet
   case rel=>exact⟨by rw[a.out],rfl⟩
  |true=>
   by_cases j:Bd=r
   ·subst j
    have B:(Bd.toList==Bd.toList)=true:=beq_self_eq_true _;have a:=Hq (c.out.trans (show _=true by simp));go_wp2_with fail;go_meet
    case rel=>exact⟨by rw[a.out],rfl⟩
   ·have B:=Et j
    have a:=Hq (c.out.trans (show _=false by simp[j]));clear j;go_wp2_with fail;go_meet
    case rel=>exact⟨by rw[a.out],rfl⟩
 case rest=>
  obtain⟨rfl,rfl⟩:=hcut;clear c f
  cases u with
  |true=>
   by_cases d:new.size=0
   ·have h:=Hq (b.out.trans (if_pos (by simp[d])))
    obtain⟨C,z2,z3⟩:=Fg d;clear d b
    go_wp2_with((go_at_call 280;refine(i.out _).mono ?_;rintro e G ⟨rfl,n⟩))
    go_ret2;exact⟨by rw[h.out];rfl,Ae H1.out.below n⟩
   ·have h:=Hq (b.out.trans (if_neg (by simp[d])))
    obtain⟨C,z2,z3⟩:=En d;clear d b;go_wp2_with fail;go_ret2;exact⟨by rw[h.out];rfl,H1.out.below⟩
  |false=>
   have h:=Hq (b.out.trans (if_neg (by simp)));clear b;go_wp2_with fail;go_ret2;exact⟨by rw[h.out];rfl,H1.out.below⟩
theorem uD (p:ByteArray)(o:Hf)(h:o.kind=6)(m:p.size≤140737488355328)(q:o.new.size≤140737488355328)(w:World)(n:Gf w):
 Cr 229 #[p,Ep o] w (.tuple #[.string (Bv p o).1,.bool (Bv p o).2]):=by
 have i:=Hq (C6 w o 83);have t:=Hq n;have c:=Hq (fun W=>Fk p o.slot m W);obtain⟨R,j⟩:=ex (Bv p o);rw[← j];have f:=Hq (j.trans (show Bv p o=D8 p o by unfold Bv;rw[h];rfl));have k:=Hq (fun W u=>cS p o m q W u);generalize D8 p o=x at k f;obtain⟨C,D⟩:=x;have b:=Hq (show Ee p o=(!decide ((Pg.Aw (Ab p).recs o.slot).size=0)&&decide (o.Bd=Pg.Aw (Ab p).recs o.slot))from rfl);generalize Ee p o=oi at b f;generalize (!decide ((Pg.Aw (Ab p).recs o.slot).size=0))=y at b c;generalize Pg.Aw (Ab p).recs o.slot=r at b c;obtain⟨kind,slot,Bd,new⟩:=o;dsimp only[Ep]at i c b f h k ⊢;subst h;clear j n;go_enter Tryz.func229,Tryz.ntmps229
 go_upto_region 2 with(go_at_call 86;refine(c.out _).mono ?_;rintro e z ⟨rfl,d⟩)
 have H1:=Hq (i.out.step d);clear i d;obtain⟨c0,c1,c2,c3,-⟩:=H1.out.v;dsimp only at c0 c1 c2 c3
 go_cut [8] (fun s A=>s= .bool oi∧z=A)
 case first=>
  cases y with
  |false=>
   have a:=Hq (b.out.trans (Bool.false_and _));go_wp2_with fail;go_meet
   case rel=>exact⟨by rw[a.out],rfl⟩
  |true=>
   by_cases g:Bd=r
   ·subst g
    have B:(Bd.toList==Bd.toList)=true:=beq_self_eq_true _;have a:=Hq (b.out.trans (show _=true by simp));go_wp2_with fail;go_meet
    case rel=>exact⟨by rw[a.out],rfl⟩
   ·have B:=Et g
    have a:=Hq (b.out.trans (show _=false by simp[g]));clear g;go_wp2_with fail;go_meet
    case rel=>exact⟨by rw[a.out],rfl⟩
 case rest=>
  obtain⟨rfl,rfl⟩:=hcut;clear b c
  go_wp2_with((go_at_call 281;refine(k.out _ (t.out.below H1.out.below)).mono ?_;rintro e E ⟨rfl,l⟩))
  go_ret2;exact⟨by rw[f.out];rfl,Ae H1.out.below l⟩
theorem uE (p:ByteArray)(o:Hf)(h:o.kind=7)(m:p.size≤140737488355328)(q:o.new.size≤140737488355328)(w:World)(n:Gf w):
 Cr 229 #[p,Ep o] w (.tuple #[.string (Bv p o).1,.bool (Bv p o).2]):=by
 have i:=Hq (C6 w o 83);have A:=Hq n;have c:=Hq (fun W=>Fk p o.slot m W);obtain⟨R,j⟩:=ex (Bv p o);rw[← j];have f:=Hq (j.trans (show Bv p o=Ha p o by unfold Bv;rw[h];rfl));have k:=Hq (fun W=>jE p o m q W);generalize Ha p o=x at k f;obtain⟨B,C⟩:=x;have b:=Hq (show Ee p o=(!decide ((Pg.Aw (Ab p).recs o.slot).size=0)&&decide (o.Bd=Pg.Aw (Ab p).recs o.slot))from rfl);generalize Ee p o=oi at b f;generalize (!decide ((Pg.Aw (Ab p).recs o.slot).size=0))=t at b c;generalize Pg.Aw (Ab p).recs o.slot=r at b c;obtain⟨kind,slot,Bd,new⟩:=o;dsimp only[Ep]at i c b f h k ⊢;subst h;clear j n;go_enter Tryz.func229,Tryz.ntmps229
 go_upto_region 2 with(go_at_call 86;refine(c.out _).mono ?_;rintro e u ⟨rfl,d⟩)
 have H1:=Hq (i.out.step d);clear i d;obtain⟨c0,c1,c2,c3,-⟩:=H1.out.v;dsimp only at c0 c1 c2 c3
 go_cut [8] (fun s y=>s= .bool oi∧u=y)
 case first=>
  cases t with
  |false=>
   have a:=Hq (b.out.trans (Bool.false_and _));go_wp2_with fail;go_meet
   case rel=>exact⟨by rw[a.out],rfl⟩
  |true=>
   by_cases g:Bd=r
   ·subst g
    have z:(Bd.toList==Bd.toList)=true:=beq_self_eq_true _;have a:=Hq (b.out.trans (show _=true by simp));go_wp2_with fail;go_meet
    case rel=>exact⟨by rw[a.out],rfl⟩
   ·have z:=Et g
    have a:=Hq (b.out.trans (show _=false by simp[g]));clear g;go_wp2_with fail;go_meet
    case rel=>exact⟨by rw[a.out],rfl⟩
 case rest=>
  obtain⟨rfl,rfl⟩:=hcut;clear b c
  go_wp2_with((go_at_call 282;refine(k.out _).mono ?_;rintro e D ⟨rfl,l⟩))
  go_ret2;exact⟨by rw[f.out];rfl,Ae H1.out.below l⟩
theorem jF (p:ByteArray)(o:Hf)(j:¬ (1≤o.kind∧o.kind≤7))(l:p.size≤140737488355328)(x:o.new.size≤140737488355328)(w:World)(k:Gf w):
 Cr 229 #[p,Ep o] w (.tuple #[.string (Bv p o).1,.bool (Bv p o).2]):=by
 have h:=Hq (C6 w o 83);have y:=Hq k;have c:=Hq (fun W=>Fk p o.slot l W);obtain⟨R,i⟩:=ex (Bv p o);rw[← i];have f:=Hq (i.trans (show Bv p o=Da by unfold Bv;rw[if_neg (by omega),if_neg (by omega),if_neg (by omega),if_neg (by omega),if_neg (by omega),if_neg (by omega),if_neg (by omega)]));have b:=Hq (show Ee p o=(!decide ((Pg.Aw (Ab p).recs o.slot).size=0)&&decide (o.Bd=Pg.Aw (Ab p).recs o.slot))from rfl);generalize Ee p o=oi at b f;generalize (!decide ((Pg.Aw (Ab p).recs o.slot).size=0))=m at b c;generalize Pg.Aw (Ab p).recs o.slot=r at b c;obtain⟨kind,slot,Bd,new⟩:=o;dsimp only[Ep]at h c b f j ⊢;have z:(kind==1)=false:=by simp;omega
 have A:(kind==2)=false:=by simp;omega
 have B:(kind==3)=false:=by simp;omega
 have C:(kind==4)=false:=by simp;omega
 have D:(kind==5)=false:=by simp;omega
 have E:(kind==6)=false:=by simp;omega
 have F:(kind==7)=false:=by simp;omega
 clear i k j;go_enter Tryz.func229,Tryz.ntmps229
 go_upto_region 2 with(go_at_call 86;refine(c.out _).mono ?_;rintro e n ⟨rfl,d⟩)
 have H1:=Hq (h.out.step d);clear h d;obtain⟨c0,c1,c2,c3,-⟩:=H1.out.v;dsimp only at c0 c1 c2 c3
 go_cut [8] (fun s q=>s= .bool oi∧n=q)
 case first=>
  cases m with
  |false=>
   have a:=Hq (b.out.trans (Bool.false_and _));go_wp2_with fail;go_meet
   case rel=>exact⟨by rw[a.out],rfl⟩
  |true=>
   by_cases g:Bd=r
   ·subst g
    have t:(Bd.toList==Bd.toList)=true:=beq_self_eq_true _;have a:=Hq (b.out.trans (show _=true by simp));go_wp2_with fail;go_meet
    case rel=>exact⟨by rw[a.out],rfl⟩
   ·have t:=Et g
    have a:=Hq (b.out.trans (show _=false by simp[g]));clear g;go_wp2_with fail;go_meet
    case rel=>exact⟨by rw[a.out],rfl⟩
 case rest=>
  obtain⟨rfl,rfl⟩:=hcut;clear b c;have u:=Hq f.out;clear f;go_wp2_with fail;go_ret2;exact⟨by rw[u.out];rfl,H1.out.below⟩
theorem Zh (p:ByteArray)(o:Hf)(a:p.size≤140737488355328)(b:o.new.size≤140737488355328)(w:World)(c:Gf w):
 Cr 229 #[p,Ep o] w (.tuple #[.string (Bv p o).1,.bool (Bv p o).2]):=by
 by_cases h:1≤o.kind∧o.kind≤7
 ·obtain h|h|h|h|h|h|h:o.kind=1∨o.kind=2∨o.kind=3∨o.kind=4∨o.kind=5∨o.kind=6∨o.kind=7:=by omega
  ·exact tY p o h a b w c
  ·exact tZ p o h a b w c
  ·exact uA p o h a b w c
  ·exact uB p o h a b w c
  ·exact uC p o h a b w c
  ·exact uD p o h a b w c
  ·exact uE p o h a b w c
 ·exact jF p o h a b w c
theorem cT (p:ByteArray)(o:Hf)(h:p.size≤140737488355328)(i:o.new.size≤140737488355328)(w:World)(j:Gf w):
 Cr 228 #[p,Ep o] w (.bool (Fe p o)):=by
 have d:=Hq (fun W k=>Zh p o h i W k);have f:=Hq (fun W=>Md p h W);have g:=Hq (j.below (Ad w (.cells #[o.kind,o.slot,o.Bd,o.new] 83)));unfold Fe;generalize Bj p=b at f ⊢;generalize Bv p o=x at d ⊢;obtain⟨n,q⟩:=x;obtain⟨kind,slot,Bd,new⟩:=o;dsimp only[Ep]at d g ⊢;clear j i
 cases b with
 |true=>
  go_enter Tryz.func228,Tryz.ntmps228
  go_wp2_with(first|(go_at_call 229;refine(d.out _ g.out).mono ?_;rintro e l ⟨rfl,a⟩)|(go_at_call 233;refine(f.out _).mono ?_;rintro e m ⟨rfl,c⟩))
  go_ret;exact⟨by simp,Ae (Ae (Ad _ _) a) c⟩
 |false=>
  go_enter Tryz.func228,Tryz.ntmps228
  go_wp2_with(first|(go_at_call 229;refine(d.out _ g.out).mono ?_;rintro e l ⟨rfl,a⟩)|(go_at_call 233;refine(f.out _).mono ?_;rintro e m ⟨rfl,c⟩))
  go_ret;exact⟨by simp,Ae (Ae (Ad _ _) a) c⟩
theorem nW {p:ByteArray}{o:Hf}(h:Fe p o=true):eP p o=((Bv p o).1,0):=by unfold eP;rw[if_pos h]
theorem sU {p:ByteArray}{o:Hf}(h:Fe p o=false):eP p o=(⟨#[]⟩,1):=by unfold eP;rw[if_neg (by rw[h];simp)]
theorem cU (p:ByteArray)(o:Hf)(n:p.size≤140737488355328)(i:o.new.size≤140737488355328)(w:World)(q:Gf w):
 Cr 178 #[p,Ep o] w (Gm (eP p o)):=by
 have j:=Hq (fun W k=>Zh p o n i W k);have f:=Hq (fun W k=>cT p o n i W k);have r:=Hq (C6 w o 83);have g:=Hq (q.below (Ad w (.cells #[o.kind,o.slot,o.Bd,o.new] 83)));have c:=Hq (fun h=>nW (p:=p) (o:=o) h);have d:=Hq (fun h=>sU (p:=p) (o:=o) h);generalize eP p o=R at c d ⊢;generalize Fe p o=b at f c d;generalize Bv p o=x at j c;obtain⟨t,u⟩:=x;obtain⟨kind,slot,Bd,new⟩:=o;dsimp only[Ep]at j f g r ⊢;clear q i
 cases b with
 |true=>
  have l:=Hq (c.out rfl);clear c d;go_enter Tryz.func178,Tryz.ntmps178
  go_wp2_with(first|(go_at_call 228;refine(f.out _ g.out).mono ?_;rintro e s ⟨rfl,a⟩;obtain⟨c0,c1,c2,c3,-⟩:=(r.out.step a).v;dsimp only at c0 c1 c2 c3)|(go_at_call 229;refine(j.out _ (g.out.below a)).mono ?_;rintro e y ⟨rfl,m⟩))
  go_ret2;exact⟨by rw[l.out];rfl,Ae (Ae (Ad _ _) a) m⟩
 |false=>
  have l:=Hq (d.out rfl);clear c d;go_enter Tryz.func178,Tryz.ntmps178
  go_wp2_with((go_at_call 228;refine(f.out _ g.out).mono ?_;rintro e s ⟨rfl,a⟩))
  go_ret2;exact⟨by rw[l.out];rfl,Ae (Ad _ _) a⟩
end Go.Proofs.YtmldoihahndcgaaGreatDoor
