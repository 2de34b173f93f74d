import Derived.Test.YtmfkhdhnbkambaaGreatDoorHw00
import Derived.Test.YtmfkhdhnbkambaaGreatDoorHw07
import Derived.Test.YtmfkhdhnbkambaaGreatDoorHw01
import Derived.WalkSmall
import Derived.Deep.DeepCutAuto
import Derived.Deep.QuietTactic
import Derived.BigQuiet
set_option maxRecDepth 100000
set_option maxHeartbeats 16000000
set_option linter.unusedSimpArgs false
namespace Go.Proofs.YtmfkhdhnbkambaaGreatDoor
open Go.RowKit
structure Gl (w:World):Prop where
 tab:Lib.TabIs Tryz.prog w "internal/strconv.uint64pow10" .u64 Lib.pow10Tab
 syn:∃ tp p,w.var? Tryz.prog "strconv.ErrSyntax"=some #[.iface tp p]
 ran:∃ tp p,w.var? Tryz.prog "strconv.ErrRange"=some #[.iface tp p]
 size:2<w.heap.size
theorem xN:Tryz.prog.globalNamed "internal/strconv.uint64pow10"=some 0:=by kernel_rfl
theorem xO:Tryz.prog.globalNamed "strconv.ErrSyntax"=some 1:=by kernel_rfl
theorem vP:Tryz.prog.globalNamed "strconv.ErrRange"=some 2:=by kernel_rfl
theorem Gl.below {w w':World}(h:Gl w)(a:Bw w w'):Gl w':=by
 have i:=h.size;obtain⟨c,d,e⟩:=h.syn;obtain⟨f,g,b⟩:=h.ran;exact⟨var?_below a xN (by omega) h.tab,⟨c,d,var?_below a xO (by omega) e⟩,⟨f,g,var?_below a vP (by omega) b⟩,Nat.le_trans h.size a.size⟩
theorem aL (w:World)(k:Nat)(os:Array Obj):Bw w (Sort.grow (w.drewN k) os):=
 ⟨rfl,rfl,rfl,by show w.heap.size≤(w.heap++os).size;rw[Array.size_append];omega,fun j a=>by
   show(w.heap++os)[j]? =w.heap[j]?
   rw[Array.getElem?_append_left a]⟩
theorem Tu (n:Int)(a: -9223372036854775808≤n)(b:n≤9223372036854775807)(w:World)(c:Gl w):
 Cr 113 #[n] w (.string (F1 n)):=by
 refine(Tryz.strconv_Itoa n a b w c.tab).mono ?_;rintro e w' ⟨rfl,k,os,rfl⟩;exact⟨rfl,aL _ _ _⟩
theorem qB (s:ByteArray)(b:s.size≤281474976710656)(h:∀ v,Lib.atoiAll s.data.toList≠ .ok v)(w:World)(g:Gl w):
 Cq 203 #[s] w fun e w'=>∃ n p,e= .returned (.tuple #[n,.iface 262 p])∧Bw w w':=by
 cases c:Lib.atoiAll s.data.toList
 ·rename_i v;exact absurd c (h v)
 ·obtain⟨d,p,a⟩:=g.syn
  refine(Any.strconv_Atoi_syntax_var Tryz.laysC172 s b c d p w a).mono ?_;rintro e w' ⟨N,rfl,_,_,f⟩;exact⟨_,_,rfl,f⟩
 ·obtain⟨d,p,a⟩:=g.ran
  refine(Any.strconv_Atoi_range_var Tryz.laysC172 s b c d p w a).mono ?_;rintro e w' ⟨N,rfl,_,_,f⟩;exact⟨_,_,rfl,f⟩
theorem lM (s:ByteArray)(a:s.size≤281474976710656)(v:Int)(h:Lib.atoiAll s.data.toList= .ok v)(w:World):
 Cr 203 #[s] w (.tuple #[v,.nilIface]):=by
 refine(Tryz.strconv_Atoi_ok s (by omega) v h w).mono ?_;rintro e w' ⟨rfl,b⟩;refine⟨rfl,?_⟩;rcases b with rfl|⟨t,rfl⟩
 ·exact Below.refl _ _
 ·exact Ly _ _ _
theorem Vq (p:ByteArray)(b:p.size≤140737488355328)(w:World):
 Cr 205 #[p] w (.string (Bl p 0)):=by
 have a:=Hq (fun W=>Jd p 0 b W);generalize Bl p 0=q at a ⊢;go_enter Tryz.func205,Tryz.ntmps205
 go_wp2_with(go_at_call 80;refine(a.out _).mono ?_;rintro e d ⟨rfl,c⟩)
 go_ret;exact⟨rfl,c⟩
abbrev Gb (o:Im):Value:=.agg #[o.kind,o.slot,o.By,o.new]
structure Tv (X:Nat) (o:Im) (w0 u:World):Prop where
 c0:u.cell? ⟨X,0,none⟩=some (.int .i64 o.kind)
 c1:u.cell? ⟨X,1,none⟩=some (.int .i64 o.slot)
 c2:u.cell? ⟨X,2,none⟩=some (.string o.By)
 c3:u.cell? ⟨X,3,none⟩=some (.string o.new)
 lt:X<u.heap.size
 below:Bw w0 u
abbrev Fo (X:Nat)(o:Im)(w0 u:World):Prop:=
 u.cell? ⟨X,0,none⟩=some (.int .i64 o.kind)∧u.cell? ⟨X,1,none⟩=some (.int .i64 o.slot)∧u.cell? ⟨X,2,none⟩=some (.string o.By)∧u.cell? ⟨X,3,none⟩=some (.string o.new)∧Tv X o w0 u
theorem Tv.step {X:Nat}{o:Im}{b u v:World}(h:Tv X o b u)(a:Bw u v):Tv X o b v:=
 ⟨by rw[a.cell (p:=⟨X,0,none⟩) h.lt];exact h.c0,by rw[a.cell (p:=⟨X,1,none⟩) h.lt];exact h.c1,by rw[a.cell (p:=⟨X,2,none⟩) h.lt];exact h.c2,by rw[a.cell (p:=⟨X,3,none⟩) h.lt];exact h.c3,Nat.lt_of_lt_of_le h.lt a.size,Ag h.below a⟩
theorem Tv.v {X:Nat}{o:Im}{a u:World}(h:Tv X o a u):Fo X o a u:=⟨h.c0,h.c1,h.c2,h.c3,h⟩
theorem Eo (w:World)(o:Im)(T:TypeId):Tv w.heap.size o w (w.alloc (.cells #[o.kind,o.slot,o.By,o.new] T)):=by
 have h:=heap_alloc_new w (.cells #[o.kind,o.slot,o.By,o.new] T);exact⟨by rw[Aa h];rfl,by rw[Aa h];rfl,by rw[Aa h];rfl,by rw[Aa h];rfl,by simp,Ac _ _⟩
theorem toList_nil (a:ByteArray):a.toList=[]↔a.size=0:=by
 rw[ByteArray.toList_eq];have h:a.data.toList.length=a.size:=by simp
 constructor
 ·intro e;rw[e]at h;exact h.symm
 ·intro e;exact List.eq_nil_of_length_eq_zero (by omega)
theorem Gh {a b:ByteArray}(h:a≠b):(a.toList==b.toList)=false:=by
 rw[ByteArray.toList_eq,ByteArray.toList_eq];exact beq_eq_false_iff_ne.2 (fun e=>h (ByteArray.ext (Array.toList_inj.1 e)))
theorem K4 {a:ByteArray}(h:a.size=0):a.toList=[]∧a.toList.isEmpty=true∧(a.toList==[])=true:=by
 have:=(toList_nil a).2 h;rw[this];simp
theorem I9 {a:ByteArray}(h:a.size≠0):¬ a.toList=[]∧a.toList.isEmpty=false∧(a.toList==[])=false:=by
 have b:¬ a.toList=[]:=fun e=>h ((toList_nil a).1 e);exact⟨b,by simpa using b,by simpa using b⟩
theorem lN (p:ByteArray)(o:Im)(E:p.size≤140737488355328)(F:o.new.size≤140737488355328)(w:World):
 Cr 173 #[p,Gb o] w (.tuple #[.string (Gk p o).1,.bool (Gk p o).2]):=by
 have r:=Hq (fun W=>Vq p E W);have t:=Hq (fun W=>Vq o.new F W);have G:=Hq (fun W=>fI p E W);have x:=Hq (fun W=>Jd o.new ((Ab p).lsn:Nat) F W);have c:=Hq (Eo w o 42);obtain⟨R,A⟩:=ex (Gk p o);rw[← A];have B:=Hq A;clear A;have d:=Hq (fun h=>B.out.trans (if_neg h));have f:=Hq (fun h=>B.out.trans (if_pos h));clear B;obtain⟨kind,slot,By,new⟩:=o;dsimp only[Gb]at t x c d f ⊢;generalize Bl p 0=pp at r d f;generalize Bl new 0=np at t d f;generalize ((Ab p).lsn:Nat)=l at G x f;generalize Bl new (l:Int)=q at x f
 by_cases s:slot=0
 rotate_left
 ·have j:=Hq (d.out (fun h=>s h.1))
  have H:(slot==0)=false:=by simp[s]
  have I:(slot != 0)=true:=by simp[s]
  clear s d f;go_enter Tryz.func173,Tryz.ntmps173
  go_upto_region 1 with(fail)
  generalize w.alloc (.cells #[kind,slot,By,new] 42)=V at c ⊢;refine G7 (S:=(fun u=>Fo w.heap.size ⟨kind,slot,By,new⟩ w u)) (fun a=>?_) (by first|exact c.out.v|exact hSn|exact(c.out.step (Below.refl _ _).drew).v|exact(c.out.step (Ej _ _)).v);refine tkQ 0 ?_;refine tkQ 1 ?_;refine tkQ 2 ?_;refine tkQ 3 ?_;refine Ez 4 (some 11) rfl ?_
  try simp only[Act.put,pS]
  refine Ez 5 (some 12) rfl ?_
  try simp only[Act.put,pS]
  refine Ez 6 (some 13) rfl ?_
  try simp only[Act.put,pS]
  refine Ez 7 (some 14) rfl ?_
  try simp only[Act.put,pS]
  refine Ez 8 (some 15) rfl ?_
  try simp only[Act.put,pS]
  refine tkQ 9 ?_;refine tkQ 10 ?_;refine Ez 11 (some 18) rfl ?_
  try simp only[Act.put,pS]
  refine Ez 12 (some 19) rfl ?_
  try simp only[Act.put,pS]
  refine Ez 13 (some 20) rfl ?_
  try simp only[Act.put,pS]
  refine tkQ 14 ?_;refine tkQ 15 ?_;refine Ez 16 (some 23) rfl ?_
  try simp only[Act.put,pS]
  refine Ez 17 (some 24) rfl ?_
  try simp only[Act.put,pS]
  refine Ez 18 (some 25) rfl ?_
  try simp only[Act.put,pS]
  refine Ez 19 (some 26) rfl ?_
  try simp only[Act.put,pS]
  refine Ez 20 (some 27) rfl ?_
  try simp only[Act.put,pS]
  refine Ez 21 (some 28) rfl ?_
  try simp only[Act.put,pS]
  refine tkQ 22 ?_;refine wpAnyH_done Kr ?_ _;go_wp2_with fail;go_ret2;exact⟨by rw[j.out];rfl,a.2.2.2.2.below⟩
 ·subst s
  by_cases y:By=pp
  rotate_left
  ·have j:=Hq (d.out (fun h=>y h.2.1))
   have J:=Gh y;clear y d f;go_enter Tryz.func173,Tryz.ntmps173
   go_upto_region 1 with(fail)
   generalize w.alloc (.cells #[kind,(),By,new] 42)=V at c ⊢;refine G7 (S:=(fun u=>Fo w.heap.size ⟨kind,0,By,new⟩ w u)) (fun a=>?_) (by first|exact c.out.v|exact hSn|exact(c.out.step (Below.refl _ _).drew).v|exact(c.out.step (Ej _ _)).v);refine tkQ 0 ?_;refine tkQ 1 ?_;refine tkQ 2 ?_;refine tkQ 3 ?_;refine tkQ 4 ?_;refine tkQ 5 ?_;refine tkQ 6 ?_;refine Dg 7 fun K g=>?_
   go_simp
   refine(r.out _).mono ?_;rintro e k ⟨rfl,b⟩;have hSn:=(a.2.2.2.2.step b).v;clear a b;try go_simp
   refine Cw g (fun a=>?_) (by first|exact c.out.v|exact hSn|exact(c.out.step (Below.refl _ _).drew).v|exact(c.out.step (Ej _ _)).v);clear g K;refine tkQ 8 ?_;refine tkQ 9 ?_;refine tkQ 10 ?_;refine Ez 11 (some 18) rfl ?_
   try simp only[Act.put,pS]
   refine Ez 12 (some 19) rfl ?_
   try simp only[Act.put,pS]
   refine Ez 13 (some 20) rfl ?_
   try simp only[Act.put,pS]
   refine tkQ 14 ?_;refine tkQ 15 ?_;refine Ez 16 (some 23) rfl ?_
   try simp only[Act.put,pS]
   refine Ez 17 (some 24) rfl ?_
   try simp only[Act.put,pS]
   refine Ez 18 (some 25) rfl ?_
   try simp only[Act.put,pS]
   refine Ez 19 (some 26) rfl ?_
   try simp only[Act.put,pS]
   refine Ez 20 (some 27) rfl ?_
   try simp only[Act.put,pS]
   refine Ez 21 (some 28) rfl ?_
   try simp only[Act.put,pS]
   refine tkQ 22 ?_;refine wpAnyH_done Kr ?_ _;go_wp2_with fail;go_ret2;exact⟨by rw[j.out];rfl,a.2.2.2.2.below⟩
  ·subst y
   have J:(By.toList==By.toList)=true:=beq_self_eq_true _
   by_cases m:new.size=0
   ·have j:=Hq (d.out (fun h=>h.2.2.1 m))
    obtain⟨L,z2,z3⟩:=K4 m;clear m d f;go_enter Tryz.func173,Tryz.ntmps173
    go_upto_region 1 with(fail)
    generalize w.alloc (.cells #[kind,(),By,new] 42)=V at c ⊢;refine G7 (S:=(fun u=>Fo w.heap.size ⟨kind,0,By,new⟩ w u)) (fun a=>?_) (by first|exact c.out.v|exact hSn|exact(c.out.step (Below.refl _ _).drew).v|exact(c.out.step (Ej _ _)).v);refine tkQ 0 ?_;refine tkQ 1 ?_;refine tkQ 2 ?_;refine tkQ 3 ?_;refine tkQ 4 ?_;refine tkQ 5 ?_;refine tkQ 6 ?_;refine Dg 7 fun K g=>?_
    go_simp
    refine(r.out _).mono ?_;rintro e k ⟨rfl,b⟩;have hSn:=(a.2.2.2.2.step b).v;clear a b;try go_simp
    refine Cw g (fun a=>?_) (by first|exact c.out.v|exact hSn|exact(c.out.step (Below.refl _ _).drew).v|exact(c.out.step (Ej _ _)).v);clear g K;refine tkQ 8 ?_;refine tkQ 9 ?_;refine tkQ 10 ?_;refine tkQ 11 ?_;refine tkQ 12 ?_;refine tkQ 13 ?_;refine tkQ 14 ?_;refine tkQ 15 ?_;refine Ez 16 (some 23) rfl ?_
    try simp only[Act.put,pS]
    refine Ez 17 (some 24) rfl ?_
    try simp only[Act.put,pS]
    refine Ez 18 (some 25) rfl ?_
    try simp only[Act.put,pS]
    refine Ez 19 (some 26) rfl ?_
    try simp only[Act.put,pS]
    refine Ez 20 (some 27) rfl ?_
    try simp only[Act.put,pS]
    refine Ez 21 (some 28) rfl ?_
    try simp only[Act.put,pS]
    refine tkQ 22 ?_;refine wpAnyH_done Kr ?_ _;go_wp2_with fail;go_ret2;exact⟨by rw[j.out];rfl,a.2.2.2.2.below⟩
   ·obtain⟨L,z2,z3⟩:=I9 m
    by_cases z:np=new
    rotate_left
    ·have j:=Hq (d.out (fun h=>z h.2.2.2))
     have C:=Gh z;clear z m d f;go_enter Tryz.func173,Tryz.ntmps173
     go_upto_region 1 with(fail)
     generalize w.alloc (.cells #[kind,(),By,new] 42)=V at c ⊢;refine G7 (S:=(fun u=>Fo w.heap.size ⟨kind,0,By,new⟩ w u)) (fun a=>?_) (by first|exact c.out.v|exact hSn|exact(c.out.step (Below.refl _ _).drew).v|exact(c.out.step (Ej _ _)).v);refine tkQ 0 ?_;refine tkQ 1 ?_;refine tkQ 2 ?_;refine tkQ 3 ?_;refine tkQ 4 ?_;refine tkQ 5 ?_;refine tkQ 6 ?_;refine Dg 7 fun K g=>?_
     go_simp
     refine(r.out _).mono ?_;rintro e k ⟨rfl,b⟩;have hSn:=(a.2.2.2.2.step b).v;clear a b;try go_simp
     refine Cw g (fun a=>?_) (by first|exact c.out.v|exact hSn|exact(c.out.step (Below.refl _ _).drew).v|exact(c.out.step (Ej _ _)).v);clear g K;refine tkQ 8 ?_;refine tkQ 9 ?_;refine tkQ 10 ?_;refine tkQ 11 ?_;refine tkQ 12 ?_;refine tkQ 13 ?_;refine tkQ 14 ?_;refine tkQ 15 ?_;refine tkQ 16 ?_;refine tkQ 17 ?_;refine tkQ 19 ?_;refine tkQ 20 ?_;refine Dg 18 fun K g=>?_
     go_simp
     refine(t.out _).mono ?_;rintro e k ⟨rfl,b⟩;have hSn:=(a.2.2.2.2.step b).v;clear a b;try go_simp
     refine Cw g (fun a=>?_) (by first|exact c.out.v|exact hSn|exact(c.out.step (Below.refl _ _).drew).v|exact(c.out.step (Ej _ _)).v);clear g K;refine tkQ 21 ?_;refine tkQ 22 ?_;refine wpAnyH_done Kr ?_ _;go_wp2_with fail;go_ret2;exact⟨by rw[j.out];rfl,a.2.2.2.2.below⟩
    ·subst z
     have C:(np.toList==np.toList)=true:=beq_self_eq_true _;have j:=Hq (f.out ⟨rfl,rfl,m,rfl⟩);clear m d f;go_enter Tryz.func173,Tryz.ntmps173
     go_upto_region 1 with(fail)
     generalize w.alloc (.cells #[kind,(),By,np] 42)=V at c ⊢;refine G7 (S:=(fun u=>Fo w.heap.size ⟨kind,0,By,np⟩ w u)) (fun a=>?_) (by first|exact c.out.v|exact hSn|exact(c.out.step (Below.refl _ _).drew).v|exact(c.out.step (Ej _ _)).v);refine tkQ 0 ?_;refine tkQ 1 ?_;refine tkQ 2 ?_;refine tkQ 3 ?_;refine tkQ 4 ?_;refine tkQ 5 ?_;refine tkQ 6 ?_;refine Dg 7 fun K g=>?_
     go_simp
     refine(r.out _).mono ?_;rintro e k ⟨rfl,b⟩;have hSn:=(a.2.2.2.2.step b).v;clear a b;try go_simp
     refine Cw g (fun a=>?_) (by first|exact c.out.v|exact hSn|exact(c.out.step (Below.refl _ _).drew).v|exact(c.out.step (Ej _ _)).v);clear g K;refine tkQ 8 ?_;refine tkQ 9 ?_;refine tkQ 10 ?_;refine tkQ 11 ?_;refine tkQ 12 ?_;refine tkQ 13 ?_;refine tkQ 14 ?_;refine tkQ 15 ?_;refine tkQ 16 ?_;refine tkQ 17 ?_;refine tkQ 19 ?_;refine tkQ 20 ?_;refine Dg 18 fun K g=>?_
     go_simp
     refine(t.out _).mono ?_;rintro e k ⟨rfl,b⟩;have hSn:=(a.2.2.2.2.step b).v;clear a b;try go_simp
     refine Cw g (fun a=>?_) (by first|exact c.out.v|exact hSn|exact(c.out.step (Below.refl _ _).drew).v|exact(c.out.step (Ej _ _)).v);clear g K;refine tkQ 21 ?_;refine tkQ 22 ?_;refine wpAnyH_done Kr ?_ _;have i:=Hq a.2.2.2.2;clear a hSn
     go_upto_region 3 with(fail)
     refine G7 (S:=(fun u=>Fo w.heap.size ⟨kind,0,By,np⟩ w u)) (fun a=>?_) (by first|exact i.out.v|exact hSn|exact(i.out.step (Below.refl _ _).drew).v|exact(i.out.step (Ej _ _)).v);refine tkQ 0 ?_;refine tkQ 1 ?_;refine tkQ 2 ?_;refine Dg 3 fun K g=>?_
     go_simp
     refine(G.out _).mono ?_;rintro e k ⟨rfl,b⟩;have hSn:=(a.2.2.2.2.step b).v;clear a b;try go_simp
     refine Cw g (fun a=>?_) (by first|exact i.out.v|exact hSn|exact(i.out.step (Below.refl _ _).drew).v|exact(i.out.step (Ej _ _)).v);clear g K;refine Dg 4 fun K g=>?_
     go_simp
     refine(x.out _).mono ?_;rintro e k ⟨rfl,b⟩;have hSn:=(a.2.2.2.2.step b).v;clear a b;try go_simp
     refine Cw g (fun a=>?_) (by first|exact i.out.v|exact hSn|exact(i.out.step (Below.refl _ _).drew).v|exact(i.out.step (Ej _ _)).v);clear g K;refine tkQ 5 ?_;refine wpAnyH_done Kr ?_ _
     by_cases n:q.size=0
     ·obtain⟨M,N,O⟩:=K4 n
      have D:=Hq (decide_eq_true n);clear n;go_wp2_with fail;go_ret2;exact⟨by rw[j.out,D.out];simp,a.2.2.2.2.below⟩
     ·obtain⟨M,N,O⟩:=I9 n
      have D:=Hq (decide_eq_false n);clear n;go_wp2_with fail;go_ret2;exact⟨by rw[j.out,D.out];simp,a.2.2.2.2.below⟩
theorem eB {l:List UInt8}{v:Int}(h:Lib.atoiAll l= .ok v): -9223372036854775808≤v∧v≤9223372036854775807:=by
 cases l with
 |nil=>cases h
 |cons c r=>
  simp only[Lib.atoiAll]at h
  cases a:Lib.parseMag (if c.toNat=43∨c.toNat=45 then r else c::r)
  ·rename_i u
   rw[a]at h;simp only at h
   split at h
   ·cases h
   ·split at h
    ·cases h
    ·injection h with h
     subst h
     split<;>omega
  ·rw[a]at h;cases h
  ·rw[a]at h;cases h
theorem eC {p:ByteArray}{o:Im}(h:∀ v,Lib.atoiAll o.new.data.toList≠ .ok v):Ds p o=Df:=by
 unfold Ds
 split
 ·rename_i v a;exact absurd a (h v)
 ·rfl
theorem aM {p:ByteArray}{o:Im}{n:Int}(h:Lib.atoiAll o.new.data.toList= .ok n):Ds p o=if F1 n=o.new∧o.By=F1 ((Ab p).link:Nat)∧o.slot=0 then(Dy p n,!decide ((Dy p n).size=0))else Df:=by
 unfold Ds;rw[h]
theorem eD (p:ByteArray)(o:Im)(T:p.size≤140737488355328)(ho:o.new.size≤140737488355328)(w:World)(F:Gl w):
 Cr 172 #[p,Gb o] w (.tuple #[.string (Ds p o).1,.bool (Ds p o).2]):=by
 have g:=Hq (Eo w o 42);have i:=Hq F;clear F;obtain⟨R,N⟩:=ex (Ds p o);rw[← N];have G:=Hq N;clear N
 by_cases x:∃ v,Lib.atoiAll o.new.data.toList= .ok v
 rotate_left
 ·have m:∀ v,Lib.atoiAll o.new.data.toList≠ .ok v:=fun v F=>x ⟨v,F⟩
  have r:=Hq (G.out.trans (eC m));have t:=Hq (fun W B=>qB o.new (by omega) m W B);clear x m G;obtain⟨kind,slot,By,new⟩:=o;dsimp only[Gb]at g t r ⊢;go_enter Tryz.func172,Tryz.ntmps172
  go_upto_region 2 with((go_at_call 203;refine(t.out _ (i.out.below (Ac _ _))).mono ?_;rintro e H ⟨n,pp,rfl,c⟩))
  have d:=Hq (g.out.step c);have HV:=Hq (i.out.below (Ag (Ac _ _) c));clear g i c;refine G7 (S:=(fun u=>Fo w.heap.size ⟨kind,slot,By,new⟩ w u∧Gl u)) (fun a=>?_) (by first|exact⟨d.out.v,HV.out⟩|exact hSn|exact⟨(d.out.step (Below.refl _ _).drew).v,HV.out.below (Below.refl _ _).drew⟩);refine tkQ 0 ?_;refine tkQ 1 ?_;refine tkQ 2 ?_;refine Ez 3 (some 18) rfl ?_
  try simp only[Act.put,pS]
  refine Ez 4 (some 19) rfl ?_
  try simp only[Act.put,pS]
  refine Ez 5 (some 20) rfl ?_
  try simp only[Act.put,pS]
  refine Ez 6 (some 21) rfl ?_
  try simp only[Act.put,pS]
  refine Ez 7 (some 22) rfl ?_
  try simp only[Act.put,pS]
  refine tkQ 8 ?_;refine tkQ 9 ?_;refine Ez 10 (some 25) rfl ?_
  try simp only[Act.put,pS]
  refine Ez 11 (some 26) rfl ?_
  try simp only[Act.put,pS]
  refine Ez 12 (some 27) rfl ?_
  try simp only[Act.put,pS]
  refine Ez 13 (some 28) rfl ?_
  try simp only[Act.put,pS]
  refine Ez 14 (some 29) rfl ?_
  try simp only[Act.put,pS]
  refine Ez 15 (some 30) rfl ?_
  try simp only[Act.put,pS]
  refine tkQ 16 ?_;refine tkQ 17 ?_;refine Ez 18 (some 33) rfl ?_
  try simp only[Act.put,pS]
  refine Ez 19 (some 34) rfl ?_
  try simp only[Act.put,pS]
  refine Ez 20 (some 35) rfl ?_
  try simp only[Act.put,pS]
  refine tkQ 21 ?_;refine wpAnyH_done Kr ?_ _;go_wp2_with fail;go_ret2;exact⟨by rw[r.out];rfl,a.1.2.2.2.2.below⟩
 ·obtain⟨n,I⟩:=x
  obtain⟨X,Y⟩:=eB I;have t:=Hq (fun W=>lM o.new (by omega) n I W);have y:=Hq (G.out.trans (aM I));have C:=Hq (fun W B=>Tu n X Y W B);have J:=Hq (fun W=>Yo p T W);have D:=Hq (fun W B=>Tu ((Ab p).link:Nat) (by omega) (by have:=Lk p;omega) W B);have O:=Hq (fun W=>Ys p n T W);have j:=Hq (fun h=>y.out.trans (if_neg h));have l:=Hq (fun h=>y.out.trans (if_pos h));clear I G y;obtain⟨kind,slot,By,new⟩:=o;dsimp only[Gb]at g t j l ⊢;generalize F1 n=tn at C j l;generalize F1 ((Ab p).link:Nat)=tk at D j l;generalize ((Ab p).link:Nat)=k at J D;generalize Dy p n=q at O l
  by_cases L:tn=new
  rotate_left
  ·have r:=Hq (j.out (fun h=>L h.1))
   have Z:=Gh L;clear L j l;go_enter Tryz.func172,Tryz.ntmps172
   go_upto_region 2 with((go_at_call 203;refine(t.out _).mono ?_;rintro e H ⟨rfl,c⟩))
   have d:=Hq (g.out.step c);have HV:=Hq (i.out.below (Ag (Ac _ _) c));clear g i c;refine G7 (S:=(fun u=>Fo w.heap.size ⟨kind,slot,By,new⟩ w u∧Gl u)) (fun a=>?_) (by first|exact⟨d.out.v,HV.out⟩|exact hSn|exact⟨(d.out.step (Below.refl _ _).drew).v,HV.out.below (Below.refl _ _).drew⟩);refine tkQ 0 ?_;refine tkQ 1 ?_;refine tkQ 2 ?_;refine tkQ 3 ?_;refine tkQ 5 ?_;refine tkQ 6 ?_;refine Dg 4 fun K f=>?_
   go_simp
   refine(C.out _ a.2).mono ?_;rintro e s ⟨rfl,b⟩;have hSn:=And.intro (a.1.2.2.2.2.step b).v (a.2.below b);clear a b;try go_simp
   refine Cw f (fun a=>?_) (by first|exact⟨d.out.v,HV.out⟩|exact hSn|exact⟨(d.out.step (Below.refl _ _).drew).v,HV.out.below (Below.refl _ _).drew⟩);clear f K;refine tkQ 7 ?_;refine tkQ 8 ?_;refine tkQ 9 ?_;refine Ez 10 (some 25) rfl ?_
   try simp only[Act.put,pS]
   refine Ez 11 (some 26) rfl ?_
   try simp only[Act.put,pS]
   refine Ez 12 (some 27) rfl ?_
   try simp only[Act.put,pS]
   refine Ez 13 (some 28) rfl ?_
   try simp only[Act.put,pS]
   refine Ez 14 (some 29) rfl ?_
   try simp only[Act.put,pS]
   refine Ez 15 (some 30) rfl ?_
   try simp only[Act.put,pS]
   refine tkQ 16 ?_;refine tkQ 17 ?_;refine Ez 18 (some 33) rfl ?_
   try simp only[Act.put,pS]
   refine Ez 19 (some 34) rfl ?_
   try simp only[Act.put,pS]
   refine Ez 20 (some 35) rfl ?_
   try simp only[Act.put,pS]
   refine tkQ 21 ?_;refine wpAnyH_done Kr ?_ _;go_wp2_with fail;go_ret2;exact⟨by rw[r.out];rfl,a.1.2.2.2.2.below⟩
  ·subst L
   have Z:(tn.toList==tn.toList)=true:=beq_self_eq_true _
   by_cases M:By=tk
   rotate_left
   ·have r:=Hq (j.out (fun h=>M h.2.1))
    have P:=Gh M;clear M j l;go_enter Tryz.func172,Tryz.ntmps172
    go_upto_region 2 with((go_at_call 203;refine(t.out _).mono ?_;rintro e H ⟨rfl,c⟩))
    have d:=Hq (g.out.step c);have HV:=Hq (i.out.below (Ag (Ac _ _) c));clear g i c;refine G7 (S:=(fun u=>Fo w.heap.size ⟨kind,slot,By,tn⟩ w u∧Gl u)) (fun a=>?_) (by first|exact⟨d.out.v,HV.out⟩|exact hSn|exact⟨(d.out.step (Below.refl _ _).drew).v,HV.out.below (Below.refl _ _).drew⟩);refine tkQ 0 ?_;refine tkQ 1 ?_;refine tkQ 2 ?_;refine tkQ 3 ?_;refine tkQ 5 ?_;refine tkQ 6 ?_;refine Dg 4 fun K f=>?_
    go_simp
    refine(C.out _ a.2).mono ?_;rintro e s ⟨rfl,b⟩;have hSn:=And.intro (a.1.2.2.2.2.step b).v (a.2.below b);clear a b;try go_simp
    refine Cw f (fun a=>?_) (by first|exact⟨d.out.v,HV.out⟩|exact hSn|exact⟨(d.out.step (Below.refl _ _).drew).v,HV.out.below (Below.refl _ _).drew⟩);clear f K;refine tkQ 7 ?_;refine tkQ 8 ?_;refine tkQ 9 ?_;refine tkQ 10 ?_;refine tkQ 11 ?_;refine tkQ 12 ?_;refine Dg 13 fun K f=>?_
    go_simp
    refine(J.out _).mono ?_;rintro e s ⟨rfl,b⟩;have hSn:=And.intro (a.1.2.2.2.2.step b).v (a.2.below b);clear a b;try go_simp
    refine Cw f (fun a=>?_) (by first|exact⟨d.out.v,HV.out⟩|exact hSn|exact⟨(d.out.step (Below.refl _ _).drew).v,HV.out.below (Below.refl _ _).drew⟩);clear f K;refine Dg 14 fun K f=>?_
    go_simp
    refine(D.out _ a.2).mono ?_;rintro e s ⟨rfl,b⟩;have hSn:=And.intro (a.1.2.2.2.2.step b).v (a.2.below b);clear a b;try go_simp
    refine Cw f (fun a=>?_) (by first|exact⟨d.out.v,HV.out⟩|exact hSn|exact⟨(d.out.step (Below.refl _ _).drew).v,HV.out.below (Below.refl _ _).drew⟩);clear f K;refine tkQ 15 ?_;refine tkQ 16 ?_;refine tkQ 17 ?_;refine Ez 18 (some 33) rfl ?_
    try simp only[Act.put,pS]
    refine Ez 19 (some 34) rfl ?_
    try simp only[Act.put,pS]
    refine Ez 20 (some 35) rfl ?_
    try simp only[Act.put,pS]
    refine tkQ 21 ?_;refine wpAnyH_done Kr ?_ _;go_wp2_with fail;go_ret2;exact⟨by rw[r.out];rfl,a.1.2.2.2.2.below⟩
   ·subst M
    have P:(By.toList==By.toList)=true:=beq_self_eq_true _
    by_cases E:slot=0
    rotate_left
    ·have r:=Hq (j.out (fun h=>E h.2.2))
     have U:(slot==0)=false:=(by simp[E]);have V:(slot != 0)=true:=(by simp[E]);clear E j l;go_enter Tryz.func172,Tryz.ntmps172
     go_upto_region 2 with((go_at_call 203;refine(t.out _).mono ?_;rintro e H ⟨rfl,c⟩))
     have d:=Hq (g.out.step c);have HV:=Hq (i.out.below (Ag (Ac _ _) c));clear g i c;refine G7 (S:=(fun u=>Fo w.heap.size ⟨kind,slot,By,tn⟩ w u∧Gl u)) (fun a=>?_) (by first|exact⟨d.out.v,HV.out⟩|exact hSn|exact⟨(d.out.step (Below.refl _ _).drew).v,HV.out.below (Below.refl _ _).drew⟩);refine tkQ 0 ?_;refine tkQ 1 ?_;refine tkQ 2 ?_;refine tkQ 3 ?_;refine tkQ 5 ?_;refine tkQ 6 ?_;refine Dg 4 fun K f=>?_
     go_simp
     refine(C.out _ a.2).mono ?_;rintro e s ⟨rfl,b⟩;have hSn:=And.intro (a.1.2.2.2.2.step b).v (a.2.below b);clear a b;try go_simp
     refine Cw f (fun a=>?_) (by first|exact⟨d.out.v,HV.out⟩|exact hSn|exact⟨(d.out.step (Below.refl _ _).drew).v,HV.out.below (Below.refl _ _).drew⟩);clear f K;refine tkQ 7 ?_;refine tkQ 8 ?_;refine tkQ 9 ?_;refine tkQ 10 ?_;refine tkQ 11 ?_;refine tkQ 12 ?_;refine Dg 13 fun K f=>?_
     go_simp
     refine(J.out _).mono ?_;rintro e s ⟨rfl,b⟩;have hSn:=And.intro (a.1.2.2.2.2.step b).v (a.2.below b);clear a b;try go_simp
     refine Cw f (fun a=>?_) (by first|exact⟨d.out.v,HV.out⟩|exact hSn|exact⟨(d.out.step (Below.refl _ _).drew).v,HV.out.below (Below.refl _ _).drew⟩);clear f K;refine Dg 14 fun K f=>?_
     go_simp
     refine(D.out _ a.2).mono ?_;rintro e s ⟨rfl,b⟩;have hSn:=And.intro (a.1.2.2.2.2.step b).v (a.2.below b);clear a b;try go_simp
     refine Cw f (fun a=>?_) (by first|exact⟨d.out.v,HV.out⟩|exact hSn|exact⟨(d.out.step (Below.refl _ _).drew).v,HV.out.below (Below.refl _ _).drew⟩);clear f K;refine tkQ 15 ?_;refine tkQ 16 ?_;refine tkQ 17 ?_;refine tkQ 18 ?_;refine tkQ 19 ?_;refine tkQ 20 ?_;refine tkQ 21 ?_;refine wpAnyH_done Kr ?_ _;go_wp2_with fail;go_ret2;exact⟨by rw[r.out];rfl,a.1.2.2.2.2.below⟩
    ·subst E
     have r:=Hq (l.out ⟨rfl,rfl,rfl⟩);clear j l;go_enter Tryz.func172,Tryz.ntmps172
     go_upto_region 2 with((go_at_call 203;refine(t.out _).mono ?_;rintro e H ⟨rfl,c⟩))
     have d:=Hq (g.out.step c);have HV:=Hq (i.out.below (Ag (Ac _ _) c));clear g i c;refine G7 (S:=(fun u=>Fo w.heap.size ⟨kind,0,By,tn⟩ w u∧Gl u)) (fun a=>?_) (by first|exact⟨d.out.v,HV.out⟩|exact hSn|exact⟨(d.out.step (Below.refl _ _).drew).v,HV.out.below (Below.refl _ _).drew⟩);refine tkQ 0 ?_;refine tkQ 1 ?_;refine tkQ 2 ?_;refine tkQ 3 ?_;refine tkQ 5 ?_;refine tkQ 6 ?_;refine Dg 4 fun K f=>?_
     go_simp
     refine(C.out _ a.2).mono ?_;rintro e s ⟨rfl,b⟩;have hSn:=And.intro (a.1.2.2.2.2.step b).v (a.2.below b);clear a b;try go_simp
     refine Cw f (fun a=>?_) (by first|exact⟨d.out.v,HV.out⟩|exact hSn|exact⟨(d.out.step (Below.refl _ _).drew).v,HV.out.below (Below.refl _ _).drew⟩);clear f K;refine tkQ 7 ?_;refine tkQ 8 ?_;refine tkQ 9 ?_;refine tkQ 10 ?_;refine tkQ 11 ?_;refine tkQ 12 ?_;refine Dg 13 fun K f=>?_
     go_simp
     refine(J.out _).mono ?_;rintro e s ⟨rfl,b⟩;have hSn:=And.intro (a.1.2.2.2.2.step b).v (a.2.below b);clear a b;try go_simp
     refine Cw f (fun a=>?_) (by first|exact⟨d.out.v,HV.out⟩|exact hSn|exact⟨(d.out.step (Below.refl _ _).drew).v,HV.out.below (Below.refl _ _).drew⟩);clear f K;refine Dg 14 fun K f=>?_
     go_simp
     refine(D.out _ a.2).mono ?_;rintro e s ⟨rfl,b⟩;have hSn:=And.intro (a.1.2.2.2.2.step b).v (a.2.below b);clear a b;try go_simp
     refine Cw f (fun a=>?_) (by first|exact⟨d.out.v,HV.out⟩|exact hSn|exact⟨(d.out.step (Below.refl _ _).drew).v,HV.out.below (Below.refl _ _).drew⟩);clear f K;refine tkQ 15 ?_;refine tkQ 16 ?_;refine tkQ 17 ?_;refine tkQ 18 ?_;refine tkQ 19 ?_;refine tkQ 20 ?_;refine tkQ 21 ?_;refine wpAnyH_done Kr ?_ _
     by_cases A:q.size=0
     ·obtain⟨y1,y2,y3⟩:=K4 A
      have Q:=Hq (decide_eq_true A);clear A
      go_wp2_with((go_at_call 204;refine(O.out _).mono ?_;rintro e w4 ⟨rfl,z⟩))
      go_ret2;exact⟨by rw[r.out,Q.out];simp,Ag a.1.2.2.2.2.below z⟩
     ·obtain⟨y1,y2,y3⟩:=I9 A
      have Q:=Hq (decide_eq_false A);clear A
      go_wp2_with((go_at_call 204;refine(O.out _).mono ?_;rintro e w4 ⟨rfl,z⟩))
      go_ret2;exact⟨by rw[r.out,Q.out];simp,Ag a.1.2.2.2.2.below z⟩
theorem vQ (p:ByteArray)(o:Im)(hk:o.kind=1)(n:p.size≤140737488355328)(C:o.new.size≤140737488355328)(w:World)(q:Gl w):
 Cr 126 #[p,Gb o] w (.tuple #[.string (Cb p o).1,.bool (Cb p o).2]):=by
 have j:=Hq (Eo w o 42);have HV:=Hq q;have f:=Hq (fun W=>Fw p o.slot n W);obtain⟨R,k⟩:=ex (Cb p o);rw[← k];have c:=Hq (k.trans (show Cb p o=if o.By.size=0 then okB (Iw p o.slot o.new)else Df by unfold Cb;rw[hk];rfl));have h:=Hq (fun W=>nT p o.slot o.new n W);generalize Iw p o.slot o.new=x at h c;obtain⟨D,ex⟩:=x;unfold Kn at h;have b:=Hq (show Eu p o=(!decide ((Pg.Ba (Ab p).Ai o.slot).size=0)&&decide (o.By=Pg.Ba (Ab p).Ai o.slot))from rfl);generalize Eu p o=oi at b c;generalize (!decide ((Pg.Ba (Ab p).Ai o.slot).size=0))=t at b f;generalize Pg.Ba (Ab p).Ai o.slot=r at b f;obtain⟨kind,slot,By,new⟩:=o;dsimp only[Gb]at j f b c hk h ⊢;subst hk;clear k q;go_enter Tryz.func126,Tryz.ntmps126
 go_upto_region 2 with(go_at_call 62;refine(f.out _).mono ?_;rintro e u ⟨rfl,g⟩)
 have H1:=Hq (j.out.step g);clear j g;obtain⟨c0,y,c2,c3,-⟩:=H1.out.v;dsimp only at c0 y c2 c3
 go_cut [8] (fun s z=>s= .bool oi∧u=z)
 case first=>
  cases t with
  |false=>
   have a:=Hq (b.out.trans (Bool.false_and _));go_wp2_with fail;go_meet
   case rel=>exact⟨by rw[a.out],rfl⟩
  |true=>
   by_cases i:By=r
   ·subst i
    have A:(By.toList==By.toList)=true:=beq_self_eq_true _;have a:=Hq (b.out.trans (show _=true by simp));go_wp2_with fail;go_meet
    case rel=>exact⟨by rw[a.out],rfl⟩
   ·have A:=Gh i
    have a:=Hq (b.out.trans (show _=false by simp[i]));clear i;go_wp2_with fail;go_meet
    case rel=>exact⟨by rw[a.out],rfl⟩
 case rest=>
  obtain⟨rfl,rfl⟩:=hcut;clear b f
  by_cases d:By.size=0
  ·have l:=Hq (c.out.trans (if_pos d))
   obtain⟨B,z2,z3⟩:=K4 d;clear d c
   go_wp2_with((go_at_call 168;refine(h.out _).mono ?_;rintro e E ⟨rfl,m⟩))
   go_ret2;exact⟨by rw[l.out];rfl,Ag H1.out.below m⟩
  ·have l:=Hq (c.out.trans (if_neg d))
   obtain⟨B,z2,z3⟩:=I9 d;clear d c;go_wp2_with fail;go_ret2;exact⟨by rw[l.out];rfl,H1.out.below⟩
theorem vR (p:ByteArray)(o:Im)(hk:o.kind=2)(n:p.size≤140737488355328)(D:o.new.size≤140737488355328)(w:World)(q:Gl w):
 Cr 126 #[p,Gb o] w (.tuple #[.string (Cb p o).1,.bool (Cb p o).2]):=by
 have k:=Hq (Eo w o 42);have HV:=Hq q;have f:=Hq (fun W=>Fw p o.slot n W);obtain⟨R,l⟩:=ex (Cb p o);rw[← l];have b:=Hq (l.trans (show Cb p o=if Eu p o&&decide (o.new.size=0)then okB (Mg p o.slot)else Df by unfold Cb;rw[hk];rfl));have i:=Hq (fun W=>nU p o.slot n W);generalize Mg p o.slot=x at i b;obtain⟨E,ex⟩:=x;unfold Kn at i;have c:=Hq (show Eu p o=(!decide ((Pg.Ba (Ab p).Ai o.slot).size=0)&&decide (o.By=Pg.Ba (Ab p).Ai o.slot))from rfl);generalize Eu p o=t at c b;generalize (!decide ((Pg.Ba (Ab p).Ai o.slot).size=0))=u at c f;generalize Pg.Ba (Ab p).Ai o.slot=r at c f;obtain⟨kind,slot,By,new⟩:=o;dsimp only[Gb]at k f c b hk i ⊢;subst hk;clear l q;go_enter Tryz.func126,Tryz.ntmps126
 go_upto_region 2 with(go_at_call 62;refine(f.out _).mono ?_;rintro e y ⟨rfl,g⟩)
 have H1:=Hq (k.out.step g);clear k g;obtain⟨c0,z,c2,c3,-⟩:=H1.out.v;dsimp only at c0 z c2 c3
 go_cut [8] (fun s A=>s= .bool t∧y=A)
 case first=>
  cases u with
  |false=>
   have a:=Hq (c.out.trans (Bool.false_and _));go_wp2_with fail;go_meet
   case rel=>exact⟨by rw[a.out],rfl⟩
  |true=>
   by_cases j:By=r
   ·subst j
    have B:(By.toList==By.toList)=true:=beq_self_eq_true _;have a:=Hq (c.out.trans (show _=true by simp));go_wp2_with fail;go_meet
    case rel=>exact⟨by rw[a.out],rfl⟩
   ·have B:=Gh j
    have a:=Hq (c.out.trans (show _=false by simp[j]));clear j;go_wp2_with fail;go_meet
    case rel=>exact⟨by rw[a.out],rfl⟩
 case rest=>
  obtain⟨rfl,rfl⟩:=hcut;clear c f
  cases t with
  |true=>
   by_cases d:new.size=0
   ·have h:=Hq (b.out.trans (if_pos (by simp[d])))
    obtain⟨C,z2,z3⟩:=K4 d;clear d b
    go_wp2_with((go_at_call 169;refine(i.out _).mono ?_;rintro e F ⟨rfl,m⟩))
    go_ret2;exact⟨by rw[h.out];rfl,Ag H1.out.below m⟩
   ·have h:=Hq (b.out.trans (if_neg (by simp[d])))
    obtain⟨C,z2,z3⟩:=I9 d;clear d b;go_wp2_with fail;go_ret2;exact⟨by rw[h.out];rfl,H1.out.below⟩
  |false=>
   have h:=Hq (b.out.trans (if_neg (by simp)));clear b;go_wp2_with fail;go_ret2;exact⟨by rw[h.out];rfl,H1.out.below⟩
theorem vS (p:ByteArray)(o:Im)(hk:o.kind=6)(l:p.size≤140737488355328)(n:o.new.size≤140737488355328)(w:World)(m:Gl w):
 Cr 126 #[p,Gb o] w (.tuple #[.string (Cb p o).1,.bool (Cb p o).2]):=by
 have h:=Hq (Eo w o 42);have HV:=Hq m;have c:=Hq (fun W=>Fw p o.slot l W);obtain⟨R,i⟩:=ex (Cb p o);rw[← i];have f:=Hq (i.trans (show Cb p o=Ds p o by unfold Cb;rw[hk];rfl));have j:=Hq (fun W q=>eD p o l n W q);generalize Ds p o=x at j f;obtain⟨B,C⟩:=x;have b:=Hq (show Eu p o=(!decide ((Pg.Ba (Ab p).Ai o.slot).size=0)&&decide (o.By=Pg.Ba (Ab p).Ai o.slot))from rfl);generalize Eu p o=oi at b f;generalize (!decide ((Pg.Ba (Ab p).Ai o.slot).size=0))=t at b c;generalize Pg.Ba (Ab p).Ai o.slot=r at b c;obtain⟨kind,slot,By,new⟩:=o;dsimp only[Gb]at h c b f hk j ⊢;subst hk;clear i m;go_enter Tryz.func126,Tryz.ntmps126
 go_upto_region 2 with(go_at_call 62;refine(c.out _).mono ?_;rintro e u ⟨rfl,d⟩)
 have H1:=Hq (h.out.step d);clear h d;obtain⟨c0,y,c2,c3,-⟩:=H1.out.v;dsimp only at c0 y c2 c3
 go_cut [8] (fun s z=>s= .bool oi∧u=z)
 case first=>
  cases t with
  |false=>
   have a:=Hq (b.out.trans (Bool.false_and _));go_wp2_with fail;go_meet
   case rel=>exact⟨by rw[a.out],rfl⟩
  |true=>
   by_cases g:By=r
   ·subst g
    have A:(By.toList==By.toList)=true:=beq_self_eq_true _;have a:=Hq (b.out.trans (show _=true by simp));go_wp2_with fail;go_meet
    case rel=>exact⟨by rw[a.out],rfl⟩
   ·have A:=Gh g
    have a:=Hq (b.out.trans (show _=false by simp[g]));clear g;go_wp2_with fail;go_meet
    case rel=>exact⟨by rw[a.out],rfl⟩
 case rest=>
  obtain⟨rfl,rfl⟩:=hcut;clear b c
  go_wp2_with((go_at_call 172;refine(j.out _ (HV.out.below H1.out.below)).mono ?_;rintro e D ⟨rfl,k⟩))
  go_ret2;exact⟨by rw[f.out];rfl,Ag H1.out.below k⟩
theorem Tw {p:ByteArray}{o:Im}(h:Dm p o=true):S1 p o=((Cb p o).1,0):=by unfold S1;rw[if_pos h]
theorem qC {p:ByteArray}{o:Im}(h:Dm p o=false):S1 p o=(⟨#[]⟩,1):=by unfold S1;rw[if_neg (by rw[h];simp)]
def Lw (p:ByteArray)(o:Im):ByteArray:=Pg.Ba (Ab p).Ai o.slot
def G6 (p:ByteArray)(o:Im):ByteArray×Bool:=
 if o.kind=1 then((Iw p o.slot o.new).1,decide ((Iw p o.slot o.new).2=0)&&decide (o.By.size=0))
 else if o.kind=2 then((Mg p o.slot).1,((decide ((Mg p o.slot).2=0)&&decide (o.new.size=0))&& !decide ((Lw p o).size=0))&&decide (Lw p o=o.By))
 else if o.kind=3 then((Ie p o.slot o.new).1,(decide ((Ie p o.slot o.new).2=0)&& !decide ((Lw p o).size=0))&&decide (Lw p o=o.By))
 else if o.kind=4 then((Og p o.slot o.new).1,decide ((Og p o.slot o.new).2=0)&&decide (o.By.size=0))
 else if o.kind=5 then((Py p o.slot).1,((decide ((Py p o.slot).2=0)&&decide (o.new.size=0))&& !decide ((Lw p o).size=0))&&decide (Lw p o=o.By))
 else if o.kind=6 then(Dy p (NumPlain.Fc o.new.data.toList).1,(((NumPlain.Fc o.new.data.toList).2&& !decide ((Dy p (NumPlain.Fc o.new.data.toList).1).size=0))&&decide (o.slot=0))&&decide (o.By=F1 ((Ab p).link:Nat)))
 else if o.kind=7 then(Bl o.new ((Ab p).lsn:Nat),((!decide ((Bl o.new ((Ab p).lsn:Nat)).size=0)&&decide (o.slot=0))&&decide (o.new=Bl o.new 0))&&decide (o.By=Bl p 0))
 else Df
theorem P5 (p:ByteArray)(o:Im):Eu p o=(!decide ((Lw p o).size=0)&&decide (Lw p o=o.By)):=by
 unfold Eu Lw;rw[show decide (o.By=Pg.Ba (Ab p).Ai o.slot)=decide (Pg.Ba (Ab p).Ai o.slot=o.By)from by simp only[eq_comm]]
theorem aN {n:Int}{s:ByteArray}:F1 n=s↔Lib.itoa n=s.data.toList:=by
 unfold F1
 constructor
 ·intro h;rw[← h]
 ·intro h;rw[h]
theorem lO (p:ByteArray)(o:Im):((((NumPlain.Fc o.new.data.toList).2&& !decide ((Dy p (NumPlain.Fc o.new.data.toList).1).size=0))&&decide (o.slot=0))&&decide (o.By=F1 ((Ab p).link:Nat)))=(Ds p o).2∧((Ds p o).2=true→Dy p (NumPlain.Fc o.new.data.toList).1=(Ds p o).1):=by
 cases a:(Ds p o).2 with
 |true=>
  unfold Ds at a ⊢
  split at a
  ·rename_i n l
   split at a
   ·rename_i i
    obtain⟨e,c2,c3⟩:=i;have f:¬ (Dy p n).size=0:=(by simpa using a);obtain⟨_,m,q⟩:=O5 f;have b:NumPlain.jS n=true:=NumPlain.pA (by omega) (by omega);have j:NumPlain.Fc o.new.data.toList=(n,true):=(by rw[← aN.1 e];exact NumPlain.Zx b);rw[j];simp only[e,c2,c3,and_self,if_true]
    simp[f]
   ·cases a
  ·cases a
 |false=>
  refine⟨?_,fun h=>by cases h⟩
  cases g:((((NumPlain.Fc o.new.data.toList).2&& !decide ((Dy p (NumPlain.Fc o.new.data.toList).1).size=0))&&decide (o.slot=0))&&decide (o.By=F1 ((Ab p).link:Nat)))with
  |false=>rfl
  |true=>
   simp only[Bool.and_eq_true,decide_eq_true_eq,Bool.not_eq_true',decide_eq_false_iff_not]at g;obtain⟨⟨⟨d1,d2⟩,d3⟩,d4⟩:=g;obtain⟨b,c⟩:=NumPlain.dF d1;have d:=NumPlain.Lj b;rw[c]at d;have k:Ds p o=(Dy p (NumPlain.Fc o.new.data.toList).1,!decide ((Dy p (NumPlain.Fc o.new.data.toList).1).size=0)):=by
    unfold Ds;rw[d];exact if_pos ⟨aN.2 c,d4,d3⟩
   rw[k]at a
   simp[d2]at a
theorem eE (p:ByteArray)(o:Im):(((!decide ((Bl o.new ((Ab p).lsn:Nat)).size=0)&&decide (o.slot=0))&&decide (o.new=Bl o.new 0))&&decide (o.By=Bl p 0))=(Gk p o).2∧((Gk p o).2=true→Bl o.new ((Ab p).lsn:Nat)=(Gk p o).1):=by
 unfold Gk
 by_cases h:o.slot=0∧o.By=Bl p 0∧¬ o.new.size=0∧Bl o.new 0=o.new
 ·rw[if_pos h]
  obtain⟨c,d,k,e⟩:=h;refine⟨?_,fun _=>rfl⟩;have f:decide (o.new=Bl o.new 0)=true:=decide_eq_true e.symm;rw[f,decide_eq_true c,decide_eq_true d]
  simp
 ·rw[if_neg h]
  refine⟨?_,fun h=>by cases h⟩
  show _=false
  cases b:(((!decide ((Bl o.new ((Ab p).lsn:Nat)).size=0)&&decide (o.slot=0))&&decide (o.new=Bl o.new 0))&&decide (o.By=Bl p 0))with
  |false=>rfl
  |true=>
   simp only[Bool.and_eq_true,decide_eq_true_eq,Bool.not_eq_true',decide_eq_false_iff_not]at b;obtain⟨⟨⟨d1,d2⟩,d3⟩,d4⟩:=b;obtain⟨g,_,_⟩:=fW d1;have i:=(Ii g (l:=0) (by omega)).2.2;refine absurd ⟨d2,d4,?_,d3.symm⟩ h;intro j;have a:(Bl o.new 0).size=512:=i;rw[← d3,j]at a;omega
theorem Vr (p:ByteArray)(o:Im):(G6 p o).2=(Cb p o).2∧((Cb p o).2=true→(G6 p o).1=(Cb p o).1):=by
 unfold G6 Cb
 by_cases c:o.kind=1
 ·rw[if_pos c,if_pos c]
  by_cases h:o.By.size=0
  ·rw[if_pos h];simp[okB,h]
  ·rw[if_neg h];simp[Df,h]
 rw[if_neg c,if_neg c]
 by_cases d:o.kind=2
 ·rw[if_pos d,if_pos d,P5]
  by_cases a:(Lw p o).size=0<;>by_cases b:Lw p o=o.By<;>by_cases k:o.new.size=0<;>simp[okB,Df,a,b,k]<;>simp_all
 rw[if_neg d,if_neg d]
 by_cases e:o.kind=3
 ·rw[if_pos e,if_pos e,P5]
  by_cases a:(Lw p o).size=0<;>by_cases b:Lw p o=o.By<;>simp[okB,Df,a,b]<;>simp_all
 rw[if_neg e,if_neg e]
 by_cases f:o.kind=4
 ·rw[if_pos f,if_pos f]
  by_cases h:o.By.size=0
  ·rw[if_pos h];simp[okB,h]
  ·rw[if_neg h];simp[Df,h]
 rw[if_neg f,if_neg f]
 by_cases g:o.kind=5
 ·rw[if_pos g,if_pos g,P5]
  by_cases a:(Lw p o).size=0<;>by_cases b:Lw p o=o.By<;>by_cases k:o.new.size=0<;>simp[okB,Df,a,b,k]<;>simp_all
 rw[if_neg g,if_neg g]
 by_cases i:o.kind=6
 ·rw[if_pos i,if_pos i];exact lO p o
 rw[if_neg i,if_neg i]
 by_cases j:o.kind=7
 ·rw[if_pos j,if_pos j];exact eE p o
 rw[if_neg j,if_neg j];exact⟨rfl,fun h=>by cases h⟩
theorem eF (p:ByteArray)(o:Im):((G6 p o).2&&Bk p)=Dm p o:=by
 unfold Dm;rw[(Vr p o).1,Bool.and_comm]
theorem tI {p:ByteArray}{o:Im}(h:Dm p o=true):(G6 p o).1=(Cb p o).1:=by
 unfold Dm at h;rw[Bool.and_eq_true]at h;exact(Vr p o).2 h.2
open NumPlain
theorem Ty (p:ByteArray)(b:p.size≤140737488355328)(w:World):
 Cr 100 #[p] w (.string (Bl p 0)):=by
 have c:=Hq (fun W=>Jy p 0 b W);go_enter Tryz.func100,Tryz.ntmps100
 go_wp2_with((go_at_call 12;refine(c.out _).mono ?_;rintro e d ⟨rfl,a⟩))
 go_ret;exact⟨rfl,a⟩
theorem tJ (p:ByteArray)(o:Im)(hk:o.kind=3)(n:p.size≤140737488355328)(z:o.new.size≤140737488355328)(w:World):
 Cr 42 #[p,Gb o] w (.tuple #[.string (G6 p o).1,.bool (G6 p o).2]):=by
 have i:=Hq (Eo w o 42);have f:=Hq (fun W=>Iv p o.slot n W);obtain⟨R,m⟩:=ex (G6 p o);rw[← m];have a:=Hq (m.trans (show G6 p o=((Ie p o.slot o.new).1,(decide ((Ie p o.slot o.new).2=0)&& !decide ((Lw p o).size=0))&&decide (Lw p o=o.By)) by unfold G6;rw[hk];rfl));have d:=Hq (fun W=>jP p o.slot o.new n W);generalize Ie p o.slot o.new=x at d a;obtain⟨j,ex⟩:=x;unfold Kn at d;dsimp only at d a;unfold Lw at a;generalize (!decide ((Pg.Ba (Ab p).Ai o.slot).size=0))=s at f a;generalize Pg.Ba (Ab p).Ai o.slot=r at f a;obtain⟨kind,slot,By,new⟩:=o;dsimp only[Gb]at i f a hk d ⊢;subst hk;clear m;go_enter Tryz.func42,Tryz.ntmps42
 go_upto_region 13 with(first|(go_at_call 89;refine(f.out _).mono ?_;rintro e A ⟨rfl,b⟩;obtain⟨a0,q,a2,a3,-⟩:=(i.out.step b).v;dsimp only at a0 q a2 a3)|(go_at_call 92;refine(d.out _).mono ?_;rintro e B ⟨rfl,g⟩))
 have h:=Hq ((i.out.step b).step g);clear i b g a0 q a2 a3 d f;obtain⟨c0,t,c2,c3,-⟩:=h.out.v;dsimp only at c0 t c2 c3
 by_cases k:ex=0
 ·subst k
  cases s with
  |true=>
   by_cases l:r=By
   ·subst l
    have u:(r.toList==r.toList)=true:=beq_self_eq_true _;have c:=Hq (a.out.trans (show _=(j,true) by simp[]));clear a
    go_quiet (fail)
    go_wp2_with fail;go_ret2;exact⟨by rw[c.out];rfl,Ag h.out.below (Ej _ _)⟩
   ·have u:=Gh l
    have c:=Hq (a.out.trans (show _=(j,false) by simp[l]));clear a l
    go_quiet (fail)
    go_wp2_with fail;go_ret2;exact⟨by rw[c.out];rfl,Ag h.out.below (Ej _ _)⟩
  |false=>
   have c:=Hq (a.out.trans (show _=(j,false) by simp[]));clear a
   go_quiet (fail)
   go_wp2_with fail;go_ret2;exact⟨by rw[c.out];rfl,Ag h.out.below (Ej _ _)⟩
 ·have y:(ex==0)=false:=by simpa using k
  have c:=Hq (a.out.trans (show _=(j,false) by simp[k]));clear a k
  go_quiet (fail)
  go_wp2_with fail;go_ret2;exact⟨by rw[c.out];rfl,Ag h.out.below (Ej _ _)⟩
theorem tK (p:ByteArray)(o:Im)(hk:o.kind=7)(t:p.size≤140737488355328)(D:o.new.size≤140737488355328)(w:World):
 Cr 42 #[p,Gb o] w (.tuple #[.string (G6 p o).1,.bool (G6 p o).2]):=by
 have n:=Hq (Eo w o 42);have x:=Hq (fun W=>Iv p o.slot t W);obtain⟨R,y⟩:=ex (G6 p o);rw[← y];have f:=Hq (y.trans (show G6 p o=(Bl o.new ((Ab p).lsn:Nat),((!decide ((Bl o.new ((Ab p).lsn:Nat)).size=0)&&decide (o.slot=0))&&decide (o.new=Bl o.new 0))&&decide (o.By=Bl p 0)) by unfold G6;rw[hk];rfl));have z:=Hq (fun W=>Yp p t W);have l:=Hq (fun W=>Jy o.new ((Ab p).lsn:Nat) D W);have m:=Hq (fun W=>Ty o.new D W);have A:=Hq (fun W=>Ty p t W);generalize Bl o.new ((Ab p).lsn:Nat)=q at l f;generalize ((Ab p).lsn:Nat)=ln at z l;generalize Bl o.new 0=nb at m f;generalize Bl p 0=pb at A f;obtain⟨kind,slot,By,new⟩:=o;dsimp only[Gb]at n x f hk l m ⊢;subst hk;clear y;go_enter Tryz.func42,Tryz.ntmps42
 go_upto_region 25 with(go_at_call 89;refine(x.out _).mono ?_;rintro e L ⟨rfl,j⟩;obtain⟨a0,E,a2,a3,-⟩:=(n.out.step j).v;dsimp only at a0 E a2 a3)
 have c:=Hq (n.out.step j);clear n j a0 E a2 a3 x;refine G7 (S:=(fun u=>Fo w.heap.size ⟨7,slot,By,new⟩ w u)) (fun a=>?_) (by first|exact hSn|exact c.out.v|exact(c.out.step (Below.refl _ _).drew).v);refine tkQ 0 ?_;refine tkQ 1 ?_;refine tkQ 2 ?_;refine Dg 3 fun K d=>?_
 go_simp
 refine(z.out _).mono ?_;rintro e k ⟨rfl,b⟩;have hSn:=(a.2.2.2.2.step b).v;clear a b;try go_simp
 refine Cw d (fun a=>?_) (by first|exact hSn|exact c.out.v|exact(c.out.step (Below.refl _ _).drew).v);clear d K;refine Dg 4 fun K d=>?_
 go_simp
 refine(l.out _).mono ?_;rintro e k ⟨rfl,b⟩;have hSn:=(a.2.2.2.2.step b).v;clear a b;try go_simp
 refine Cw d (fun a=>?_) (by first|exact hSn|exact c.out.v|exact(c.out.step (Below.refl _ _).drew).v);clear d K;refine tkQ 5 ?_;refine wpAnyH_done Kr ?_ _;have F:=Hq a.2.2.2.2;clear a hSn c z l;have c:=F;clear F;go_upto_region 26 with fail
 by_cases g:q.size=0
 ·obtain⟨G,H,I⟩:=K4 g
  have i:=Hq (f.out.trans (show _=(q,false) by simp[g]));clear f g;refine G7 (S:=(fun u=>Fo w.heap.size ⟨7,slot,By,new⟩ w u)) (fun a=>?_) (by first|exact hSn|exact c.out.v|exact(c.out.step (Below.refl _ _).drew).v);refine tkQ 0 ?_;refine tkQ 1 ?_;refine tkQ 2 ?_;refine tkQ 3 ?_;refine Ez 4 (some 175) rfl ?_
  try simp only[Act.put,pS]
  refine Ez 5 (some 176) rfl ?_
  try simp only[Act.put,pS]
  refine Ez 6 (some 177) rfl ?_
  try simp only[Act.put,pS]
  refine tkQ 7 ?_;refine tkQ 8 ?_;refine Ez 9 (some 180) rfl ?_
  try simp only[Act.put,pS]
  refine Ez 10 (some 181) rfl ?_
  try simp only[Act.put,pS]
  refine Ez 11 (some 182) rfl ?_
  try simp only[Act.put,pS]
  refine Ez 12 (some 183) rfl ?_
  try simp only[Act.put,pS]
  refine Ez 13 (some 184) rfl ?_
  try simp only[Act.put,pS]
  refine Ez 14 (some 185) rfl ?_
  try simp only[Act.put,pS]
  refine tkQ 15 ?_;refine tkQ 16 ?_;refine Ez 17 (some 188) rfl ?_
  try simp only[Act.put,pS]
  refine Ez 18 (some 189) rfl ?_
  try simp only[Act.put,pS]
  refine Ez 19 (some 190) rfl ?_
  try simp only[Act.put,pS]
  refine Ez 20 (some 191) rfl ?_
  try simp only[Act.put,pS]
  refine Ez 21 (some 192) rfl ?_
  try simp only[Act.put,pS]
  refine tkQ 22 ?_;refine tkQ 23 ?_;refine tkQ 24 ?_;refine wpAnyH_done Kr ?_ _;go_wp2_with fail;go_ret2;exact⟨by rw[i.out];rfl,a.2.2.2.2.below⟩
 ·obtain⟨G,H,I⟩:=I9 g
  by_cases h:slot=0
  ·have B:(slot==0)=true:=by simp[h]
   by_cases r:new=nb
   ·subst r
    have J:(new.toList==new.toList)=true:=beq_self_eq_true _
    by_cases s:By=pb
    ·subst s
     have C:(By.toList==By.toList)=true:=beq_self_eq_true _;have i:=Hq (f.out.trans (show _=(q,true) by simp[g,h]));clear f g h;refine G7 (S:=(fun u=>Fo w.heap.size ⟨7,slot,By,new⟩ w u)) (fun a=>?_) (by first|exact hSn|exact c.out.v|exact(c.out.step (Below.refl _ _).drew).v);refine tkQ 0 ?_;refine tkQ 1 ?_;refine tkQ 2 ?_;refine tkQ 3 ?_;refine tkQ 4 ?_;refine tkQ 5 ?_;refine tkQ 6 ?_;refine tkQ 7 ?_;refine tkQ 8 ?_;refine tkQ 9 ?_;refine tkQ 10 ?_;refine tkQ 11 ?_;refine tkQ 12 ?_;refine Dg 13 fun K d=>?_
     go_simp
     refine(m.out _).mono ?_;rintro e k ⟨rfl,b⟩;have hSn:=(a.2.2.2.2.step b).v;clear a b;try go_simp
     refine Cw d (fun a=>?_) (by first|exact hSn|exact c.out.v|exact(c.out.step (Below.refl _ _).drew).v);clear d K;refine tkQ 14 ?_;refine tkQ 15 ?_;refine tkQ 16 ?_;refine tkQ 17 ?_;refine tkQ 18 ?_;refine tkQ 19 ?_;refine Dg 20 fun K d=>?_
     go_simp
     refine(A.out _).mono ?_;rintro e k ⟨rfl,b⟩;have hSn:=(a.2.2.2.2.step b).v;clear a b;try go_simp
     refine Cw d (fun a=>?_) (by first|exact hSn|exact c.out.v|exact(c.out.step (Below.refl _ _).drew).v);clear d K;refine tkQ 21 ?_;refine tkQ 22 ?_;refine tkQ 23 ?_;refine tkQ 24 ?_;refine wpAnyH_done Kr ?_ _;go_wp2_with fail;go_ret2;exact⟨by rw[i.out];rfl,a.2.2.2.2.below⟩
    ·have C:=Gh s
     have i:=Hq (f.out.trans (show _=(q,false) by simp[g,h,s]));clear f g h s;refine G7 (S:=(fun u=>Fo w.heap.size ⟨7,slot,By,new⟩ w u)) (fun a=>?_) (by first|exact hSn|exact c.out.v|exact(c.out.step (Below.refl _ _).drew).v);refine tkQ 0 ?_;refine tkQ 1 ?_;refine tkQ 2 ?_;refine tkQ 3 ?_;refine tkQ 4 ?_;refine tkQ 5 ?_;refine tkQ 6 ?_;refine tkQ 7 ?_;refine tkQ 8 ?_;refine tkQ 9 ?_;refine tkQ 10 ?_;refine tkQ 11 ?_;refine tkQ 12 ?_;refine Dg 13 fun K d=>?_
     go_simp
     refine(m.out _).mono ?_;rintro e k ⟨rfl,b⟩;have hSn:=(a.2.2.2.2.step b).v;clear a b;try go_simp
     refine Cw d (fun a=>?_) (by first|exact hSn|exact c.out.v|exact(c.out.step (Below.refl _ _).drew).v);clear d K;refine tkQ 14 ?_;refine tkQ 15 ?_;refine tkQ 16 ?_;refine tkQ 17 ?_;refine tkQ 18 ?_;refine tkQ 19 ?_;refine Dg 20 fun K d=>?_
     go_simp
     refine(A.out _).mono ?_;rintro e k ⟨rfl,b⟩;have hSn:=(a.2.2.2.2.step b).v;clear a b;try go_simp
     refine Cw d (fun a=>?_) (by first|exact hSn|exact c.out.v|exact(c.out.step (Below.refl _ _).drew).v);clear d K;refine tkQ 21 ?_;refine tkQ 22 ?_;refine tkQ 23 ?_;refine tkQ 24 ?_;refine wpAnyH_done Kr ?_ _;go_wp2_with fail;go_ret2;exact⟨by rw[i.out];rfl,a.2.2.2.2.below⟩
   ·have J:=Gh r
    have i:=Hq (f.out.trans (show _=(q,false) by simp[g,h,r]));clear f g h r;refine G7 (S:=(fun u=>Fo w.heap.size ⟨7,slot,By,new⟩ w u)) (fun a=>?_) (by first|exact hSn|exact c.out.v|exact(c.out.step (Below.refl _ _).drew).v);refine tkQ 0 ?_;refine tkQ 1 ?_;refine tkQ 2 ?_;refine tkQ 3 ?_;refine tkQ 4 ?_;refine tkQ 5 ?_;refine tkQ 6 ?_;refine tkQ 7 ?_;refine tkQ 8 ?_;refine tkQ 9 ?_;refine tkQ 10 ?_;refine tkQ 11 ?_;refine tkQ 12 ?_;refine Dg 13 fun K d=>?_
    go_simp
    refine(m.out _).mono ?_;rintro e k ⟨rfl,b⟩;have hSn:=(a.2.2.2.2.step b).v;clear a b;try go_simp
    refine Cw d (fun a=>?_) (by first|exact hSn|exact c.out.v|exact(c.out.step (Below.refl _ _).drew).v);clear d K;refine tkQ 14 ?_;refine tkQ 15 ?_;refine tkQ 16 ?_;refine Ez 17 (some 188) rfl ?_
    try simp only[Act.put,pS]
    refine Ez 18 (some 189) rfl ?_
    try simp only[Act.put,pS]
    refine Ez 19 (some 190) rfl ?_
    try simp only[Act.put,pS]
    refine Ez 20 (some 191) rfl ?_
    try simp only[Act.put,pS]
    refine Ez 21 (some 192) rfl ?_
    try simp only[Act.put,pS]
    refine tkQ 22 ?_;refine tkQ 23 ?_;refine tkQ 24 ?_;refine wpAnyH_done Kr ?_ _;go_wp2_with fail;go_ret2;exact⟨by rw[i.out];rfl,a.2.2.2.2.below⟩
  ·have B:(slot==0)=false:=by simpa using h
   have i:=Hq (f.out.trans (show _=(q,false) by simp[g,h]));clear f g h;refine G7 (S:=(fun u=>Fo w.heap.size ⟨7,slot,By,new⟩ w u)) (fun a=>?_) (by first|exact hSn|exact c.out.v|exact(c.out.step (Below.refl _ _).drew).v);refine tkQ 0 ?_;refine tkQ 1 ?_;refine tkQ 2 ?_;refine tkQ 3 ?_;refine tkQ 4 ?_;refine tkQ 5 ?_;refine tkQ 6 ?_;refine tkQ 7 ?_;refine tkQ 8 ?_;refine Ez 9 (some 180) rfl ?_
   try simp only[Act.put,pS]
   refine Ez 10 (some 181) rfl ?_
   try simp only[Act.put,pS]
   refine Ez 11 (some 182) rfl ?_
   try simp only[Act.put,pS]
   refine Ez 12 (some 183) rfl ?_
   try simp only[Act.put,pS]
   refine Ez 13 (some 184) rfl ?_
   try simp only[Act.put,pS]
   refine Ez 14 (some 185) rfl ?_
   try simp only[Act.put,pS]
   refine tkQ 15 ?_;refine tkQ 16 ?_;refine Ez 17 (some 188) rfl ?_
   try simp only[Act.put,pS]
   refine Ez 18 (some 189) rfl ?_
   try simp only[Act.put,pS]
   refine Ez 19 (some 190) rfl ?_
   try simp only[Act.put,pS]
   refine Ez 20 (some 191) rfl ?_
   try simp only[Act.put,pS]
   refine Ez 21 (some 192) rfl ?_
   try simp only[Act.put,pS]
   refine tkQ 22 ?_;refine tkQ 23 ?_;refine tkQ 24 ?_;refine wpAnyH_done Kr ?_ _;go_wp2_with fail;go_ret2;exact⟨by rw[i.out];rfl,a.2.2.2.2.below⟩
def ab:ByteArray:=⟨#[97,98]⟩
def o1:Im:=⟨1,0,⟨#[]⟩,ab⟩
theorem gN (p:ByteArray)(o:Im)(hk:o.kind=3)(m:p.size≤140737488355328)(A:o.new.size≤140737488355328)(w:World):
 Cr 126 #[p,Gb o] w (.tuple #[.string (Cb p o).1,.bool (Cb p o).2]):=by
 have i:=Hq (Eo w o 42);have d:=Hq (fun W=>Fw p o.slot m W);obtain⟨R,j⟩:=ex (Cb p o);rw[← j];have c:=Hq (j.trans (show Cb p o=if Eu p o then okB (Ie p o.slot o.new)else Df by unfold Cb;rw[hk];rfl));have g:=Hq (fun W=>nV p o.slot o.new m W);generalize Ie p o.slot o.new=x at g c;obtain⟨B,ex⟩:=x;unfold Kn at g;have b:=Hq (show Eu p o=(!decide ((Pg.Ba (Ab p).Ai o.slot).size=0)&&decide (o.By=Pg.Ba (Ab p).Ai o.slot))from rfl);generalize Eu p o=n at b c;generalize (!decide ((Pg.Ba (Ab p).Ai o.slot).size=0))=q at b d;generalize Pg.Ba (Ab p).Ai o.slot=r at b d;obtain⟨kind,slot,By,new⟩:=o;dsimp only[Gb]at i d b c hk g ⊢;subst hk;clear j;go_enter Tryz.func126,Tryz.ntmps126
 go_upto_region 2 with(go_at_call 62;refine(d.out _).mono ?_;rintro e t ⟨rfl,f⟩)
 have H1:=Hq (i.out.step f);clear i f;obtain⟨c0,u,c2,c3,-⟩:=H1.out.v;dsimp only at c0 u c2 c3
 go_cut [8] (fun s y=>s= .bool n∧t=y)
 case first=>
  cases q with
  |false=>
   have a:=Hq (b.out.trans (Bool.false_and _));go_wp2_with fail;go_meet
   case rel=>exact⟨by rw[a.out],rfl⟩
  |true=>
   by_cases h:By=r
   ·subst h
    have z:(By.toList==By.toList)=true:=beq_self_eq_true _;have a:=Hq (b.out.trans (show _=true by simp));go_wp2_with fail;go_meet
    case rel=>exact⟨by rw[a.out],rfl⟩
   ·have z:=Gh h
    have a:=Hq (b.out.trans (show _=false by simp[h]));clear h;go_wp2_with fail;go_meet
    case rel=>exact⟨by rw[a.out],rfl⟩
 case rest=>
  obtain⟨rfl,rfl⟩:=hcut;clear b d
  cases n with
  |true=>
   have k:=Hq (c.out.trans (if_pos rfl));clear c
   go_wp2_with((go_at_call 59;refine(g.out _).mono ?_;rintro e C ⟨rfl,l⟩))
   go_ret2;exact⟨by rw[k.out];rfl,Ag H1.out.below l⟩
  |false=>
   have k:=Hq (c.out.trans (if_neg (by simp)));clear c;go_wp2_with fail;go_ret2;exact⟨by rw[k.out];rfl,H1.out.below⟩
theorem tL (p:ByteArray)(o:Im)(hk:o.kind=7)(l:p.size≤140737488355328)(m:o.new.size≤140737488355328)(w:World):
 Cr 126 #[p,Gb o] w (.tuple #[.string (Cb p o).1,.bool (Cb p o).2]):=by
 have h:=Hq (Eo w o 42);have c:=Hq (fun W=>Fw p o.slot l W);obtain⟨R,i⟩:=ex (Cb p o);rw[← i];have f:=Hq (i.trans (show Cb p o=Gk p o by unfold Cb;rw[hk];rfl));have j:=Hq (fun W=>lN p o l m W);generalize Gk p o=x at j f;obtain⟨z,A⟩:=x;have b:=Hq (show Eu p o=(!decide ((Pg.Ba (Ab p).Ai o.slot).size=0)&&decide (o.By=Pg.Ba (Ab p).Ai o.slot))from rfl);generalize Eu p o=oi at b f;generalize (!decide ((Pg.Ba (Ab p).Ai o.slot).size=0))=n at b c;generalize Pg.Ba (Ab p).Ai o.slot=r at b c;obtain⟨kind,slot,By,new⟩:=o;dsimp only[Gb]at h c b f hk j ⊢;subst hk;clear i;go_enter Tryz.func126,Tryz.ntmps126
 go_upto_region 2 with(go_at_call 62;refine(c.out _).mono ?_;rintro e q ⟨rfl,d⟩)
 have H1:=Hq (h.out.step d);clear h d;obtain⟨c0,t,c2,c3,-⟩:=H1.out.v;dsimp only at c0 t c2 c3
 go_cut [8] (fun s u=>s= .bool oi∧q=u)
 case first=>
  cases n with
  |false=>
   have a:=Hq (b.out.trans (Bool.false_and _));go_wp2_with fail;go_meet
   case rel=>exact⟨by rw[a.out],rfl⟩
  |true=>
   by_cases g:By=r
   ·subst g
    have y:(By.toList==By.toList)=true:=beq_self_eq_true _;have a:=Hq (b.out.trans (show _=true by simp));go_wp2_with fail;go_meet
    case rel=>exact⟨by rw[a.out],rfl⟩
   ·have y:=Gh g
    have a:=Hq (b.out.trans (show _=false by simp[g]));clear g;go_wp2_with fail;go_meet
    case rel=>exact⟨by rw[a.out],rfl⟩
 case rest=>
  obtain⟨rfl,rfl⟩:=hcut;clear b c
  go_wp2_with((go_at_call 173;refine(j.out _).mono ?_;rintro e B ⟨rfl,k⟩))
  go_ret2;exact⟨by rw[f.out];rfl,Ag H1.out.below k⟩
theorem Vs (p:ByteArray)(o:Im)(hk:o.kind=3∨o.kind=7)(a:p.size≤140737488355328)(b:o.new.size≤140737488355328)(w:World):
 Cr 126 #[p,Gb o] w (.tuple #[.string (Cb p o).1,.bool (Cb p o).2]):=by
 rcases hk with hk|hk
 ·exact gN p o hk a b w
 ·exact tL p o hk a b w
theorem aO (p:ByteArray)(o:Im)(hk:o.kind=3∨o.kind=7)(g:p.size≤140737488355328)(h:o.new.size≤140737488355328)(w:World):
 Cr 125 #[p,Gb o] w (.bool (Dm p o)):=by
 have d:=Hq (fun W=>Vs p o hk g h W);have f:=Hq (fun W=>M0 p g W);unfold Dm;generalize Bk p=b at f ⊢;generalize Cb p o=x at d ⊢;obtain⟨k,l⟩:=x;obtain⟨kind,slot,By,new⟩:=o;dsimp only[Gb]at d ⊢;clear h
 cases b with
 |true=>
  go_enter Tryz.func125,Tryz.ntmps125
  go_wp2_with(first|(go_at_call 126;refine(d.out _).mono ?_;rintro e i ⟨rfl,a⟩)|(go_at_call 136;refine(f.out _).mono ?_;rintro e j ⟨rfl,c⟩))
  go_ret;exact⟨by simp,Ag (Ag (Ac _ _) a) c⟩
 |false=>
  go_enter Tryz.func125,Tryz.ntmps125
  go_wp2_with(first|(go_at_call 126;refine(d.out _).mono ?_;rintro e i ⟨rfl,a⟩)|(go_at_call 136;refine(f.out _).mono ?_;rintro e j ⟨rfl,c⟩))
  go_ret;exact⟨by simp,Ag (Ag (Ac _ _) a) c⟩
theorem gO (p:ByteArray)(o:Im)(hk:o.kind=3∨o.kind=7)(l:p.size≤140737488355328)(g:o.new.size≤140737488355328)(w:World):
 Cr 78 #[p,Gb o] w (Kn (S1 p o)):=by
 have i:=Hq (fun W=>Vs p o hk l g W);have f:=Hq (fun W=>aO p o hk l g W);have m:=Hq (Eo w o 42);have c:=Hq (fun h=>Tw (p:=p) (o:=o) h);have d:=Hq (fun h=>qC (p:=p) (o:=o) h);generalize S1 p o=R at c d ⊢;generalize Dm p o=b at f c d;generalize Cb p o=x at i c;obtain⟨r,s⟩:=x;obtain⟨kind,slot,By,new⟩:=o;dsimp only[Gb]at i f m ⊢;clear g
 cases b with
 |true=>
  have j:=Hq (c.out rfl);clear c d;go_enter Tryz.func78,Tryz.ntmps78
  go_wp2_with(first|(go_at_call 125;refine(f.out _).mono ?_;rintro e n ⟨rfl,a⟩;obtain⟨c0,q,c2,c3,-⟩:=(m.out.step a).v;dsimp only at c0 q c2 c3)|(go_at_call 126;refine(i.out _).mono ?_;rintro e t ⟨rfl,k⟩))
  go_ret2;exact⟨by rw[j.out];rfl,Ag (Ag (Ac _ _) a) k⟩
 |false=>
  have j:=Hq (d.out rfl);clear c d;go_enter Tryz.func78,Tryz.ntmps78
  go_wp2_with((go_at_call 125;refine(f.out _).mono ?_;rintro e n ⟨rfl,a⟩))
  go_ret2;exact⟨by rw[j.out];rfl,Ag (Ac _ _) a⟩
theorem Tz (p:ByteArray)(o:Im)(hk:o.kind=3∨o.kind=7)(a:p.size≤140737488355328)(b:o.new.size≤140737488355328)(w:World):
 Cr 42 #[p,Gb o] w (.tuple #[.string (G6 p o).1,.bool (G6 p o).2]):=by
 rcases hk with hk|hk
 ·exact tJ p o hk a b w
 ·exact tK p o hk a b w
theorem Xm (p:ByteArray)(o:Im)(hk:o.kind=3∨o.kind=7)(h:p.size≤140737488355328)(i:o.new.size≤140737488355328)(w:World):
 Cr 41 #[p,Gb o] w (.bool (Dm p o)):=by
 have d:=Hq (fun W=>Tz p o hk h i W);have j:=Hq (fun W=>Md p h W);have c:=Hq (eF p o);generalize Dm p o=R at c ⊢;generalize Bk p=b at j c;generalize G6 p o=x at d c;obtain⟨m,k⟩:=x;obtain⟨kind,slot,By,new⟩:=o;dsimp only[Gb]at d c ⊢;clear i
 cases k with
 |true=>
  have f:=Hq (c.out.symm.trans (Bool.true_and _));go_enter Tryz.func41,Tryz.ntmps41
  go_wp2_with(first|(go_at_call 42;refine(d.out _).mono ?_;rintro e l ⟨rfl,a⟩)|(go_at_call 88;refine(j.out _).mono ?_;rintro e n ⟨rfl,g⟩))
  go_ret;exact⟨by rw[f.out];rfl,Ag (Ag (Ac _ _) a) g⟩
 |false=>
  have f:=Hq (c.out.symm.trans (Bool.false_and _));go_enter Tryz.func41,Tryz.ntmps41
  go_wp2_with((go_at_call 42;refine(d.out _).mono ?_;rintro e l ⟨rfl,a⟩))
  go_ret;exact⟨by rw[f.out];rfl,Ag (Ac _ _) a⟩
theorem qD (p:ByteArray)(o:Im)(hk:o.kind=3∨o.kind=7)(l:p.size≤140737488355328)(g:o.new.size≤140737488355328)(w:World):
 Cr 11 #[p,Gb o] w (Kn (S1 p o)):=by
 have i:=Hq (fun W=>Tz p o hk l g W);have f:=Hq (fun W=>Xm p o hk l g W);have m:=Hq (Eo w o 42);have c:=Hq (fun h=>(Tw (p:=p) (o:=o) h).trans (by rw[← tI h]));have d:=Hq (fun h=>qC (p:=p) (o:=o) h);generalize S1 p o=R at c d ⊢;generalize Dm p o=b at f c d;generalize G6 p o=x at i c;obtain⟨r,s⟩:=x;obtain⟨kind,slot,By,new⟩:=o;dsimp only[Gb]at i f m ⊢;clear g
 cases b with
 |true=>
  have j:=Hq (c.out rfl);clear c d;go_enter Tryz.func11,Tryz.ntmps11
  go_wp2_with(first|(go_at_call 41;refine(f.out _).mono ?_;rintro e n ⟨rfl,a⟩;obtain⟨c0,q,c2,c3,-⟩:=(m.out.step a).v;dsimp only at c0 q c2 c3)|(go_at_call 42;refine(i.out _).mono ?_;rintro e t ⟨rfl,k⟩))
  go_ret2;exact⟨by rw[j.out];rfl,Ag (Ag (Ac _ _) a) k⟩
 |false=>
  have j:=Hq (d.out rfl);clear c d;go_enter Tryz.func11,Tryz.ntmps11
  go_wp2_with((go_at_call 41;refine(f.out _).mono ?_;rintro e n ⟨rfl,a⟩))
  go_ret2;exact⟨by rw[j.out];rfl,Ag (Ac _ _) a⟩
end Go.Proofs.YtmfkhdhnbkambaaGreatDoor
