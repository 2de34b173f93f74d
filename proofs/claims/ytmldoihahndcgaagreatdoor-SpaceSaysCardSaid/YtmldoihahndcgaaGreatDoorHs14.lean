import Derived.Test.YtmldoihahndcgaaGreatDoorHs00
import Derived.Test.YtmldoihahndcgaaGreatDoorHs06
import Derived.Test.YtmldoihahndcgaaGreatDoorHs01
import Derived.WalkSmall
import Derived.Deep.DeepCutAuto
import Derived.Deep.QuietTactic
import Derived.BigQuiet
set_option maxRecDepth 100000
set_option maxHeartbeats 16000000
set_option linter.unusedSimpArgs false
namespace Go.Proofs.YtmldoihahndcgaaGreatDoor
open Go.RowKit
theorem Us (p:ByteArray)(b:p.size≤140737488355328)(w:World):
 Cr 319 #[p] w (.string (Bg p 0)):=by
 have a:=Hq (fun W=>Ge p 0 b W);generalize Bg p 0=q at a ⊢;go_enter Tryz.func319,Tryz.ntmps319
 go_wp2_with(go_at_call 20;refine(a.out _).mono ?_;rintro e d ⟨rfl,c⟩)
 go_ret;exact⟨rfl,c⟩
abbrev Ke (o:J8):Value:=.agg #[o.kind,o.slot,o.Cs,o.new]
structure Su (X:Nat) (o:J8) (w0 u:World):Prop where
 c0:u.cell? ⟨X,0,none⟩=some (.int .i64 o.kind)
 c1:u.cell? ⟨X,1,none⟩=some (.int .i64 o.slot)
 c2:u.cell? ⟨X,2,none⟩=some (.string o.Cs)
 c3:u.cell? ⟨X,3,none⟩=some (.string o.new)
 lt:X<u.heap.size
 below:Bw w0 u
abbrev He (X:Nat)(o:J8)(w0 u:World):Prop:=
 u.cell? ⟨X,0,none⟩=some (.int .i64 o.kind)∧u.cell? ⟨X,1,none⟩=some (.int .i64 o.slot)∧u.cell? ⟨X,2,none⟩=some (.string o.Cs)∧u.cell? ⟨X,3,none⟩=some (.string o.new)∧Su X o w0 u
theorem Su.step {X:Nat}{o:J8}{b u v:World}(h:Su X o b u)(a:Bw u v):Su X o b v:=
 ⟨by rw[a.cell (p:=⟨X,0,none⟩) h.lt];exact h.c0,by rw[a.cell (p:=⟨X,1,none⟩) h.lt];exact h.c1,by rw[a.cell (p:=⟨X,2,none⟩) h.lt];exact h.c2,by rw[a.cell (p:=⟨X,3,none⟩) h.lt];exact h.c3,Nat.lt_of_lt_of_le h.lt a.size,Ad h.below a⟩
theorem Su.v {X:Nat}{o:J8}{a u:World}(h:Su X o a u):He X o a u:=⟨h.c0,h.c1,h.c2,h.c3,h⟩
theorem Hf (w:World)(o:J8)(T:TypeId):Su w.heap.size o w (w.alloc (.cells #[o.kind,o.slot,o.Cs,o.new] T)):=by
 have h:=heap_alloc_new w (.cells #[o.kind,o.slot,o.Cs,o.new] T);exact⟨by rw[Aa h];rfl,by rw[Aa h];rfl,by rw[Aa h];rfl,by rw[Aa h];rfl,by simp,Ab _ _⟩
theorem toList_nil (a:ByteArray):a.toList=[]↔a.size=0:=by
 rw[ByteArray.toList_eq];have h:a.data.toList.length=a.size:=by simp
 constructor
 ·intro e;rw[e]at h;exact h.symm
 ·intro e;exact List.eq_nil_of_length_eq_zero (by omega)
theorem K2 {a b:ByteArray}(h:a≠b):(a.toList==b.toList)=false:=by
 rw[ByteArray.toList_eq,ByteArray.toList_eq];exact beq_eq_false_iff_ne.2 (fun e=>h (ByteArray.ext (Array.toList_inj.1 e)))
theorem Sv {a:ByteArray}(h:a.size=0):a.toList=[]∧a.toList.isEmpty=true∧(a.toList==[])=true:=by
 have:=(toList_nil a).2 h;rw[this];simp
theorem Ph {a:ByteArray}(h:a.size≠0):¬ a.toList=[]∧a.toList.isEmpty=false∧(a.toList==[])=false:=by
 have b:¬ a.toList=[]:=fun e=>h ((toList_nil a).1 e);exact⟨b,by simpa using b,by simpa using b⟩
theorem jT (p:ByteArray)(o:J8)(E:p.size≤140737488355328)(F:o.new.size≤140737488355328)(w:World):
 Cr 282 #[p,Ke o] w (.tuple #[.string (Gf p o).1,.bool (Gf p o).2]):=by
 have r:=Hq (fun W=>Us p E W);have t:=Hq (fun W=>Us o.new F W);have G:=Hq (fun W=>eE p E W);have x:=Hq (fun W=>Ge o.new ((Af p).lsn:Nat) F W);have c:=Hq (Hf w o 83);obtain⟨R,A⟩:=ex (Gf p o);rw[← A];have B:=Hq A;clear A;have d:=Hq (fun h=>B.out.trans (if_neg h));have f:=Hq (fun h=>B.out.trans (if_pos h));clear B;obtain⟨kind,slot,Cs,new⟩:=o;dsimp only[Ke]at t x c d f ⊢;generalize Bg p 0=pp at r d f;generalize Bg new 0=np at t d f;generalize ((Af p).lsn:Nat)=l at G x f;generalize Bg new (l:Int)=q at x f
 by_cases s:slot=0
 rotate_left
 ·have j:=Hq (d.out (fun h=>s h.1))
  have H:(slot==0)=false:=by simp[s]
  have I:(slot != 0)=true:=by simp[s]
  clear s d f;go_enter Tryz.func282,Tryz.ntmps282
  go_upto_region 1 with(fail)
  generalize w.alloc (.cells #[kind,slot,Cs,new] 83)=V at c ⊢;refine Gd (S:=(fun u=>He w.heap.size ⟨kind,slot,Cs,new⟩ w u)) (fun a=>?_) (by first|exact c.out.v|exact hSn|exact(c.out.step (Below.refl _ _).drew).v|exact(c.out.step (E8 _ _)).v);refine tkQ 0 ?_;refine tkQ 1 ?_;refine tkQ 2 ?_;refine tkQ 3 ?_;refine Gp 4 (some 11) rfl ?_
  try simp only[Act.put,pS]
  refine Gp 5 (some 12) rfl ?_
  try simp only[Act.put,pS]
  refine Gp 6 (some 13) rfl ?_
  try simp only[Act.put,pS]
  refine Gp 7 (some 14) rfl ?_
  try simp only[Act.put,pS]
  refine Gp 8 (some 15) rfl ?_
  try simp only[Act.put,pS]
  refine tkQ 9 ?_;refine tkQ 10 ?_;refine Gp 11 (some 18) rfl ?_
  try simp only[Act.put,pS]
  refine Gp 12 (some 19) rfl ?_
  try simp only[Act.put,pS]
  refine Gp 13 (some 20) rfl ?_
  try simp only[Act.put,pS]
  refine tkQ 14 ?_;refine tkQ 15 ?_;refine Gp 16 (some 23) rfl ?_
  try simp only[Act.put,pS]
  refine Gp 17 (some 24) rfl ?_
  try simp only[Act.put,pS]
  refine Gp 18 (some 25) rfl ?_
  try simp only[Act.put,pS]
  refine Gp 19 (some 26) rfl ?_
  try simp only[Act.put,pS]
  refine Gp 20 (some 27) rfl ?_
  try simp only[Act.put,pS]
  refine Gp 21 (some 28) rfl ?_
  try simp only[Act.put,pS]
  refine tkQ 22 ?_;refine wpAnyH_done Kr ?_ _;go_wp2_with fail;go_ret2;exact⟨by rw[j.out];rfl,a.2.2.2.2.below⟩
 ·subst s
  by_cases y:Cs=pp
  rotate_left
  ·have j:=Hq (d.out (fun h=>y h.2.1))
   have J:=K2 y;clear y d f;go_enter Tryz.func282,Tryz.ntmps282
   go_upto_region 1 with(fail)
   generalize w.alloc (.cells #[kind,(),Cs,new] 83)=V at c ⊢;refine Gd (S:=(fun u=>He w.heap.size ⟨kind,0,Cs,new⟩ w u)) (fun a=>?_) (by first|exact c.out.v|exact hSn|exact(c.out.step (Below.refl _ _).drew).v|exact(c.out.step (E8 _ _)).v);refine tkQ 0 ?_;refine tkQ 1 ?_;refine tkQ 2 ?_;refine tkQ 3 ?_;refine tkQ 4 ?_;refine tkQ 5 ?_;refine tkQ 6 ?_;refine Ch 7 fun K g=>?_
   go_simp
   refine(r.out _).mono ?_;rintro e k ⟨rfl,b⟩;have hSn:=(a.2.2.2.2.step b).v;clear a b;try go_simp
   refine Bq g (fun a=>?_) (by first|exact c.out.v|exact hSn|exact(c.out.step (Below.refl _ _).drew).v|exact(c.out.step (E8 _ _)).v);clear g K;refine tkQ 8 ?_;refine tkQ 9 ?_;refine tkQ 10 ?_;refine Gp 11 (some 18) rfl ?_
   try simp only[Act.put,pS]
   refine Gp 12 (some 19) rfl ?_
   try simp only[Act.put,pS]
   refine Gp 13 (some 20) rfl ?_
   try simp only[Act.put,pS]
   refine tkQ 14 ?_;refine tkQ 15 ?_;refine Gp 16 (some 23) rfl ?_
   try simp only[Act.put,pS]
   refine Gp 17 (some 24) rfl ?_
   try simp only[Act.put,pS]
   refine Gp 18 (some 25) rfl ?_
   try simp only[Act.put,pS]
   refine Gp 19 (some 26) rfl ?_
   try simp only[Act.put,pS]
   refine Gp 20 (some 27) rfl ?_
   try simp only[Act.put,pS]
   refine Gp 21 (some 28) rfl ?_
   try simp only[Act.put,pS]
   refine tkQ 22 ?_;refine wpAnyH_done Kr ?_ _;go_wp2_with fail;go_ret2;exact⟨by rw[j.out];rfl,a.2.2.2.2.below⟩
  ·subst y
   have J:(Cs.toList==Cs.toList)=true:=beq_self_eq_true _
   by_cases m:new.size=0
   ·have j:=Hq (d.out (fun h=>h.2.2.1 m))
    obtain⟨L,z2,z3⟩:=Sv m;clear m d f;go_enter Tryz.func282,Tryz.ntmps282
    go_upto_region 1 with(fail)
    generalize w.alloc (.cells #[kind,(),Cs,new] 83)=V at c ⊢;refine Gd (S:=(fun u=>He w.heap.size ⟨kind,0,Cs,new⟩ w u)) (fun a=>?_) (by first|exact c.out.v|exact hSn|exact(c.out.step (Below.refl _ _).drew).v|exact(c.out.step (E8 _ _)).v);refine tkQ 0 ?_;refine tkQ 1 ?_;refine tkQ 2 ?_;refine tkQ 3 ?_;refine tkQ 4 ?_;refine tkQ 5 ?_;refine tkQ 6 ?_;refine Ch 7 fun K g=>?_
    go_simp
    refine(r.out _).mono ?_;rintro e k ⟨rfl,b⟩;have hSn:=(a.2.2.2.2.step b).v;clear a b;try go_simp
    refine Bq g (fun a=>?_) (by first|exact c.out.v|exact hSn|exact(c.out.step (Below.refl _ _).drew).v|exact(c.out.step (E8 _ _)).v);clear g K;refine tkQ 8 ?_;refine tkQ 9 ?_;refine tkQ 10 ?_;refine tkQ 11 ?_;refine tkQ 12 ?_;refine tkQ 13 ?_;refine tkQ 14 ?_;refine tkQ 15 ?_;refine Gp 16 (some 23) rfl ?_
    try simp only[Act.put,pS]
    refine Gp 17 (some 24) rfl ?_
    try simp only[Act.put,pS]
    refine Gp 18 (some 25) rfl ?_
    try simp only[Act.put,pS]
    refine Gp 19 (some 26) rfl ?_
    try simp only[Act.put,pS]
    refine Gp 20 (some 27) rfl ?_
    try simp only[Act.put,pS]
    refine Gp 21 (some 28) rfl ?_
    try simp only[Act.put,pS]
    refine tkQ 22 ?_;refine wpAnyH_done Kr ?_ _;go_wp2_with fail;go_ret2;exact⟨by rw[j.out];rfl,a.2.2.2.2.below⟩
   ·obtain⟨L,z2,z3⟩:=Ph m
    by_cases z:np=new
    rotate_left
    ·have j:=Hq (d.out (fun h=>z h.2.2.2))
     have C:=K2 z;clear z m d f;go_enter Tryz.func282,Tryz.ntmps282
     go_upto_region 1 with(fail)
     generalize w.alloc (.cells #[kind,(),Cs,new] 83)=V at c ⊢;refine Gd (S:=(fun u=>He w.heap.size ⟨kind,0,Cs,new⟩ w u)) (fun a=>?_) (by first|exact c.out.v|exact hSn|exact(c.out.step (Below.refl _ _).drew).v|exact(c.out.step (E8 _ _)).v);refine tkQ 0 ?_;refine tkQ 1 ?_;refine tkQ 2 ?_;refine tkQ 3 ?_;refine tkQ 4 ?_;refine tkQ 5 ?_;refine tkQ 6 ?_;refine Ch 7 fun K g=>?_
     go_simp
     refine(r.out _).mono ?_;rintro e k ⟨rfl,b⟩;have hSn:=(a.2.2.2.2.step b).v;clear a b;try go_simp
     refine Bq g (fun a=>?_) (by first|exact c.out.v|exact hSn|exact(c.out.step (Below.refl _ _).drew).v|exact(c.out.step (E8 _ _)).v);clear g K;refine tkQ 8 ?_;refine tkQ 9 ?_;refine tkQ 10 ?_;refine tkQ 11 ?_;refine tkQ 12 ?_;refine tkQ 13 ?_;refine tkQ 14 ?_;refine tkQ 15 ?_;refine tkQ 16 ?_;refine tkQ 17 ?_;refine tkQ 19 ?_;refine tkQ 20 ?_;refine Ch 18 fun K g=>?_
     go_simp
     refine(t.out _).mono ?_;rintro e k ⟨rfl,b⟩;have hSn:=(a.2.2.2.2.step b).v;clear a b;try go_simp
     refine Bq g (fun a=>?_) (by first|exact c.out.v|exact hSn|exact(c.out.step (Below.refl _ _).drew).v|exact(c.out.step (E8 _ _)).v);clear g K;refine tkQ 21 ?_;refine tkQ 22 ?_;refine wpAnyH_done Kr ?_ _;go_wp2_with fail;go_ret2;exact⟨by rw[j.out];rfl,a.2.2.2.2.below⟩
    ·subst z
     have C:(np.toList==np.toList)=true:=beq_self_eq_true _;have j:=Hq (f.out ⟨rfl,rfl,m,rfl⟩);clear m d f;go_enter Tryz.func282,Tryz.ntmps282
     go_upto_region 1 with(fail)
     generalize w.alloc (.cells #[kind,(),Cs,np] 83)=V at c ⊢;refine Gd (S:=(fun u=>He w.heap.size ⟨kind,0,Cs,np⟩ w u)) (fun a=>?_) (by first|exact c.out.v|exact hSn|exact(c.out.step (Below.refl _ _).drew).v|exact(c.out.step (E8 _ _)).v);refine tkQ 0 ?_;refine tkQ 1 ?_;refine tkQ 2 ?_;refine tkQ 3 ?_;refine tkQ 4 ?_;refine tkQ 5 ?_;refine tkQ 6 ?_;refine Ch 7 fun K g=>?_
     go_simp
     refine(r.out _).mono ?_;rintro e k ⟨rfl,b⟩;have hSn:=(a.2.2.2.2.step b).v;clear a b;try go_simp
     refine Bq g (fun a=>?_) (by first|exact c.out.v|exact hSn|exact(c.out.step (Below.refl _ _).drew).v|exact(c.out.step (E8 _ _)).v);clear g K;refine tkQ 8 ?_;refine tkQ 9 ?_;refine tkQ 10 ?_;refine tkQ 11 ?_;refine tkQ 12 ?_;refine tkQ 13 ?_;refine tkQ 14 ?_;refine tkQ 15 ?_;refine tkQ 16 ?_;refine tkQ 17 ?_;refine tkQ 19 ?_;refine tkQ 20 ?_;refine Ch 18 fun K g=>?_
     go_simp
     refine(t.out _).mono ?_;rintro e k ⟨rfl,b⟩;have hSn:=(a.2.2.2.2.step b).v;clear a b;try go_simp
     refine Bq g (fun a=>?_) (by first|exact c.out.v|exact hSn|exact(c.out.step (Below.refl _ _).drew).v|exact(c.out.step (E8 _ _)).v);clear g K;refine tkQ 21 ?_;refine tkQ 22 ?_;refine wpAnyH_done Kr ?_ _;have i:=Hq a.2.2.2.2;clear a hSn
     go_upto_region 3 with(fail)
     refine Gd (S:=(fun u=>He w.heap.size ⟨kind,0,Cs,np⟩ w u)) (fun a=>?_) (by first|exact i.out.v|exact hSn|exact(i.out.step (Below.refl _ _).drew).v|exact(i.out.step (E8 _ _)).v);refine tkQ 0 ?_;refine tkQ 1 ?_;refine tkQ 2 ?_;refine Ch 3 fun K g=>?_
     go_simp
     refine(G.out _).mono ?_;rintro e k ⟨rfl,b⟩;have hSn:=(a.2.2.2.2.step b).v;clear a b;try go_simp
     refine Bq g (fun a=>?_) (by first|exact i.out.v|exact hSn|exact(i.out.step (Below.refl _ _).drew).v|exact(i.out.step (E8 _ _)).v);clear g K;refine Ch 4 fun K g=>?_
     go_simp
     refine(x.out _).mono ?_;rintro e k ⟨rfl,b⟩;have hSn:=(a.2.2.2.2.step b).v;clear a b;try go_simp
     refine Bq g (fun a=>?_) (by first|exact i.out.v|exact hSn|exact(i.out.step (Below.refl _ _).drew).v|exact(i.out.step (E8 _ _)).v);clear g K;refine tkQ 5 ?_;refine wpAnyH_done Kr ?_ _
     by_cases n:q.size=0
     ·obtain⟨M,N,O⟩:=Sv n
      have D:=Hq (decide_eq_true n);clear n;go_wp2_with fail;go_ret2;exact⟨by rw[j.out,D.out];simp,a.2.2.2.2.below⟩
     ·obtain⟨M,N,O⟩:=Ph n
      have D:=Hq (decide_eq_false n);clear n;go_wp2_with fail;go_ret2;exact⟨by rw[j.out,D.out];simp,a.2.2.2.2.below⟩
theorem Wk {p:ByteArray}{o:J8}(h:D9 p o=true):aJ p o=((Dg p o).1,0):=by unfold aJ;rw[if_pos h]
theorem rE {p:ByteArray}{o:J8}(h:D9 p o=false):aJ p o=(⟨#[]⟩,1):=by unfold aJ;rw[if_neg (by rw[h];simp)]
def K7 (p:ByteArray)(o:J8):ByteArray:=Pg.Bc (Af p).recs o.slot
def Gw (p:ByteArray)(o:J8):ByteArray×Bool:=
 if o.kind=1 then((Jq p o.slot o.new).1,decide ((Jq p o.slot o.new).2=0)&&decide (o.Cs.size=0))
 else if o.kind=2 then((O1 p o.slot).1,((decide ((O1 p o.slot).2=0)&&decide (o.new.size=0))&& !decide ((K7 p o).size=0))&&decide (K7 p o=o.Cs))
 else if o.kind=3 then((Hu p o.slot o.new).1,(decide ((Hu p o.slot o.new).2=0)&& !decide ((K7 p o).size=0))&&decide (K7 p o=o.Cs))
 else if o.kind=4 then((M9 p o.slot o.new).1,decide ((M9 p o.slot o.new).2=0)&&decide (o.Cs.size=0))
 else if o.kind=5 then((O6 p o.slot).1,((decide ((O6 p o.slot).2=0)&&decide (o.new.size=0))&& !decide ((K7 p o).size=0))&&decide (K7 p o=o.Cs))
 else if o.kind=6 then(F9 p (NumPlain.Fg o.new.data.toList).1,(((NumPlain.Fg o.new.data.toList).2&& !decide ((F9 p (NumPlain.Fg o.new.data.toList).1).size=0))&&decide (o.slot=0))&&decide (o.Cs=P8 ((Af p).link:Nat)))
 else if o.kind=7 then(Bg o.new ((Af p).lsn:Nat),((!decide ((Bg o.new ((Af p).lsn:Nat)).size=0)&&decide (o.slot=0))&&decide (o.new=Bg o.new 0))&&decide (o.Cs=Bg p 0))
 else Du
theorem Pj (p:ByteArray)(o:J8):F5 p o=(!decide ((K7 p o).size=0)&&decide (K7 p o=o.Cs)):=by
 unfold F5 K7;rw[show decide (o.Cs=Pg.Bc (Af p).recs o.slot)=decide (Pg.Bc (Af p).recs o.slot=o.Cs)from by simp only[eq_comm]]
theorem Zn {n:Int}{s:ByteArray}:P8 n=s↔Lib.itoa n=s.data.toList:=by
 unfold P8
 constructor
 ·intro h;rw[← h]
 ·intro h;rw[h]
theorem jU (p:ByteArray)(o:J8):((((NumPlain.Fg o.new.data.toList).2&& !decide ((F9 p (NumPlain.Fg o.new.data.toList).1).size=0))&&decide (o.slot=0))&&decide (o.Cs=P8 ((Af p).link:Nat)))=(Gc p o).2∧((Gc p o).2=true→F9 p (NumPlain.Fg o.new.data.toList).1=(Gc p o).1):=by
 cases a:(Gc p o).2 with
 |true=>
  unfold Gc at a ⊢
  split at a
  ·rename_i n k
   split at a
   ·rename_i g
    obtain⟨c1,c2,c3⟩:=g;have e:¬ (F9 p n).size=0:=(by simpa using a);obtain⟨_,l,m⟩:=Ob e;have b:NumPlain.oR n=true:=NumPlain.nJ (by omega) (by omega);have i:NumPlain.Fg o.new.data.toList=(n,true):=(by rw[← Zn.1 c1];exact NumPlain.Za b);rw[i];simp only[c1,c2,c3,and_self,if_true]
    simp[e]
   ·cases a
  ·cases a
 |false=>
  refine⟨?_,fun h=>by cases h⟩
  cases f:((((NumPlain.Fg o.new.data.toList).2&& !decide ((F9 p (NumPlain.Fg o.new.data.toList).1).size=0))&&decide (o.slot=0))&&decide (o.Cs=P8 ((Af p).link:Nat)))with
  |false=>rfl
  |true=>
   simp only[Bool.and_eq_true,decide_eq_true_eq,Bool.not_eq_true',decide_eq_false_iff_not]at f;obtain⟨⟨⟨d1,d2⟩,d3⟩,d4⟩:=f;obtain⟨b,c⟩:=NumPlain.cJ d1;have d:=NumPlain.Kx b;rw[c]at d;have j:Gc p o=(F9 p (NumPlain.Fg o.new.data.toList).1,!decide ((F9 p (NumPlain.Fg o.new.data.toList).1).size=0)):=by
    unfold Gc;rw[d];exact if_pos ⟨Zn.2 c,d4,d3⟩
   rw[j]at a
   simp[d2]at a
theorem cX (p:ByteArray)(o:J8):(((!decide ((Bg o.new ((Af p).lsn:Nat)).size=0)&&decide (o.slot=0))&&decide (o.new=Bg o.new 0))&&decide (o.Cs=Bg p 0))=(Gf p o).2∧((Gf p o).2=true→Bg o.new ((Af p).lsn:Nat)=(Gf p o).1):=by
 unfold Gf
 by_cases h:o.slot=0∧o.Cs=Bg p 0∧¬ o.new.size=0∧Bg o.new 0=o.new
 ·rw[if_pos h]
  obtain⟨c,d,k,e⟩:=h;refine⟨?_,fun _=>rfl⟩;have f:decide (o.new=Bg o.new 0)=true:=decide_eq_true e.symm;rw[f,decide_eq_true c,decide_eq_true d]
  simp
 ·rw[if_neg h]
  refine⟨?_,fun h=>by cases h⟩
  show _=false
  cases b:(((!decide ((Bg o.new ((Af p).lsn:Nat)).size=0)&&decide (o.slot=0))&&decide (o.new=Bg o.new 0))&&decide (o.Cs=Bg p 0))with
  |false=>rfl
  |true=>
   simp only[Bool.and_eq_true,decide_eq_true_eq,Bool.not_eq_true',decide_eq_false_iff_not]at b;obtain⟨⟨⟨d1,d2⟩,d3⟩,d4⟩:=b;obtain⟨g,_,_⟩:=eY d1;have i:=(Ia g (l:=0) (by omega)).2.2;refine absurd ⟨d2,d4,?_,d3.symm⟩ h;intro j;have a:(Bg o.new 0).size=512:=i;rw[← d3,j]at a;omega
theorem Ut (p:ByteArray)(o:J8):(Gw p o).2=(Dg p o).2∧((Dg p o).2=true→(Gw p o).1=(Dg p o).1):=by
 unfold Gw Dg
 by_cases c:o.kind=1
 ·rw[if_pos c,if_pos c]
  by_cases h:o.Cs.size=0
  ·rw[if_pos h];simp[okB,h]
  ·rw[if_neg h];simp[Du,h]
 rw[if_neg c,if_neg c]
 by_cases d:o.kind=2
 ·rw[if_pos d,if_pos d,Pj]
  by_cases a:(K7 p o).size=0<;>by_cases b:K7 p o=o.Cs<;>by_cases k:o.new.size=0<;>simp[okB,Du,a,b,k]<;>simp_all
 rw[if_neg d,if_neg d]
 by_cases e:o.kind=3
 ·rw[if_pos e,if_pos e,Pj]
  by_cases a:(K7 p o).size=0<;>by_cases b:K7 p o=o.Cs<;>simp[okB,Du,a,b]<;>simp_all
 rw[if_neg e,if_neg e]
 by_cases f:o.kind=4
 ·rw[if_pos f,if_pos f]
  by_cases h:o.Cs.size=0
  ·rw[if_pos h];simp[okB,h]
  ·rw[if_neg h];simp[Du,h]
 rw[if_neg f,if_neg f]
 by_cases g:o.kind=5
 ·rw[if_pos g,if_pos g,Pj]
  by_cases a:(K7 p o).size=0<;>by_cases b:K7 p o=o.Cs<;>by_cases k:o.new.size=0<;>simp[okB,Du,a,b,k]<;>simp_all
 rw[if_neg g,if_neg g]
 by_cases i:o.kind=6
 ·rw[if_pos i,if_pos i];exact jU p o
 rw[if_neg i,if_neg i]
 by_cases j:o.kind=7
 ·rw[if_pos j,if_pos j];exact cX p o
 rw[if_neg j,if_neg j];exact⟨rfl,fun h=>by cases h⟩
theorem cY (p:ByteArray)(o:J8):((Gw p o).2&&Bk p)=D9 p o:=by
 unfold D9;rw[(Ut p o).1,Bool.and_comm]
theorem qM {p:ByteArray}{o:J8}(h:D9 p o=true):(Gw p o).1=(Dg p o).1:=by
 unfold D9 at h;rw[Bool.and_eq_true]at h;exact(Ut p o).2 h.2
open NumPlain
theorem Sw (p:ByteArray)(b:p.size≤140737488355328)(w:World):
 Cr 141 #[p] w (.string (Bg p 0)):=by
 have c:=Hq (fun W=>Jf p 0 b W);go_enter Tryz.func141,Tryz.ntmps141
 go_wp2_with((go_at_call 101;refine(c.out _).mono ?_;rintro e d ⟨rfl,a⟩))
 go_ret;exact⟨rfl,a⟩
theorem qN (p:ByteArray)(o:J8)(hk:o.kind=3)(n:p.size≤140737488355328)(y:o.new.size≤140737488355328)(w:World):
 Cr 235 #[p,Ke o] w (.tuple #[.string (Gw p o).1,.bool (Gw p o).2]):=by
 have i:=Hq (Hf w o 83);have f:=Hq (fun W=>Gq p o.slot n W);obtain⟨R,m⟩:=ex (Gw p o);rw[← m];have a:=Hq (m.trans (show Gw p o=((Hu p o.slot o.new).1,(decide ((Hu p o.slot o.new).2=0)&& !decide ((K7 p o).size=0))&&decide (K7 p o=o.Cs)) by unfold Gw;rw[hk];rfl));have d:=Hq (fun W=>iP p o.slot o.new n W);generalize Hu p o.slot o.new=x at d a;obtain⟨j,ex⟩:=x;unfold Mm at d;dsimp only at d a;unfold K7 at a;generalize (!decide ((Pg.Bc (Af p).recs o.slot).size=0))=s at f a;generalize Pg.Bc (Af p).recs o.slot=r at f a;obtain⟨kind,slot,Cs,new⟩:=o;dsimp only[Ke]at i f a hk d ⊢;subst hk;clear m;go_enter Tryz.func235,Tryz.ntmps235
 go_upto_region 13 with(first|(go_at_call 98;refine(f.out _).mono ?_;rintro e z ⟨rfl,b⟩;obtain⟨a0,q,a2,a3,-⟩:=(i.out.step b).v;dsimp only at a0 q a2 a3)|(go_at_call 97;refine(d.out _).mono ?_;rintro e A ⟨rfl,g⟩))
 have h:=Hq ((i.out.step b).step g);clear i b g a0 q a2 a3 d f;obtain⟨c0,c1,c2,c3,-⟩:=h.out.v;dsimp only at c0 c1 c2 c3
 by_cases k:ex=0
 ·subst k
  cases s with
  |true=>
   by_cases l:r=Cs
   ·subst l
    have t:(r.toList==r.toList)=true:=beq_self_eq_true _;have c:=Hq (a.out.trans (show _=(j,true) by simp[]));clear a
    go_quiet (fail)
    go_wp2_with fail;go_ret2;exact⟨by rw[c.out];rfl,Ad h.out.below (E8 _ _)⟩
   ·have t:=K2 l
    have c:=Hq (a.out.trans (show _=(j,false) by simp[l]));clear a l
    go_quiet (fail)
    go_wp2_with fail;go_ret2;exact⟨by rw[c.out];rfl,Ad h.out.below (E8 _ _)⟩
  |false=>
   have c:=Hq (a.out.trans (show _=(j,false) by simp[]));clear a
   go_quiet (fail)
   go_wp2_with fail;go_ret2;exact⟨by rw[c.out];rfl,Ad h.out.below (E8 _ _)⟩
 ·have u:(ex==0)=false:=by simpa using k
  have c:=Hq (a.out.trans (show _=(j,false) by simp[k]));clear a k
  go_quiet (fail)
  go_wp2_with fail;go_ret2;exact⟨by rw[c.out];rfl,Ad h.out.below (E8 _ _)⟩
theorem qO (p:ByteArray)(o:J8)(hk:o.kind=7)(t:p.size≤140737488355328)(D:o.new.size≤140737488355328)(w:World):
 Cr 235 #[p,Ke o] w (.tuple #[.string (Gw p o).1,.bool (Gw p o).2]):=by
 have n:=Hq (Hf w o 83);have x:=Hq (fun W=>Gq p o.slot t W);obtain⟨R,y⟩:=ex (Gw p o);rw[← y];have f:=Hq (y.trans (show Gw p o=(Bg o.new ((Af p).lsn:Nat),((!decide ((Bg o.new ((Af p).lsn:Nat)).size=0)&&decide (o.slot=0))&&decide (o.new=Bg o.new 0))&&decide (o.Cs=Bg p 0)) by unfold Gw;rw[hk];rfl));have z:=Hq (fun W=>Xq p t W);have l:=Hq (fun W=>Jf o.new ((Af p).lsn:Nat) D W);have m:=Hq (fun W=>Sw o.new D W);have A:=Hq (fun W=>Sw p t W);generalize Bg o.new ((Af p).lsn:Nat)=q at l f;generalize ((Af p).lsn:Nat)=ln at z l;generalize Bg o.new 0=nb at m f;generalize Bg p 0=pb at A f;obtain⟨kind,slot,Cs,new⟩:=o;dsimp only[Ke]at n x f hk l m ⊢;subst hk;clear y;go_enter Tryz.func235,Tryz.ntmps235
 go_upto_region 25 with(go_at_call 98;refine(x.out _).mono ?_;rintro e L ⟨rfl,j⟩;obtain⟨a0,E,a2,a3,-⟩:=(n.out.step j).v;dsimp only at a0 E a2 a3)
 have c:=Hq (n.out.step j);clear n j a0 E a2 a3 x;refine Gd (S:=(fun u=>He w.heap.size ⟨7,slot,Cs,new⟩ w u)) (fun a=>?_) (by first|exact hSn|exact c.out.v|exact(c.out.step (Below.refl _ _).drew).v);refine tkQ 0 ?_;refine tkQ 1 ?_;refine tkQ 2 ?_;refine Ch 3 fun K d=>?_
 go_simp
 refine(z.out _).mono ?_;rintro e k ⟨rfl,b⟩;have hSn:=(a.2.2.2.2.step b).v;clear a b;try go_simp
 refine Bq d (fun a=>?_) (by first|exact hSn|exact c.out.v|exact(c.out.step (Below.refl _ _).drew).v);clear d K;refine Ch 4 fun K d=>?_
 go_simp
 refine(l.out _).mono ?_;rintro e k ⟨rfl,b⟩;have hSn:=(a.2.2.2.2.step b).v;clear a b;try go_simp
 refine Bq d (fun a=>?_) (by first|exact hSn|exact c.out.v|exact(c.out.step (Below.refl _ _).drew).v);clear d K;refine tkQ 5 ?_;refine wpAnyH_done Kr ?_ _;have F:=Hq a.2.2.2.2;clear a hSn c z l;have c:=F;clear F;go_upto_region 26 with fail
 by_cases g:q.size=0
 ·obtain⟨G,H,I⟩:=Sv g
  have i:=Hq (f.out.trans (show _=(q,false) by simp[g]));clear f g;refine Gd (S:=(fun u=>He w.heap.size ⟨7,slot,Cs,new⟩ w u)) (fun a=>?_) (by first|exact hSn|exact c.out.v|exact(c.out.step (Below.refl _ _).drew).v);refine tkQ 0 ?_;refine tkQ 1 ?_;refine tkQ 2 ?_;refine tkQ 3 ?_;refine Gp 4 (some 175) rfl ?_
  try simp only[Act.put,pS]
  refine Gp 5 (some 176) rfl ?_
  try simp only[Act.put,pS]
  refine Gp 6 (some 177) rfl ?_
  try simp only[Act.put,pS]
  refine tkQ 7 ?_;refine tkQ 8 ?_;refine Gp 9 (some 180) rfl ?_
  try simp only[Act.put,pS]
  refine Gp 10 (some 181) rfl ?_
  try simp only[Act.put,pS]
  refine Gp 11 (some 182) rfl ?_
  try simp only[Act.put,pS]
  refine Gp 12 (some 183) rfl ?_
  try simp only[Act.put,pS]
  refine Gp 13 (some 184) rfl ?_
  try simp only[Act.put,pS]
  refine Gp 14 (some 185) rfl ?_
  try simp only[Act.put,pS]
  refine tkQ 15 ?_;refine tkQ 16 ?_;refine Gp 17 (some 188) rfl ?_
  try simp only[Act.put,pS]
  refine Gp 18 (some 189) rfl ?_
  try simp only[Act.put,pS]
  refine Gp 19 (some 190) rfl ?_
  try simp only[Act.put,pS]
  refine Gp 20 (some 191) rfl ?_
  try simp only[Act.put,pS]
  refine Gp 21 (some 192) rfl ?_
  try simp only[Act.put,pS]
  refine tkQ 22 ?_;refine tkQ 23 ?_;refine tkQ 24 ?_;refine wpAnyH_done Kr ?_ _;go_wp2_with fail;go_ret2;exact⟨by rw[i.out];rfl,a.2.2.2.2.below⟩
 ·obtain⟨G,H,I⟩:=Ph g
  by_cases h:slot=0
  ·have B:(slot==0)=true:=by simp[h]
   by_cases r:new=nb
   ·subst r
    have J:(new.toList==new.toList)=true:=beq_self_eq_true _
    by_cases s:Cs=pb
    ·subst s
     have C:(Cs.toList==Cs.toList)=true:=beq_self_eq_true _;have i:=Hq (f.out.trans (show _=(q,true) by simp[g,h]));clear f g h;refine Gd (S:=(fun u=>He w.heap.size ⟨7,slot,Cs,new⟩ w u)) (fun a=>?_) (by first|exact hSn|exact c.out.v|exact(c.out.step (Below.refl _ _).drew).v);refine tkQ 0 ?_;refine tkQ 1 ?_;refine tkQ 2 ?_;refine tkQ 3 ?_;refine tkQ 4 ?_;refine tkQ 5 ?_;refine tkQ 6 ?_;refine tkQ 7 ?_;refine tkQ 8 ?_;refine tkQ 9 ?_;refine tkQ 10 ?_;refine tkQ 11 ?_;refine tkQ 12 ?_;refine Ch 13 fun K d=>?_
     go_simp
     refine(m.out _).mono ?_;rintro e k ⟨rfl,b⟩;have hSn:=(a.2.2.2.2.step b).v;clear a b;try go_simp
     refine Bq d (fun a=>?_) (by first|exact hSn|exact c.out.v|exact(c.out.step (Below.refl _ _).drew).v);clear d K;refine tkQ 14 ?_;refine tkQ 15 ?_;refine tkQ 16 ?_;refine tkQ 17 ?_;refine tkQ 18 ?_;refine tkQ 19 ?_;refine Ch 20 fun K d=>?_
     go_simp
     refine(A.out _).mono ?_;rintro e k ⟨rfl,b⟩;have hSn:=(a.2.2.2.2.step b).v;clear a b;try go_simp
     refine Bq d (fun a=>?_) (by first|exact hSn|exact c.out.v|exact(c.out.step (Below.refl _ _).drew).v);clear d K;refine tkQ 21 ?_;refine tkQ 22 ?_;refine tkQ 23 ?_;refine tkQ 24 ?_;refine wpAnyH_done Kr ?_ _;go_wp2_with fail;go_ret2;exact⟨by rw[i.out];rfl,a.2.2.2.2.below⟩
    ·have C:=K2 s
     have i:=Hq (f.out.trans (show _=(q,false) by simp[g,h,s]));clear f g h s;refine Gd (S:=(fun u=>He w.heap.size ⟨7,slot,Cs,new⟩ w u)) (fun a=>?_) (by first|exact hSn|exact c.out.v|exact(c.out.step (Below.refl _ _).drew).v);refine tkQ 0 ?_;refine tkQ 1 ?_;refine tkQ 2 ?_;refine tkQ 3 ?_;refine tkQ 4 ?_;refine tkQ 5 ?_;refine tkQ 6 ?_;refine tkQ 7 ?_;refine tkQ 8 ?_;refine tkQ 9 ?_;refine tkQ 10 ?_;refine tkQ 11 ?_;refine tkQ 12 ?_;refine Ch 13 fun K d=>?_
     go_simp
     refine(m.out _).mono ?_;rintro e k ⟨rfl,b⟩;have hSn:=(a.2.2.2.2.step b).v;clear a b;try go_simp
     refine Bq d (fun a=>?_) (by first|exact hSn|exact c.out.v|exact(c.out.step (Below.refl _ _).drew).v);clear d K;refine tkQ 14 ?_;refine tkQ 15 ?_;refine tkQ 16 ?_;refine tkQ 17 ?_;refine tkQ 18 ?_;refine tkQ 19 ?_;refine Ch 20 fun K d=>?_
     go_simp
     refine(A.out _).mono ?_;rintro e k ⟨rfl,b⟩;have hSn:=(a.2.2.2.2.step b).v;clear a b;try go_simp
     refine Bq d (fun a=>?_) (by first|exact hSn|exact c.out.v|exact(c.out.step (Below.refl _ _).drew).v);clear d K;refine tkQ 21 ?_;refine tkQ 22 ?_;refine tkQ 23 ?_;refine tkQ 24 ?_;refine wpAnyH_done Kr ?_ _;go_wp2_with fail;go_ret2;exact⟨by rw[i.out];rfl,a.2.2.2.2.below⟩
   ·have J:=K2 r
    have i:=Hq (f.out.trans (show _=(q,false) by simp[g,h,r]));clear f g h r;refine Gd (S:=(fun u=>He w.heap.size ⟨7,slot,Cs,new⟩ w u)) (fun a=>?_) (by first|exact hSn|exact c.out.v|exact(c.out.step (Below.refl _ _).drew).v);refine tkQ 0 ?_;refine tkQ 1 ?_;refine tkQ 2 ?_;refine tkQ 3 ?_;refine tkQ 4 ?_;refine tkQ 5 ?_;refine tkQ 6 ?_;refine tkQ 7 ?_;refine tkQ 8 ?_;refine tkQ 9 ?_;refine tkQ 10 ?_;refine tkQ 11 ?_;refine tkQ 12 ?_;refine Ch 13 fun K d=>?_
    go_simp
    refine(m.out _).mono ?_;rintro e k ⟨rfl,b⟩;have hSn:=(a.2.2.2.2.step b).v;clear a b;try go_simp
    refine Bq d (fun a=>?_) (by first|exact hSn|exact c.out.v|exact(c.out.step (Below.refl _ _).drew).v);clear d K;refine tkQ 14 ?_;refine tkQ 15 ?_;refine tkQ 16 ?_;refine Gp 17 (some 188) rfl ?_
    try simp only[Act.put,pS]
    refine Gp 18 (some 189) rfl ?_
    try simp only[Act.put,pS]
    refine Gp 19 (some 190) rfl ?_
    try simp only[Act.put,pS]
    refine Gp 20 (some 191) rfl ?_
    try simp only[Act.put,pS]
    refine Gp 21 (some 192) rfl ?_
    try simp only[Act.put,pS]
    refine tkQ 22 ?_;refine tkQ 23 ?_;refine tkQ 24 ?_;refine wpAnyH_done Kr ?_ _;go_wp2_with fail;go_ret2;exact⟨by rw[i.out];rfl,a.2.2.2.2.below⟩
  ·have B:(slot==0)=false:=by simpa using h
   have i:=Hq (f.out.trans (show _=(q,false) by simp[g,h]));clear f g h;refine Gd (S:=(fun u=>He w.heap.size ⟨7,slot,Cs,new⟩ w u)) (fun a=>?_) (by first|exact hSn|exact c.out.v|exact(c.out.step (Below.refl _ _).drew).v);refine tkQ 0 ?_;refine tkQ 1 ?_;refine tkQ 2 ?_;refine tkQ 3 ?_;refine tkQ 4 ?_;refine tkQ 5 ?_;refine tkQ 6 ?_;refine tkQ 7 ?_;refine tkQ 8 ?_;refine Gp 9 (some 180) rfl ?_
   try simp only[Act.put,pS]
   refine Gp 10 (some 181) rfl ?_
   try simp only[Act.put,pS]
   refine Gp 11 (some 182) rfl ?_
   try simp only[Act.put,pS]
   refine Gp 12 (some 183) rfl ?_
   try simp only[Act.put,pS]
   refine Gp 13 (some 184) rfl ?_
   try simp only[Act.put,pS]
   refine Gp 14 (some 185) rfl ?_
   try simp only[Act.put,pS]
   refine tkQ 15 ?_;refine tkQ 16 ?_;refine Gp 17 (some 188) rfl ?_
   try simp only[Act.put,pS]
   refine Gp 18 (some 189) rfl ?_
   try simp only[Act.put,pS]
   refine Gp 19 (some 190) rfl ?_
   try simp only[Act.put,pS]
   refine Gp 20 (some 191) rfl ?_
   try simp only[Act.put,pS]
   refine Gp 21 (some 192) rfl ?_
   try simp only[Act.put,pS]
   refine tkQ 22 ?_;refine tkQ 23 ?_;refine tkQ 24 ?_;refine wpAnyH_done Kr ?_ _;go_wp2_with fail;go_ret2;exact⟨by rw[i.out];rfl,a.2.2.2.2.below⟩
def ab:ByteArray:=⟨#[97,98]⟩
def o1:J8:=⟨1,0,⟨#[]⟩,ab⟩
theorem qP (p:ByteArray)(o:J8)(hk:o.kind=3)(m:p.size≤140737488355328)(z:o.new.size≤140737488355328)(w:World):
 Cr 229 #[p,Ke o] w (.tuple #[.string (Dg p o).1,.bool (Dg p o).2]):=by
 have i:=Hq (Hf w o 83);have d:=Hq (fun W=>Lh p o.slot m W);obtain⟨R,j⟩:=ex (Dg p o);rw[← j];have c:=Hq (j.trans (show Dg p o=if F5 p o then okB (Hu p o.slot o.new)else Du by unfold Dg;rw[hk];rfl));have g:=Hq (fun W=>lQ p o.slot o.new m W);generalize Hu p o.slot o.new=x at g c;obtain⟨A,ex⟩:=x;unfold Mm at g;have b:=Hq (show F5 p o=(!decide ((Pg.Bc (Af p).recs o.slot).size=0)&&decide (o.Cs=Pg.Bc (Af p).recs o.slot))from rfl);generalize F5 p o=n at b c;generalize (!decide ((Pg.Bc (Af p).recs o.slot).size=0))=q at b d;generalize Pg.Bc (Af p).recs o.slot=r at b d;obtain⟨kind,slot,Cs,new⟩:=o;dsimp only[Ke]at i d b c hk g ⊢;subst hk;clear j;go_enter Tryz.func229,Tryz.ntmps229
 go_upto_region 2 with(go_at_call 86;refine(d.out _).mono ?_;rintro e t ⟨rfl,f⟩)
 have H1:=Hq (i.out.step f);clear i f;obtain⟨c0,c1,c2,c3,-⟩:=H1.out.v;dsimp only at c0 c1 c2 c3
 go_cut [8] (fun s u=>s= .bool n∧t=u)
 case first=>
  cases q with
  |false=>
   have a:=Hq (b.out.trans (Bool.false_and _));go_wp2_with fail;go_meet
   case rel=>exact⟨by rw[a.out],rfl⟩
  |true=>
   by_cases h:Cs=r
   ·subst h
    have y:(Cs.toList==Cs.toList)=true:=beq_self_eq_true _;have a:=Hq (b.out.trans (show _=true by simp));go_wp2_with fail;go_meet
    case rel=>exact⟨by rw[a.out],rfl⟩
   ·have y:=K2 h
    have a:=Hq (b.out.trans (show _=false by simp[h]));clear h;go_wp2_with fail;go_meet
    case rel=>exact⟨by rw[a.out],rfl⟩
 case rest=>
  obtain⟨rfl,rfl⟩:=hcut;clear b d
  cases n with
  |true=>
   have k:=Hq (c.out.trans (if_pos rfl));clear c
   go_wp2_with((go_at_call 83;refine(g.out _).mono ?_;rintro e B ⟨rfl,l⟩))
   go_ret2;exact⟨by rw[k.out];rfl,Ad H1.out.below l⟩
  |false=>
   have k:=Hq (c.out.trans (if_neg (by simp)));clear c;go_wp2_with fail;go_ret2;exact⟨by rw[k.out];rfl,H1.out.below⟩
theorem qQ (p:ByteArray)(o:J8)(hk:o.kind=7)(l:p.size≤140737488355328)(m:o.new.size≤140737488355328)(w:World):
 Cr 229 #[p,Ke o] w (.tuple #[.string (Dg p o).1,.bool (Dg p o).2]):=by
 have h:=Hq (Hf w o 83);have c:=Hq (fun W=>Lh p o.slot l W);obtain⟨R,i⟩:=ex (Dg p o);rw[← i];have f:=Hq (i.trans (show Dg p o=Gf p o by unfold Dg;rw[hk];rfl));have j:=Hq (fun W=>jT p o l m W);generalize Gf p o=x at j f;obtain⟨y,z⟩:=x;have b:=Hq (show F5 p o=(!decide ((Pg.Bc (Af p).recs o.slot).size=0)&&decide (o.Cs=Pg.Bc (Af p).recs o.slot))from rfl);generalize F5 p o=oi at b f;generalize (!decide ((Pg.Bc (Af p).recs o.slot).size=0))=n at b c;generalize Pg.Bc (Af p).recs o.slot=r at b c;obtain⟨kind,slot,Cs,new⟩:=o;dsimp only[Ke]at h c b f hk j ⊢;subst hk;clear i;go_enter Tryz.func229,Tryz.ntmps229
 go_upto_region 2 with(go_at_call 86;refine(c.out _).mono ?_;rintro e q ⟨rfl,d⟩)
 have H1:=Hq (h.out.step d);clear h d;obtain⟨c0,c1,c2,c3,-⟩:=H1.out.v;dsimp only at c0 c1 c2 c3
 go_cut [8] (fun s t=>s= .bool oi∧q=t)
 case first=>
  cases n with
  |false=>
   have a:=Hq (b.out.trans (Bool.false_and _));go_wp2_with fail;go_meet
   case rel=>exact⟨by rw[a.out],rfl⟩
  |true=>
   by_cases g:Cs=r
   ·subst g
    have u:(Cs.toList==Cs.toList)=true:=beq_self_eq_true _;have a:=Hq (b.out.trans (show _=true by simp));go_wp2_with fail;go_meet
    case rel=>exact⟨by rw[a.out],rfl⟩
   ·have u:=K2 g
    have a:=Hq (b.out.trans (show _=false by simp[g]));clear g;go_wp2_with fail;go_meet
    case rel=>exact⟨by rw[a.out],rfl⟩
 case rest=>
  obtain⟨rfl,rfl⟩:=hcut;clear b c
  go_wp2_with((go_at_call 282;refine(j.out _).mono ?_;rintro e A ⟨rfl,k⟩))
  go_ret2;exact⟨by rw[f.out];rfl,Ad H1.out.below k⟩
theorem Uu (p:ByteArray)(o:J8)(hk:o.kind=3∨o.kind=7)(a:p.size≤140737488355328)(b:o.new.size≤140737488355328)(w:World):
 Cr 229 #[p,Ke o] w (.tuple #[.string (Dg p o).1,.bool (Dg p o).2]):=by
 rcases hk with hk|hk
 ·exact qP p o hk a b w
 ·exact qQ p o hk a b w
theorem Zo (p:ByteArray)(o:J8)(hk:o.kind=3∨o.kind=7)(g:p.size≤140737488355328)(h:o.new.size≤140737488355328)(w:World):
 Cr 228 #[p,Ke o] w (.bool (D9 p o)):=by
 have d:=Hq (fun W=>Uu p o hk g h W);have f:=Hq (fun W=>Oz p g W);unfold D9;generalize Bk p=b at f ⊢;generalize Dg p o=x at d ⊢;obtain⟨k,l⟩:=x;obtain⟨kind,slot,Cs,new⟩:=o;dsimp only[Ke]at d ⊢;clear h
 cases b with
 |true=>
  go_enter Tryz.func228,Tryz.ntmps228
  go_wp2_with(first|(go_at_call 229;refine(d.out _).mono ?_;rintro e i ⟨rfl,a⟩)|(go_at_call 233;refine(f.out _).mono ?_;rintro e j ⟨rfl,c⟩))
  go_ret;exact⟨by simp,Ad (Ad (Ab _ _) a) c⟩
 |false=>
  go_enter Tryz.func228,Tryz.ntmps228
  go_wp2_with(first|(go_at_call 229;refine(d.out _).mono ?_;rintro e i ⟨rfl,a⟩)|(go_at_call 233;refine(f.out _).mono ?_;rintro e j ⟨rfl,c⟩))
  go_ret;exact⟨by simp,Ad (Ad (Ab _ _) a) c⟩
theorem fH (p:ByteArray)(o:J8)(hk:o.kind=3∨o.kind=7)(l:p.size≤140737488355328)(g:o.new.size≤140737488355328)(w:World):
 Cr 178 #[p,Ke o] w (Mm (aJ p o)):=by
 have i:=Hq (fun W=>Uu p o hk l g W);have f:=Hq (fun W=>Zo p o hk l g W);have m:=Hq (Hf w o 83);have c:=Hq (fun h=>Wk (p:=p) (o:=o) h);have d:=Hq (fun h=>rE (p:=p) (o:=o) h);generalize aJ p o=R at c d ⊢;generalize D9 p o=b at f c d;generalize Dg p o=x at i c;obtain⟨q,r⟩:=x;obtain⟨kind,slot,Cs,new⟩:=o;dsimp only[Ke]at i f m ⊢;clear g
 cases b with
 |true=>
  have j:=Hq (c.out rfl);clear c d;go_enter Tryz.func178,Tryz.ntmps178
  go_wp2_with(first|(go_at_call 228;refine(f.out _).mono ?_;rintro e n ⟨rfl,a⟩;obtain⟨c0,c1,c2,c3,-⟩:=(m.out.step a).v;dsimp only at c0 c1 c2 c3)|(go_at_call 229;refine(i.out _).mono ?_;rintro e s ⟨rfl,k⟩))
  go_ret2;exact⟨by rw[j.out];rfl,Ad (Ad (Ab _ _) a) k⟩
 |false=>
  have j:=Hq (d.out rfl);clear c d;go_enter Tryz.func178,Tryz.ntmps178
  go_wp2_with((go_at_call 228;refine(f.out _).mono ?_;rintro e n ⟨rfl,a⟩))
  go_ret2;exact⟨by rw[j.out];rfl,Ad (Ab _ _) a⟩
theorem Sx (p:ByteArray)(o:J8)(hk:o.kind=3∨o.kind=7)(a:p.size≤140737488355328)(b:o.new.size≤140737488355328)(w:World):
 Cr 235 #[p,Ke o] w (.tuple #[.string (Gw p o).1,.bool (Gw p o).2]):=by
 rcases hk with hk|hk
 ·exact qN p o hk a b w
 ·exact qO p o hk a b w
theorem Wl (p:ByteArray)(o:J8)(hk:o.kind=3∨o.kind=7)(h:p.size≤140737488355328)(i:o.new.size≤140737488355328)(w:World):
 Cr 234 #[p,Ke o] w (.bool (D9 p o)):=by
 have d:=Hq (fun W=>Sx p o hk h i W);have j:=Hq (fun W=>Lf p h W);have c:=Hq (cY p o);generalize D9 p o=R at c ⊢;generalize Bk p=b at j c;generalize Gw p o=x at d c;obtain⟨m,k⟩:=x;obtain⟨kind,slot,Cs,new⟩:=o;dsimp only[Ke]at d c ⊢;clear i
 cases k with
 |true=>
  have f:=Hq (c.out.symm.trans (Bool.true_and _));go_enter Tryz.func234,Tryz.ntmps234
  go_wp2_with(first|(go_at_call 235;refine(d.out _).mono ?_;rintro e l ⟨rfl,a⟩)|(go_at_call 239;refine(j.out _).mono ?_;rintro e n ⟨rfl,g⟩))
  go_ret;exact⟨by rw[f.out];rfl,Ad (Ad (Ab _ _) a) g⟩
 |false=>
  have f:=Hq (c.out.symm.trans (Bool.false_and _));go_enter Tryz.func234,Tryz.ntmps234
  go_wp2_with((go_at_call 235;refine(d.out _).mono ?_;rintro e l ⟨rfl,a⟩))
  go_ret;exact⟨by rw[f.out];rfl,Ad (Ab _ _) a⟩
theorem nZ (p:ByteArray)(o:J8)(hk:o.kind=3∨o.kind=7)(l:p.size≤140737488355328)(g:o.new.size≤140737488355328)(w:World):
 Cr 186 #[p,Ke o] w (Mm (aJ p o)):=by
 have i:=Hq (fun W=>Sx p o hk l g W);have f:=Hq (fun W=>Wl p o hk l g W);have m:=Hq (Hf w o 83);have c:=Hq (fun h=>(Wk (p:=p) (o:=o) h).trans (by rw[← qM h]));have d:=Hq (fun h=>rE (p:=p) (o:=o) h);generalize aJ p o=R at c d ⊢;generalize D9 p o=b at f c d;generalize Gw p o=x at i c;obtain⟨q,r⟩:=x;obtain⟨kind,slot,Cs,new⟩:=o;dsimp only[Ke]at i f m ⊢;clear g
 cases b with
 |true=>
  have j:=Hq (c.out rfl);clear c d;go_enter Tryz.func186,Tryz.ntmps186
  go_wp2_with(first|(go_at_call 234;refine(f.out _).mono ?_;rintro e n ⟨rfl,a⟩;obtain⟨c0,c1,c2,c3,-⟩:=(m.out.step a).v;dsimp only at c0 c1 c2 c3)|(go_at_call 235;refine(i.out _).mono ?_;rintro e s ⟨rfl,k⟩))
  go_ret2;exact⟨by rw[j.out];rfl,Ad (Ad (Ab _ _) a) k⟩
 |false=>
  have j:=Hq (d.out rfl);clear c d;go_enter Tryz.func186,Tryz.ntmps186
  go_wp2_with((go_at_call 234;refine(f.out _).mono ?_;rintro e n ⟨rfl,a⟩))
  go_ret2;exact⟨by rw[j.out];rfl,Ad (Ab _ _) a⟩
end Go.Proofs.YtmldoihahndcgaaGreatDoor
