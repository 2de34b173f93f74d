import Derived.Test.YtdfkambdagoojaaGreatDoorHa00
import Derived.Test.YtdfkambdagoojaaGreatDoorHa10
import Derived.Test.YtdfkambdagoojaaGreatDoorHa01
import Derived.WalkSmall
set_option maxRecDepth 100000
set_option maxHeartbeats 16000000
set_option linter.unusedSimpArgs false
namespace Go.Proofs.YtdfkambdagoojaaGreatDoor
open Go.RowKit
structure Vars (w:World):Prop where
 tab:Lib.TabIs Tryz.prog w "internal/strconv.uint64pow10" .u64 Lib.pow10Tab
 syn:∃ tp p,w.var? Tryz.prog "strconv.ErrSyntax"=some #[.iface tp p]
 ran:∃ tp p,w.var? Tryz.prog "strconv.ErrRange"=some #[.iface tp p]
 size:5≤w.heap.size
theorem gTab:Tryz.prog.globalNamed "internal/strconv.uint64pow10"=some 3:=by kernel_rfl
theorem gSyn:Tryz.prog.globalNamed "strconv.ErrSyntax"=some 0:=by kernel_rfl
theorem gRan:Tryz.prog.globalNamed "strconv.ErrRange"=some 1:=by kernel_rfl
theorem Vars.below {w w':World}(h:Vars w)(hb:Below w.heap.size w w'):Vars w':=by
 have h5:=h.size
 obtain⟨ta,pa,ha⟩:=h.syn
 obtain⟨tb,pb,hb'⟩:=h.ran
 exact⟨var?_below hb gTab (by omega) h.tab,⟨ta,pa,var?_below hb gSyn (by omega) ha⟩,⟨tb,pb,var?_below hb gRan (by omega) hb'⟩,Nat.le_trans h.size hb.size⟩
theorem below_grown (w:World)(k:Nat)(os:Array Obj):Below w.heap.size w (Sort.grow (w.drewN k) os):=
 ⟨rfl,rfl,rfl,by show w.heap.size≤(w.heap++os).size;rw[Array.size_append];omega,fun j hj=>by
   show(w.heap++os)[j]? =w.heap[j]?
   rw[Array.getElem?_append_left hj]⟩
theorem itoa_any (n:Int)(h0: -9223372036854775808≤n)(h1:n≤9223372036854775807)(w:World)(hv:Vars w):
 Calls Tryz.prog 210 #[n] w fun e w'=>e= .returned (.string (itoaB n))∧Below w.heap.size w w':=by
 refine(Tryz.strconv_Itoa n h0 h1 w hv.tab).mono ?_
 rintro e w' ⟨rfl,k,os,rfl⟩
 exact⟨rfl,below_grown _ _ _⟩
theorem atoi_bad (s:ByteArray)(hlim:s.size≤281474976710656)(h:∀ v,Lib.atoiAll s.data.toList≠ .ok v)(w:World)(hv:Vars w):
 Calls Tryz.prog 209 #[s] w fun e w'=>∃ n p,e= .returned (.tuple #[n,.iface 239 p])∧Below w.heap.size w w':=by
 cases hc:Lib.atoiAll s.data.toList
 ·rename_i v;exact absurd hc (h v)
 ·obtain⟨tp,p,hvar⟩:=hv.syn
  refine(Any.strconv_Atoi_syntax_var Tryz.laysC172 s hlim hc tp p w hvar).mono ?_
  rintro e w' ⟨N,rfl,_,_,hb⟩
  exact⟨_,_,rfl,hb⟩
 ·obtain⟨tp,p,hvar⟩:=hv.ran
  refine(Any.strconv_Atoi_range_var Tryz.laysC172 s hlim hc tp p w hvar).mono ?_
  rintro e w' ⟨N,rfl,_,_,hb⟩
  exact⟨_,_,rfl,hb⟩
theorem atoi_good (s:ByteArray)(hlim:s.size≤281474976710656)(v:Int)(h:Lib.atoiAll s.data.toList= .ok v)(w:World):
 Calls Tryz.prog 209 #[s] w fun e w'=>e= .returned (.tuple #[v,.nilIface])∧Below w.heap.size w w':=by
 refine(Tryz.strconv_Atoi_ok s (by omega) v h w).mono ?_
 rintro e w' ⟨rfl,hw⟩
 refine⟨rfl,?_⟩
 rcases hw with rfl|⟨t,rfl⟩
 ·exact Below.refl _ _
 ·exact below_bytes _ _ _
theorem plain_any (p:ByteArray)(hm:p.size≤140737488355328)(w:World):
 Calls Tryz.prog 213 #[p] w fun e w'=>e= .returned (.string (lsnB p 0))∧Below w.heap.size w w':=by
 have HS:=Hq (fun W=>setlsn_any p 0 hm W)
 generalize lsnB p 0=q at HS ⊢
 go_enter Tryz.func213,Tryz.ntmps213
 go_wp2_with (go_at_call 71;refine(HS.out _).mono ?_;rintro e w1 ⟨rfl,hb⟩)
 go_ret
 exact⟨rfl,hb⟩
abbrev copV (o:Cop):Value:=.agg #[o.kind,o.slot,o.old,o.new]
structure HeldC (X:Nat) (o:Cop) (w0 u:World):Prop where
 c0:u.cell? ⟨X,0,none⟩=some (.int .i64 o.kind)
 c1:u.cell? ⟨X,1,none⟩=some (.int .i64 o.slot)
 c2:u.cell? ⟨X,2,none⟩=some (.string o.old)
 c3:u.cell? ⟨X,3,none⟩=some (.string o.new)
 lt:X<u.heap.size
 below:Below w0.heap.size w0 u
abbrev HeldCV (X:Nat)(o:Cop)(w0 u:World):Prop:=
 u.cell? ⟨X,0,none⟩=some (.int .i64 o.kind)∧u.cell? ⟨X,1,none⟩=some (.int .i64 o.slot)∧u.cell? ⟨X,2,none⟩=some (.string o.old)∧u.cell? ⟨X,3,none⟩=some (.string o.new)∧HeldC X o w0 u
theorem HeldC.step {X:Nat}{o:Cop}{w0 u v:World}(h:HeldC X o w0 u)(hb:Below u.heap.size u v):HeldC X o w0 v:=
 ⟨by rw[hb.cell (p:=⟨X,0,none⟩) h.lt];exact h.c0,by rw[hb.cell (p:=⟨X,1,none⟩) h.lt];exact h.c1,by rw[hb.cell (p:=⟨X,2,none⟩) h.lt];exact h.c2,by rw[hb.cell (p:=⟨X,3,none⟩) h.lt];exact h.c3,Nat.lt_of_lt_of_le h.lt hb.size,joinB h.below hb⟩
theorem HeldC.v {X:Nat}{o:Cop}{w0 u:World}(h:HeldC X o w0 u):HeldCV X o w0 u:=⟨h.c0,h.c1,h.c2,h.c3,h⟩
theorem heldC_new (w:World)(o:Cop)(T:TypeId):HeldC w.heap.size o w (w.alloc (.cells #[o.kind,o.slot,o.old,o.new] T)):=by
 have h:=heap_alloc_new w (.cells #[o.kind,o.slot,o.old,o.new] T)
 exact⟨by rw[blkCell h];rfl,by rw[blkCell h];rfl,by rw[blkCell h];rfl,by rw[blkCell h];rfl,by simp,allocB _ _⟩
theorem toList_nil (a:ByteArray):a.toList=[]↔a.size=0:=by
 rw[ByteArray.toList_eq]
 have h:a.data.toList.length=a.size:=by simp
 constructor
 ·intro e;rw[e]at h;exact h.symm
 ·intro e;exact List.eq_nil_of_length_eq_zero (by omega)
theorem cstr_ne {a b:ByteArray}(h:a≠b):(a.toList==b.toList)=false:=by
 rw[ByteArray.toList_eq,ByteArray.toList_eq]
 exact beq_eq_false_iff_ne.2 (fun e=>h (ByteArray.ext (Array.toList_inj.1 e)))
theorem cstr_nil {a:ByteArray}(h:a.size=0):a.toList=[]∧a.toList.isEmpty=true∧(a.toList==[])=true:=by
 have:=(toList_nil a).2 h
 rw[this];simp
theorem cstr_some {a:ByteArray}(h:a.size≠0):¬ a.toList=[]∧a.toList.isEmpty=false∧(a.toList==[])=false:=by
 have h2:¬ a.toList=[]:=fun e=>h ((toList_nil a).1 e)
 exact⟨h2,by simpa using h2,by simpa using h2⟩
theorem whole_any (p:ByteArray)(o:Cop)(hp:p.size≤140737488355328)(ho:o.new.size≤140737488355328)(w:World):
 Calls Tryz.prog 179 #[p,copV o] w fun e w'=>e= .returned (.tuple #[.string (wholeO p o).1,.bool (wholeO p o).2])∧Below w.heap.size w w':=by
 have HP:=Hq (fun W=>plain_any p hp W)
 have HN:=Hq (fun W=>plain_any o.new ho W)
 have HL:=Hq (fun W=>lsn_any p hp W)
 have HS:=Hq (fun W=>setlsn_any o.new ((leafP p).lsn:Nat) ho W)
 have HX:=Hq (heldC_new w o 40)
 obtain⟨R,hR⟩:=ex (wholeO p o)
 rw[← hR]
 have HR:=Hq hR
 clear hR
 have HRn:=Hq (fun h=>HR.out.trans (if_neg h))
 have HRy:=Hq (fun h=>HR.out.trans (if_pos h))
 clear HR
 obtain⟨kind,slot,old,new⟩:=o
 dsimp only[copV]at HN HS HX HRn HRy ⊢
 generalize lsnB p 0=pp at HP HRn HRy
 generalize lsnB new 0=np at HN HRn HRy
 generalize ((leafP p).lsn:Nat)=l at HL HS HRy
 generalize lsnB new (l:Int)=q at HS HRy
 by_cases h1:slot=0
 rotate_left
 ·have HF:=Hq (HRn.out (fun h=>h1 h.1))
  have hne1:(slot==0)=false:=by simp[h1]
  have hne2:(slot != 0)=true:=by simp[h1]
  clear h1 HRn HRy
  go_enter Tryz.func179,Tryz.ntmps179
  go_upto_region 1 with(fail)
  generalize w.alloc (.cells #[kind,slot,old,new] 40)=V at HX ⊢
  refine rgH (S:=(fun u=>HeldCV w.heap.size ⟨kind,slot,old,new⟩ w u)) (fun hHeld=>?_) (by first|exact HX.out.v|exact hSn|exact(HX.out.step (Below.refl _ _).drew).v|exact(HX.out.step (drewB _ _)).v)
  refine tkP 0 ?_ (hy:=by intro w hSw;(try dsimp only at hSw);go_simp;(try with_reducible rfl))
  refine tkP 1 ?_ (hy:=by intro w hSw;(try dsimp only at hSw);go_simp;(try with_reducible rfl))
  refine tkP 2 ?_ (hy:=by intro w hSw;(try dsimp only at hSw);go_simp;(try with_reducible rfl))
  refine tkP 3 ?_ (hy:=by intro w hSw;(try dsimp only at hSw);go_simp;(try with_reducible rfl))
  refine tkO 4 (some 11) rfl ?_
  try simp only[Act.put,pS]
  refine tkO 5 (some 12) rfl ?_
  try simp only[Act.put,pS]
  refine tkO 6 (some 13) rfl ?_
  try simp only[Act.put,pS]
  refine tkO 7 (some 14) rfl ?_
  try simp only[Act.put,pS]
  refine tkO 8 (some 15) rfl ?_
  try simp only[Act.put,pS]
  refine tkP 9 ?_ (hy:=by intro w hSw;(try dsimp only at hSw);go_simp;(try with_reducible rfl))
  refine tkP 10 ?_ (hy:=by intro w hSw;(try dsimp only at hSw);go_simp;(try with_reducible rfl))
  refine tkO 11 (some 18) rfl ?_
  try simp only[Act.put,pS]
  refine tkO 12 (some 19) rfl ?_
  try simp only[Act.put,pS]
  refine tkO 13 (some 20) rfl ?_
  try simp only[Act.put,pS]
  refine tkP 14 ?_ (hy:=by intro w hSw;(try dsimp only at hSw);go_simp;(try with_reducible rfl))
  refine tkP 15 ?_ (hy:=by intro w hSw;(try dsimp only at hSw);go_simp;(try with_reducible rfl))
  refine tkO 16 (some 23) rfl ?_
  try simp only[Act.put,pS]
  refine tkO 17 (some 24) rfl ?_
  try simp only[Act.put,pS]
  refine tkO 18 (some 25) rfl ?_
  try simp only[Act.put,pS]
  refine tkO 19 (some 26) rfl ?_
  try simp only[Act.put,pS]
  refine tkO 20 (some 27) rfl ?_
  try simp only[Act.put,pS]
  refine tkO 21 (some 28) rfl ?_
  try simp only[Act.put,pS]
  refine tkP 22 ?_ (hy:=by intro w hSw;(try dsimp only at hSw);go_simp;(try with_reducible rfl))
  refine wpAnyH_done Kr ?_ _
  go_wp2_with fail
  go_ret2
  exact⟨by rw[HF.out];rfl,hHeld.2.2.2.2.below⟩
 ·subst h1
  by_cases h2:old=pp
  rotate_left
  ·have HF:=Hq (HRn.out (fun h=>h2 h.2.1))
   have hq:=cstr_ne h2
   clear h2 HRn HRy
   go_enter Tryz.func179,Tryz.ntmps179
   go_upto_region 1 with(fail)
   generalize w.alloc (.cells #[kind,(),old,new] 40)=V at HX ⊢
   refine rgH (S:=(fun u=>HeldCV w.heap.size ⟨kind,0,old,new⟩ w u)) (fun hHeld=>?_) (by first|exact HX.out.v|exact hSn|exact(HX.out.step (Below.refl _ _).drew).v|exact(HX.out.step (drewB _ _)).v)
   refine tkP 0 ?_ (hy:=by intro w hSw;(try dsimp only at hSw);go_simp;(try with_reducible rfl))
   refine tkP 1 ?_ (hy:=by intro w hSw;(try dsimp only at hSw);go_simp;(try with_reducible rfl))
   refine tkP 2 ?_ (hy:=by intro w hSw;(try dsimp only at hSw);go_simp;(try with_reducible rfl))
   refine tkP 3 ?_ (hy:=by intro w hSw;(try dsimp only at hSw);go_simp;(try with_reducible rfl))
   refine tkP 4 ?_ (hy:=by intro w hSw;(try dsimp only at hSw);go_simp;(try with_reducible rfl))
   refine tkP 5 ?_ (hy:=by intro w hSw;(try dsimp only at hSw);go_simp;(try with_reducible rfl))
   refine tkP 6 ?_ (hy:=by intro w hSw;(try dsimp only at hSw);go_simp;(try with_reducible rfl))
   refine rdP 7 fun K hK=>?_
   go_simp
   refine(HP.out _).mono ?_;rintro e w2 ⟨rfl,hb2⟩;have hSn:=(hHeld.2.2.2.2.step hb2).v;clear hHeld hb2;try go_simp
   refine hKo hK (fun hHeld=>?_) (by first|exact HX.out.v|exact hSn|exact(HX.out.step (Below.refl _ _).drew).v|exact(HX.out.step (drewB _ _)).v)
   clear hK K
   refine tkP 8 ?_ (hy:=by intro w hSw;(try dsimp only at hSw);go_simp;(try with_reducible rfl))
   refine tkP 9 ?_ (hy:=by intro w hSw;(try dsimp only at hSw);go_simp;(try with_reducible rfl))
   refine tkP 10 ?_ (hy:=by intro w hSw;(try dsimp only at hSw);go_simp;(try with_reducible rfl))
   refine tkO 11 (some 18) rfl ?_
   try simp only[Act.put,pS]
   refine tkO 12 (some 19) rfl ?_
   try simp only[Act.put,pS]
   refine tkO 13 (some 20) rfl ?_
   try simp only[Act.put,pS]
   refine tkP 14 ?_ (hy:=by intro w hSw;(try dsimp only at hSw);go_simp;(try with_reducible rfl))
   refine tkP 15 ?_ (hy:=by intro w hSw;(try dsimp only at hSw);go_simp;(try with_reducible rfl))
   refine tkO 16 (some 23) rfl ?_
   try simp only[Act.put,pS]
   refine tkO 17 (some 24) rfl ?_
   try simp only[Act.put,pS]
   refine tkO 18 (some 25) rfl ?_
   try simp only[Act.put,pS]
   refine tkO 19 (some 26) rfl ?_
   try simp only[Act.put,pS]
   refine tkO 20 (some 27) rfl ?_
   try simp only[Act.put,pS]
   refine tkO 21 (some 28) rfl ?_
   try simp only[Act.put,pS]
   refine tkP 22 ?_ (hy:=by intro w hSw;(try dsimp only at hSw);go_simp;(try with_reducible rfl))
   refine wpAnyH_done Kr ?_ _
   go_wp2_with fail
   go_ret2
   exact⟨by rw[HF.out];rfl,hHeld.2.2.2.2.below⟩
  ·subst h2
   have hq:(old.toList==old.toList)=true:=beq_self_eq_true _
   by_cases h3:new.size=0
   ·have HF:=Hq (HRn.out (fun h=>h.2.2.1 h3))
    obtain⟨z1,z2,z3⟩:=cstr_nil h3
    clear h3 HRn HRy
    go_enter Tryz.func179,Tryz.ntmps179
    go_upto_region 1 with(fail)
    generalize w.alloc (.cells #[kind,(),old,new] 40)=V at HX ⊢
    refine rgH (S:=(fun u=>HeldCV w.heap.size ⟨kind,0,old,new⟩ w u)) (fun hHeld=>?_) (by first|exact HX.out.v|exact hSn|exact(HX.out.step (Below.refl _ _).drew).v|exact(HX.out.step (drewB _ _)).v)
    refine tkP 0 ?_ (hy:=by intro w hSw;(try dsimp only at hSw);go_simp;(try with_reducible rfl))
    refine tkP 1 ?_ (hy:=by intro w hSw;(try dsimp only at hSw);go_simp;(try with_reducible rfl))
    refine tkP 2 ?_ (hy:=by intro w hSw;(try dsimp only at hSw);go_simp;(try with_reducible rfl))
    refine tkP 3 ?_ (hy:=by intro w hSw;(try dsimp only at hSw);go_simp;(try with_reducible rfl))
    refine tkP 4 ?_ (hy:=by intro w hSw;(try dsimp only at hSw);go_simp;(try with_reducible rfl))
    refine tkP 5 ?_ (hy:=by intro w hSw;(try dsimp only at hSw);go_simp;(try with_reducible rfl))
    refine tkP 6 ?_ (hy:=by intro w hSw;(try dsimp only at hSw);go_simp;(try with_reducible rfl))
    refine rdP 7 fun K hK=>?_
    go_simp
    refine(HP.out _).mono ?_;rintro e w2 ⟨rfl,hb2⟩;have hSn:=(hHeld.2.2.2.2.step hb2).v;clear hHeld hb2;try go_simp
    refine hKo hK (fun hHeld=>?_) (by first|exact HX.out.v|exact hSn|exact(HX.out.step (Below.refl _ _).drew).v|exact(HX.out.step (drewB _ _)).v)
    clear hK K
    refine tkP 8 ?_ (hy:=by intro w hSw;(try dsimp only at hSw);go_simp;(try with_reducible rfl))
    refine tkP 9 ?_ (hy:=by intro w hSw;(try dsimp only at hSw);go_simp;(try with_reducible rfl))
    refine tkP 10 ?_ (hy:=by intro w hSw;(try dsimp only at hSw);go_simp;(try with_reducible rfl))
    refine tkP 11 ?_ (hy:=by intro w hSw;(try dsimp only at hSw);go_simp;(try with_reducible rfl))
    refine tkP 12 ?_ (hy:=by intro w hSw;(try dsimp only at hSw);go_simp;(try with_reducible rfl))
    refine tkP 13 ?_ (hy:=by intro w hSw;(try dsimp only at hSw);go_simp;(try with_reducible rfl))
    refine tkP 14 ?_ (hy:=by intro w hSw;(try dsimp only at hSw);go_simp;(try with_reducible rfl))
    refine tkP 15 ?_ (hy:=by intro w hSw;(try dsimp only at hSw);go_simp;(try with_reducible rfl))
    refine tkO 16 (some 23) rfl ?_
    try simp only[Act.put,pS]
    refine tkO 17 (some 24) rfl ?_
    try simp only[Act.put,pS]
    refine tkO 18 (some 25) rfl ?_
    try simp only[Act.put,pS]
    refine tkO 19 (some 26) rfl ?_
    try simp only[Act.put,pS]
    refine tkO 20 (some 27) rfl ?_
    try simp only[Act.put,pS]
    refine tkO 21 (some 28) rfl ?_
    try simp only[Act.put,pS]
    refine tkP 22 ?_ (hy:=by intro w hSw;(try dsimp only at hSw);go_simp;(try with_reducible rfl))
    refine wpAnyH_done Kr ?_ _
    go_wp2_with fail
    go_ret2
    exact⟨by rw[HF.out];rfl,hHeld.2.2.2.2.below⟩
   ·obtain⟨z1,z2,z3⟩:=cstr_some h3
    by_cases h4:np=new
    rotate_left
    ·have HF:=Hq (HRn.out (fun h=>h4 h.2.2.2))
     have hq2:=cstr_ne h4
     clear h4 h3 HRn HRy
     go_enter Tryz.func179,Tryz.ntmps179
     go_upto_region 1 with(fail)
     generalize w.alloc (.cells #[kind,(),old,new] 40)=V at HX ⊢
     refine rgH (S:=(fun u=>HeldCV w.heap.size ⟨kind,0,old,new⟩ w u)) (fun hHeld=>?_) (by first|exact HX.out.v|exact hSn|exact(HX.out.step (Below.refl _ _).drew).v|exact(HX.out.step (drewB _ _)).v)
     refine tkP 0 ?_ (hy:=by intro w hSw;(try dsimp only at hSw);go_simp;(try with_reducible rfl))
     refine tkP 1 ?_ (hy:=by intro w hSw;(try dsimp only at hSw);go_simp;(try with_reducible rfl))
     refine tkP 2 ?_ (hy:=by intro w hSw;(try dsimp only at hSw);go_simp;(try with_reducible rfl))
     refine tkP 3 ?_ (hy:=by intro w hSw;(try dsimp only at hSw);go_simp;(try with_reducible rfl))
     refine tkP 4 ?_ (hy:=by intro w hSw;(try dsimp only at hSw);go_simp;(try with_reducible rfl))
     refine tkP 5 ?_ (hy:=by intro w hSw;(try dsimp only at hSw);go_simp;(try with_reducible rfl))
     refine tkP 6 ?_ (hy:=by intro w hSw;(try dsimp only at hSw);go_simp;(try with_reducible rfl))
     refine rdP 7 fun K hK=>?_
     go_simp
     refine(HP.out _).mono ?_;rintro e w2 ⟨rfl,hb2⟩;have hSn:=(hHeld.2.2.2.2.step hb2).v;clear hHeld hb2;try go_simp
     refine hKo hK (fun hHeld=>?_) (by first|exact HX.out.v|exact hSn|exact(HX.out.step (Below.refl _ _).drew).v|exact(HX.out.step (drewB _ _)).v)
     clear hK K
     refine tkP 8 ?_ (hy:=by intro w hSw;(try dsimp only at hSw);go_simp;(try with_reducible rfl))
     refine tkP 9 ?_ (hy:=by intro w hSw;(try dsimp only at hSw);go_simp;(try with_reducible rfl))
     refine tkP 10 ?_ (hy:=by intro w hSw;(try dsimp only at hSw);go_simp;(try with_reducible rfl))
     refine tkP 11 ?_ (hy:=by intro w hSw;(try dsimp only at hSw);go_simp;(try with_reducible rfl))
     refine tkP 12 ?_ (hy:=by intro w hSw;(try dsimp only at hSw);go_simp;(try with_reducible rfl))
     refine tkP 13 ?_ (hy:=by intro w hSw;(try dsimp only at hSw);go_simp;(try with_reducible rfl))
     refine tkP 14 ?_ (hy:=by intro w hSw;(try dsimp only at hSw);go_simp;(try with_reducible rfl))
     refine tkP 15 ?_ (hy:=by intro w hSw;(try dsimp only at hSw);go_simp;(try with_reducible rfl))
     refine tkP 16 ?_ (hy:=by intro w hSw;(try dsimp only at hSw);go_simp;(try with_reducible rfl))
     refine tkP 17 ?_ (hy:=by intro w hSw;(try dsimp only at hSw);go_simp;(try with_reducible rfl))
     refine tkP 19 ?_ (hy:=by intro w hSw;(try dsimp only at hSw);go_simp;(try with_reducible rfl))
     refine tkP 20 ?_ (hy:=by intro w hSw;(try dsimp only at hSw);go_simp;(try with_reducible rfl))
     refine rdP 18 fun K hK=>?_
     go_simp
     refine(HN.out _).mono ?_;rintro e w2 ⟨rfl,hb2⟩;have hSn:=(hHeld.2.2.2.2.step hb2).v;clear hHeld hb2;try go_simp
     refine hKo hK (fun hHeld=>?_) (by first|exact HX.out.v|exact hSn|exact(HX.out.step (Below.refl _ _).drew).v|exact(HX.out.step (drewB _ _)).v)
     clear hK K
     refine tkP 21 ?_ (hy:=by intro w hSw;(try dsimp only at hSw);go_simp;(try with_reducible rfl))
     refine tkP 22 ?_ (hy:=by intro w hSw;(try dsimp only at hSw);go_simp;(try with_reducible rfl))
     refine wpAnyH_done Kr ?_ _
     go_wp2_with fail
     go_ret2
     exact⟨by rw[HF.out];rfl,hHeld.2.2.2.2.below⟩
    ·subst h4
     have hq2:(np.toList==np.toList)=true:=beq_self_eq_true _
     have HF:=Hq (HRy.out ⟨rfl,rfl,h3,rfl⟩)
     clear h3 HRn HRy
     go_enter Tryz.func179,Tryz.ntmps179
     go_upto_region 1 with(fail)
     generalize w.alloc (.cells #[kind,(),old,np] 40)=V at HX ⊢
     refine rgH (S:=(fun u=>HeldCV w.heap.size ⟨kind,0,old,np⟩ w u)) (fun hHeld=>?_) (by first|exact HX.out.v|exact hSn|exact(HX.out.step (Below.refl _ _).drew).v|exact(HX.out.step (drewB _ _)).v)
     refine tkP 0 ?_ (hy:=by intro w hSw;(try dsimp only at hSw);go_simp;(try with_reducible rfl))
     refine tkP 1 ?_ (hy:=by intro w hSw;(try dsimp only at hSw);go_simp;(try with_reducible rfl))
     refine tkP 2 ?_ (hy:=by intro w hSw;(try dsimp only at hSw);go_simp;(try with_reducible rfl))
     refine tkP 3 ?_ (hy:=by intro w hSw;(try dsimp only at hSw);go_simp;(try with_reducible rfl))
     refine tkP 4 ?_ (hy:=by intro w hSw;(try dsimp only at hSw);go_simp;(try with_reducible rfl))
     refine tkP 5 ?_ (hy:=by intro w hSw;(try dsimp only at hSw);go_simp;(try with_reducible rfl))
     refine tkP 6 ?_ (hy:=by intro w hSw;(try dsimp only at hSw);go_simp;(try with_reducible rfl))
     refine rdP 7 fun K hK=>?_
     go_simp
     refine(HP.out _).mono ?_;rintro e w2 ⟨rfl,hb2⟩;have hSn:=(hHeld.2.2.2.2.step hb2).v;clear hHeld hb2;try go_simp
     refine hKo hK (fun hHeld=>?_) (by first|exact HX.out.v|exact hSn|exact(HX.out.step (Below.refl _ _).drew).v|exact(HX.out.step (drewB _ _)).v)
     clear hK K
     refine tkP 8 ?_ (hy:=by intro w hSw;(try dsimp only at hSw);go_simp;(try with_reducible rfl))
     refine tkP 9 ?_ (hy:=by intro w hSw;(try dsimp only at hSw);go_simp;(try with_reducible rfl))
     refine tkP 10 ?_ (hy:=by intro w hSw;(try dsimp only at hSw);go_simp;(try with_reducible rfl))
     refine tkP 11 ?_ (hy:=by intro w hSw;(try dsimp only at hSw);go_simp;(try with_reducible rfl))
     refine tkP 12 ?_ (hy:=by intro w hSw;(try dsimp only at hSw);go_simp;(try with_reducible rfl))
     refine tkP 13 ?_ (hy:=by intro w hSw;(try dsimp only at hSw);go_simp;(try with_reducible rfl))
     refine tkP 14 ?_ (hy:=by intro w hSw;(try dsimp only at hSw);go_simp;(try with_reducible rfl))
     refine tkP 15 ?_ (hy:=by intro w hSw;(try dsimp only at hSw);go_simp;(try with_reducible rfl))
     refine tkP 16 ?_ (hy:=by intro w hSw;(try dsimp only at hSw);go_simp;(try with_reducible rfl))
     refine tkP 17 ?_ (hy:=by intro w hSw;(try dsimp only at hSw);go_simp;(try with_reducible rfl))
     refine tkP 19 ?_ (hy:=by intro w hSw;(try dsimp only at hSw);go_simp;(try with_reducible rfl))
     refine tkP 20 ?_ (hy:=by intro w hSw;(try dsimp only at hSw);go_simp;(try with_reducible rfl))
     refine rdP 18 fun K hK=>?_
     go_simp
     refine(HN.out _).mono ?_;rintro e w2 ⟨rfl,hb2⟩;have hSn:=(hHeld.2.2.2.2.step hb2).v;clear hHeld hb2;try go_simp
     refine hKo hK (fun hHeld=>?_) (by first|exact HX.out.v|exact hSn|exact(HX.out.step (Below.refl _ _).drew).v|exact(HX.out.step (drewB _ _)).v)
     clear hK K
     refine tkP 21 ?_ (hy:=by intro w hSw;(try dsimp only at hSw);go_simp;(try with_reducible rfl))
     refine tkP 22 ?_ (hy:=by intro w hSw;(try dsimp only at hSw);go_simp;(try with_reducible rfl))
     refine wpAnyH_done Kr ?_ _
     have HX2:=Hq hHeld.2.2.2.2
     clear hHeld hSn
     go_upto_region 3 with(fail)
     refine rgH (S:=(fun u=>HeldCV w.heap.size ⟨kind,0,old,np⟩ w u)) (fun hHeld=>?_) (by first|exact HX2.out.v|exact hSn|exact(HX2.out.step (Below.refl _ _).drew).v|exact(HX2.out.step (drewB _ _)).v)
     refine tkP 0 ?_ (hy:=by intro w hSw;(try dsimp only at hSw);go_simp;(try with_reducible rfl))
     refine tkP 1 ?_ (hy:=by intro w hSw;(try dsimp only at hSw);go_simp;(try with_reducible rfl))
     refine tkP 2 ?_ (hy:=by intro w hSw;(try dsimp only at hSw);go_simp;(try with_reducible rfl))
     refine rdP 3 fun K hK=>?_
     go_simp
     refine(HL.out _).mono ?_;rintro e w2 ⟨rfl,hb2⟩;have hSn:=(hHeld.2.2.2.2.step hb2).v;clear hHeld hb2;try go_simp
     refine hKo hK (fun hHeld=>?_) (by first|exact HX2.out.v|exact hSn|exact(HX2.out.step (Below.refl _ _).drew).v|exact(HX2.out.step (drewB _ _)).v)
     clear hK K
     refine rdP 4 fun K hK=>?_
     go_simp
     refine(HS.out _).mono ?_;rintro e w2 ⟨rfl,hb2⟩;have hSn:=(hHeld.2.2.2.2.step hb2).v;clear hHeld hb2;try go_simp
     refine hKo hK (fun hHeld=>?_) (by first|exact HX2.out.v|exact hSn|exact(HX2.out.step (Below.refl _ _).drew).v|exact(HX2.out.step (drewB _ _)).v)
     clear hK K
     refine tkP 5 ?_ (hy:=by intro w hSw;(try dsimp only at hSw);go_simp;(try with_reducible rfl))
     refine wpAnyH_done Kr ?_ _
     by_cases h5:q.size=0
     ·obtain⟨y1,y2,y3⟩:=cstr_nil h5
      have HQ:=Hq (decide_eq_true h5)
      clear h5
      go_wp2_with fail
      go_ret2
      exact⟨by rw[HF.out,HQ.out];simp,hHeld.2.2.2.2.below⟩
     ·obtain⟨y1,y2,y3⟩:=cstr_some h5
      have HQ:=Hq (decide_eq_false h5)
      clear h5
      go_wp2_with fail
      go_ret2
      exact⟨by rw[HF.out,HQ.out];simp,hHeld.2.2.2.2.below⟩
theorem atoi_bound {l:List UInt8}{v:Int}(h:Lib.atoiAll l= .ok v): -9223372036854775808≤v∧v≤9223372036854775807:=by
 cases l with
 |nil=>cases h
 |cons c r=>
  simp only[Lib.atoiAll]at h
  cases hm:Lib.parseMag (if c.toNat=43∨c.toNat=45 then r else c::r)
  ·rename_i u
   rw[hm]at h
   simp only at h
   split at h
   ·cases h
   ·split at h
    ·cases h
    ·injection h with h
     subst h
     split<;>omega
  ·rw[hm]at h;cases h
  ·rw[hm]at h;cases h
theorem linked_bad {p:ByteArray}{o:Cop}(h:∀ v,Lib.atoiAll o.new.data.toList≠ .ok v):linkedO p o=noPage:=by
 unfold linkedO
 split
 ·rename_i v hv;exact absurd hv (h v)
 ·rfl
theorem linked_good {p:ByteArray}{o:Cop}{n:Int}(h:Lib.atoiAll o.new.data.toList= .ok n):linkedO p o=if itoaB n=o.new∧o.old=itoaB ((leafP p).link:Nat)∧o.slot=0 then(linkB p n,!decide ((linkB p n).size=0))else noPage:=by
 unfold linkedO
 rw[h]
theorem linked_any (p:ByteArray)(o:Cop)(hp:p.size≤140737488355328)(ho:o.new.size≤140737488355328)(w:World)(hv:Vars w):
 Calls Tryz.prog 178 #[p,copV o] w fun e w'=>e= .returned (.tuple #[.string (linkedO p o).1,.bool (linkedO p o).2])∧Below w.heap.size w w':=by
 have HX0:=Hq (heldC_new w o 40)
 have HV0:=Hq hv
 clear hv
 obtain⟨R,hR⟩:=ex (linkedO p o)
 rw[← hR]
 have HR:=Hq hR
 clear hR
 by_cases hok:∃ v,Lib.atoiAll o.new.data.toList= .ok v
 rotate_left
 ·have hbad:∀ v,Lib.atoiAll o.new.data.toList≠ .ok v:=fun v hv=>hok ⟨v,hv⟩
  have HF:=Hq (HR.out.trans (linked_bad hbad))
  have HA:=Hq (fun W hW=>atoi_bad o.new (by omega) hbad W hW)
  clear hok hbad HR
  obtain⟨kind,slot,old,new⟩:=o
  dsimp only[copV]at HX0 HA HF ⊢
  go_enter Tryz.func178,Tryz.ntmps178
  go_upto_region 2 with((go_at_call 209;refine(HA.out _ (HV0.out.below (allocB _ _))).mono ?_;rintro e w1 ⟨n,pp,rfl,hb1⟩))
  have HX:=Hq (HX0.out.step hb1)
  have HV:=Hq (HV0.out.below (joinB (allocB _ _) hb1))
  clear HX0 HV0 hb1
  refine rgH (S:=(fun u=>HeldCV w.heap.size ⟨kind,slot,old,new⟩ w u∧Vars u)) (fun hHeld=>?_) (by first|exact⟨HX.out.v,HV.out⟩|exact hSn|exact⟨(HX.out.step (Below.refl _ _).drew).v,HV.out.below (Below.refl _ _).drew⟩)
  refine tkP 0 ?_ (hy:=by intro w hSw;(try dsimp only at hSw);go_simp;(try with_reducible rfl))
  refine tkP 1 ?_ (hy:=by intro w hSw;(try dsimp only at hSw);go_simp;(try with_reducible rfl))
  refine tkP 2 ?_ (hy:=by intro w hSw;(try dsimp only at hSw);go_simp;(try with_reducible rfl))
  refine tkO 3 (some 18) rfl ?_
  try simp only[Act.put,pS]
  refine tkO 4 (some 19) rfl ?_
  try simp only[Act.put,pS]
  refine tkO 5 (some 20) rfl ?_
  try simp only[Act.put,pS]
  refine tkO 6 (some 21) rfl ?_
  try simp only[Act.put,pS]
  refine tkO 7 (some 22) rfl ?_
  try simp only[Act.put,pS]
  refine tkP 8 ?_ (hy:=by intro w hSw;(try dsimp only at hSw);go_simp;(try with_reducible rfl))
  refine tkP 9 ?_ (hy:=by intro w hSw;(try dsimp only at hSw);go_simp;(try with_reducible rfl))
  refine tkO 10 (some 25) rfl ?_
  try simp only[Act.put,pS]
  refine tkO 11 (some 26) rfl ?_
  try simp only[Act.put,pS]
  refine tkO 12 (some 27) rfl ?_
  try simp only[Act.put,pS]
  refine tkO 13 (some 28) rfl ?_
  try simp only[Act.put,pS]
  refine tkO 14 (some 29) rfl ?_
  try simp only[Act.put,pS]
  refine tkO 15 (some 30) rfl ?_
  try simp only[Act.put,pS]
  refine tkP 16 ?_ (hy:=by intro w hSw;(try dsimp only at hSw);go_simp;(try with_reducible rfl))
  refine tkP 17 ?_ (hy:=by intro w hSw;(try dsimp only at hSw);go_simp;(try with_reducible rfl))
  refine tkO 18 (some 33) rfl ?_
  try simp only[Act.put,pS]
  refine tkO 19 (some 34) rfl ?_
  try simp only[Act.put,pS]
  refine tkO 20 (some 35) rfl ?_
  try simp only[Act.put,pS]
  refine tkP 21 ?_ (hy:=by intro w hSw;(try dsimp only at hSw);go_simp;(try with_reducible rfl))
  refine wpAnyH_done Kr ?_ _
  go_wp2_with fail
  go_ret2
  exact⟨by rw[HF.out];rfl,hHeld.1.2.2.2.2.below⟩
 ·obtain⟨n,hn⟩:=hok
  obtain⟨b1,b2⟩:=atoi_bound hn
  have HA:=Hq (fun W=>atoi_good o.new (by omega) n hn W)
  have HR2:=Hq (HR.out.trans (linked_good hn))
  have HI:=Hq (fun W hW=>itoa_any n b1 b2 W hW)
  have HK:=Hq (fun W=>link_any p hp W)
  have HJ:=Hq (fun W hW=>itoa_any ((leafP p).link:Nat) (by omega) (by have:=link_small p;omega) W hW)
  have HS:=Hq (fun W=>setlink_any p n hp W)
  have HRn:=Hq (fun h=>HR2.out.trans (if_neg h))
  have HRy:=Hq (fun h=>HR2.out.trans (if_pos h))
  clear hn HR HR2
  obtain⟨kind,slot,old,new⟩:=o
  dsimp only[copV]at HX0 HA HRn HRy ⊢
  generalize itoaB n=tn at HI HRn HRy
  generalize itoaB ((leafP p).link:Nat)=tk at HJ HRn HRy
  generalize ((leafP p).link:Nat)=k at HK HJ
  generalize linkB p n=q at HS HRy
  by_cases h1:tn=new
  rotate_left
  ·have HF:=Hq (HRn.out (fun h=>h1 h.1))
   have hq:=cstr_ne h1
   clear h1 HRn HRy
   go_enter Tryz.func178,Tryz.ntmps178
   go_upto_region 2 with((go_at_call 209;refine(HA.out _).mono ?_;rintro e w1 ⟨rfl,hb1⟩))
   have HX:=Hq (HX0.out.step hb1)
   have HV:=Hq (HV0.out.below (joinB (allocB _ _) hb1))
   clear HX0 HV0 hb1
   refine rgH (S:=(fun u=>HeldCV w.heap.size ⟨kind,slot,old,new⟩ w u∧Vars u)) (fun hHeld=>?_) (by first|exact⟨HX.out.v,HV.out⟩|exact hSn|exact⟨(HX.out.step (Below.refl _ _).drew).v,HV.out.below (Below.refl _ _).drew⟩)
   refine tkP 0 ?_ (hy:=by intro w hSw;(try dsimp only at hSw);go_simp;(try with_reducible rfl))
   refine tkP 1 ?_ (hy:=by intro w hSw;(try dsimp only at hSw);go_simp;(try with_reducible rfl))
   refine tkP 2 ?_ (hy:=by intro w hSw;(try dsimp only at hSw);go_simp;(try with_reducible rfl))
   refine tkP 3 ?_ (hy:=by intro w hSw;(try dsimp only at hSw);go_simp;(try with_reducible rfl))
   refine tkP 5 ?_ (hy:=by intro w hSw;(try dsimp only at hSw);go_simp;(try with_reducible rfl))
   refine tkP 6 ?_ (hy:=by intro w hSw;(try dsimp only at hSw);go_simp;(try with_reducible rfl))
   refine rdP 4 fun K hK=>?_
   go_simp
   refine(HI.out _ hHeld.2).mono ?_;rintro e w2 ⟨rfl,hb2⟩;have hSn:=And.intro (hHeld.1.2.2.2.2.step hb2).v (hHeld.2.below hb2);clear hHeld hb2;try go_simp
   refine hKo hK (fun hHeld=>?_) (by first|exact⟨HX.out.v,HV.out⟩|exact hSn|exact⟨(HX.out.step (Below.refl _ _).drew).v,HV.out.below (Below.refl _ _).drew⟩)
   clear hK K
   refine tkP 7 ?_ (hy:=by intro w hSw;(try dsimp only at hSw);go_simp;(try with_reducible rfl))
   refine tkP 8 ?_ (hy:=by intro w hSw;(try dsimp only at hSw);go_simp;(try with_reducible rfl))
   refine tkP 9 ?_ (hy:=by intro w hSw;(try dsimp only at hSw);go_simp;(try with_reducible rfl))
   refine tkO 10 (some 25) rfl ?_
   try simp only[Act.put,pS]
   refine tkO 11 (some 26) rfl ?_
   try simp only[Act.put,pS]
   refine tkO 12 (some 27) rfl ?_
   try simp only[Act.put,pS]
   refine tkO 13 (some 28) rfl ?_
   try simp only[Act.put,pS]
   refine tkO 14 (some 29) rfl ?_
   try simp only[Act.put,pS]
   refine tkO 15 (some 30) rfl ?_
   try simp only[Act.put,pS]
   refine tkP 16 ?_ (hy:=by intro w hSw;(try dsimp only at hSw);go_simp;(try with_reducible rfl))
   refine tkP 17 ?_ (hy:=by intro w hSw;(try dsimp only at hSw);go_simp;(try with_reducible rfl))
   refine tkO 18 (some 33) rfl ?_
   try simp only[Act.put,pS]
   refine tkO 19 (some 34) rfl ?_
   try simp only[Act.put,pS]
   refine tkO 20 (some 35) rfl ?_
   try simp only[Act.put,pS]
   refine tkP 21 ?_ (hy:=by intro w hSw;(try dsimp only at hSw);go_simp;(try with_reducible rfl))
   refine wpAnyH_done Kr ?_ _
   go_wp2_with fail
   go_ret2
   exact⟨by rw[HF.out];rfl,hHeld.1.2.2.2.2.below⟩
  ·subst h1
   have hq:(tn.toList==tn.toList)=true:=beq_self_eq_true _
   by_cases h2:old=tk
   rotate_left
   ·have HF:=Hq (HRn.out (fun h=>h2 h.2.1))
    have hq2:=cstr_ne h2
    clear h2 HRn HRy
    go_enter Tryz.func178,Tryz.ntmps178
    go_upto_region 2 with((go_at_call 209;refine(HA.out _).mono ?_;rintro e w1 ⟨rfl,hb1⟩))
    have HX:=Hq (HX0.out.step hb1)
    have HV:=Hq (HV0.out.below (joinB (allocB _ _) hb1))
    clear HX0 HV0 hb1
    refine rgH (S:=(fun u=>HeldCV w.heap.size ⟨kind,slot,old,tn⟩ w u∧Vars u)) (fun hHeld=>?_) (by first|exact⟨HX.out.v,HV.out⟩|exact hSn|exact⟨(HX.out.step (Below.refl _ _).drew).v,HV.out.below (Below.refl _ _).drew⟩)
    refine tkP 0 ?_ (hy:=by intro w hSw;(try dsimp only at hSw);go_simp;(try with_reducible rfl))
    refine tkP 1 ?_ (hy:=by intro w hSw;(try dsimp only at hSw);go_simp;(try with_reducible rfl))
    refine tkP 2 ?_ (hy:=by intro w hSw;(try dsimp only at hSw);go_simp;(try with_reducible rfl))
    refine tkP 3 ?_ (hy:=by intro w hSw;(try dsimp only at hSw);go_simp;(try with_reducible rfl))
    refine tkP 5 ?_ (hy:=by intro w hSw;(try dsimp only at hSw);go_simp;(try with_reducible rfl))
    refine tkP 6 ?_ (hy:=by intro w hSw;(try dsimp only at hSw);go_simp;(try with_reducible rfl))
    refine rdP 4 fun K hK=>?_
    go_simp
    refine(HI.out _ hHeld.2).mono ?_;rintro e w2 ⟨rfl,hb2⟩;have hSn:=And.intro (hHeld.1.2.2.2.2.step hb2).v (hHeld.2.below hb2);clear hHeld hb2;try go_simp
    refine hKo hK (fun hHeld=>?_) (by first|exact⟨HX.out.v,HV.out⟩|exact hSn|exact⟨(HX.out.step (Below.refl _ _).drew).v,HV.out.below (Below.refl _ _).drew⟩)
    clear hK K
    refine tkP 7 ?_ (hy:=by intro w hSw;(try dsimp only at hSw);go_simp;(try with_reducible rfl))
    refine tkP 8 ?_ (hy:=by intro w hSw;(try dsimp only at hSw);go_simp;(try with_reducible rfl))
    refine tkP 9 ?_ (hy:=by intro w hSw;(try dsimp only at hSw);go_simp;(try with_reducible rfl))
    refine tkP 10 ?_ (hy:=by intro w hSw;(try dsimp only at hSw);go_simp;(try with_reducible rfl))
    refine tkP 11 ?_ (hy:=by intro w hSw;(try dsimp only at hSw);go_simp;(try with_reducible rfl))
    refine tkP 12 ?_ (hy:=by intro w hSw;(try dsimp only at hSw);go_simp;(try with_reducible rfl))
    refine rdP 13 fun K hK=>?_
    go_simp
    refine(HK.out _).mono ?_;rintro e w2 ⟨rfl,hb2⟩;have hSn:=And.intro (hHeld.1.2.2.2.2.step hb2).v (hHeld.2.below hb2);clear hHeld hb2;try go_simp
    refine hKo hK (fun hHeld=>?_) (by first|exact⟨HX.out.v,HV.out⟩|exact hSn|exact⟨(HX.out.step (Below.refl _ _).drew).v,HV.out.below (Below.refl _ _).drew⟩)
    clear hK K
    refine rdP 14 fun K hK=>?_
    go_simp
    refine(HJ.out _ hHeld.2).mono ?_;rintro e w2 ⟨rfl,hb2⟩;have hSn:=And.intro (hHeld.1.2.2.2.2.step hb2).v (hHeld.2.below hb2);clear hHeld hb2;try go_simp
    refine hKo hK (fun hHeld=>?_) (by first|exact⟨HX.out.v,HV.out⟩|exact hSn|exact⟨(HX.out.step (Below.refl _ _).drew).v,HV.out.below (Below.refl _ _).drew⟩)
    clear hK K
    refine tkP 15 ?_ (hy:=by intro w hSw;(try dsimp only at hSw);go_simp;(try with_reducible rfl))
    refine tkP 16 ?_ (hy:=by intro w hSw;(try dsimp only at hSw);go_simp;(try with_reducible rfl))
    refine tkP 17 ?_ (hy:=by intro w hSw;(try dsimp only at hSw);go_simp;(try with_reducible rfl))
    refine tkO 18 (some 33) rfl ?_
    try simp only[Act.put,pS]
    refine tkO 19 (some 34) rfl ?_
    try simp only[Act.put,pS]
    refine tkO 20 (some 35) rfl ?_
    try simp only[Act.put,pS]
    refine tkP 21 ?_ (hy:=by intro w hSw;(try dsimp only at hSw);go_simp;(try with_reducible rfl))
    refine wpAnyH_done Kr ?_ _
    go_wp2_with fail
    go_ret2
    exact⟨by rw[HF.out];rfl,hHeld.1.2.2.2.2.below⟩
   ·subst h2
    have hq2:(old.toList==old.toList)=true:=beq_self_eq_true _
    by_cases h3:slot=0
    rotate_left
    ·have HF:=Hq (HRn.out (fun h=>h3 h.2.2))
     have hne1:(slot==0)=false:=by simp[h3]
     have hne2:(slot != 0)=true:=by simp[h3]
     clear h3 HRn HRy
     go_enter Tryz.func178,Tryz.ntmps178
     go_upto_region 2 with((go_at_call 209;refine(HA.out _).mono ?_;rintro e w1 ⟨rfl,hb1⟩))
     have HX:=Hq (HX0.out.step hb1)
     have HV:=Hq (HV0.out.below (joinB (allocB _ _) hb1))
     clear HX0 HV0 hb1
     refine rgH (S:=(fun u=>HeldCV w.heap.size ⟨kind,slot,old,tn⟩ w u∧Vars u)) (fun hHeld=>?_) (by first|exact⟨HX.out.v,HV.out⟩|exact hSn|exact⟨(HX.out.step (Below.refl _ _).drew).v,HV.out.below (Below.refl _ _).drew⟩)
     refine tkP 0 ?_ (hy:=by intro w hSw;(try dsimp only at hSw);go_simp;(try with_reducible rfl))
     refine tkP 1 ?_ (hy:=by intro w hSw;(try dsimp only at hSw);go_simp;(try with_reducible rfl))
     refine tkP 2 ?_ (hy:=by intro w hSw;(try dsimp only at hSw);go_simp;(try with_reducible rfl))
     refine tkP 3 ?_ (hy:=by intro w hSw;(try dsimp only at hSw);go_simp;(try with_reducible rfl))
     refine tkP 5 ?_ (hy:=by intro w hSw;(try dsimp only at hSw);go_simp;(try with_reducible rfl))
     refine tkP 6 ?_ (hy:=by intro w hSw;(try dsimp only at hSw);go_simp;(try with_reducible rfl))
     refine rdP 4 fun K hK=>?_
     go_simp
     refine(HI.out _ hHeld.2).mono ?_;rintro e w2 ⟨rfl,hb2⟩;have hSn:=And.intro (hHeld.1.2.2.2.2.step hb2).v (hHeld.2.below hb2);clear hHeld hb2;try go_simp
     refine hKo hK (fun hHeld=>?_) (by first|exact⟨HX.out.v,HV.out⟩|exact hSn|exact⟨(HX.out.step (Below.refl _ _).drew).v,HV.out.below (Below.refl _ _).drew⟩)
     clear hK K
     refine tkP 7 ?_ (hy:=by intro w hSw;(try dsimp only at hSw);go_simp;(try with_reducible rfl))
     refine tkP 8 ?_ (hy:=by intro w hSw;(try dsimp only at hSw);go_simp;(try with_reducible rfl))
     refine tkP 9 ?_ (hy:=by intro w hSw;(try dsimp only at hSw);go_simp;(try with_reducible rfl))
     refine tkP 10 ?_ (hy:=by intro w hSw;(try dsimp only at hSw);go_simp;(try with_reducible rfl))
     refine tkP 11 ?_ (hy:=by intro w hSw;(try dsimp only at hSw);go_simp;(try with_reducible rfl))
     refine tkP 12 ?_ (hy:=by intro w hSw;(try dsimp only at hSw);go_simp;(try with_reducible rfl))
     refine rdP 13 fun K hK=>?_
     go_simp
     refine(HK.out _).mono ?_;rintro e w2 ⟨rfl,hb2⟩;have hSn:=And.intro (hHeld.1.2.2.2.2.step hb2).v (hHeld.2.below hb2);clear hHeld hb2;try go_simp
     refine hKo hK (fun hHeld=>?_) (by first|exact⟨HX.out.v,HV.out⟩|exact hSn|exact⟨(HX.out.step (Below.refl _ _).drew).v,HV.out.below (Below.refl _ _).drew⟩)
     clear hK K
     refine rdP 14 fun K hK=>?_
     go_simp
     refine(HJ.out _ hHeld.2).mono ?_;rintro e w2 ⟨rfl,hb2⟩;have hSn:=And.intro (hHeld.1.2.2.2.2.step hb2).v (hHeld.2.below hb2);clear hHeld hb2;try go_simp
     refine hKo hK (fun hHeld=>?_) (by first|exact⟨HX.out.v,HV.out⟩|exact hSn|exact⟨(HX.out.step (Below.refl _ _).drew).v,HV.out.below (Below.refl _ _).drew⟩)
     clear hK K
     refine tkP 15 ?_ (hy:=by intro w hSw;(try dsimp only at hSw);go_simp;(try with_reducible rfl))
     refine tkP 16 ?_ (hy:=by intro w hSw;(try dsimp only at hSw);go_simp;(try with_reducible rfl))
     refine tkP 17 ?_ (hy:=by intro w hSw;(try dsimp only at hSw);go_simp;(try with_reducible rfl))
     refine tkP 18 ?_ (hy:=by intro w hSw;(try dsimp only at hSw);go_simp;(try with_reducible rfl))
     refine tkP 19 ?_ (hy:=by intro w hSw;(try dsimp only at hSw);go_simp;(try with_reducible rfl))
     refine tkP 20 ?_ (hy:=by intro w hSw;(try dsimp only at hSw);go_simp;(try with_reducible rfl))
     refine tkP 21 ?_ (hy:=by intro w hSw;(try dsimp only at hSw);go_simp;(try with_reducible rfl))
     refine wpAnyH_done Kr ?_ _
     go_wp2_with fail
     go_ret2
     exact⟨by rw[HF.out];rfl,hHeld.1.2.2.2.2.below⟩
    ·subst h3
     have HF:=Hq (HRy.out ⟨rfl,rfl,rfl⟩)
     clear HRn HRy
     go_enter Tryz.func178,Tryz.ntmps178
     go_upto_region 2 with((go_at_call 209;refine(HA.out _).mono ?_;rintro e w1 ⟨rfl,hb1⟩))
     have HX:=Hq (HX0.out.step hb1)
     have HV:=Hq (HV0.out.below (joinB (allocB _ _) hb1))
     clear HX0 HV0 hb1
     refine rgH (S:=(fun u=>HeldCV w.heap.size ⟨kind,0,old,tn⟩ w u∧Vars u)) (fun hHeld=>?_) (by first|exact⟨HX.out.v,HV.out⟩|exact hSn|exact⟨(HX.out.step (Below.refl _ _).drew).v,HV.out.below (Below.refl _ _).drew⟩)
     refine tkP 0 ?_ (hy:=by intro w hSw;(try dsimp only at hSw);go_simp;(try with_reducible rfl))
     refine tkP 1 ?_ (hy:=by intro w hSw;(try dsimp only at hSw);go_simp;(try with_reducible rfl))
     refine tkP 2 ?_ (hy:=by intro w hSw;(try dsimp only at hSw);go_simp;(try with_reducible rfl))
     refine tkP 3 ?_ (hy:=by intro w hSw;(try dsimp only at hSw);go_simp;(try with_reducible rfl))
     refine tkP 5 ?_ (hy:=by intro w hSw;(try dsimp only at hSw);go_simp;(try with_reducible rfl))
     refine tkP 6 ?_ (hy:=by intro w hSw;(try dsimp only at hSw);go_simp;(try with_reducible rfl))
     refine rdP 4 fun K hK=>?_
     go_simp
     refine(HI.out _ hHeld.2).mono ?_;rintro e w2 ⟨rfl,hb2⟩;have hSn:=And.intro (hHeld.1.2.2.2.2.step hb2).v (hHeld.2.below hb2);clear hHeld hb2;try go_simp
     refine hKo hK (fun hHeld=>?_) (by first|exact⟨HX.out.v,HV.out⟩|exact hSn|exact⟨(HX.out.step (Below.refl _ _).drew).v,HV.out.below (Below.refl _ _).drew⟩)
     clear hK K
     refine tkP 7 ?_ (hy:=by intro w hSw;(try dsimp only at hSw);go_simp;(try with_reducible rfl))
     refine tkP 8 ?_ (hy:=by intro w hSw;(try dsimp only at hSw);go_simp;(try with_reducible rfl))
     refine tkP 9 ?_ (hy:=by intro w hSw;(try dsimp only at hSw);go_simp;(try with_reducible rfl))
     refine tkP 10 ?_ (hy:=by intro w hSw;(try dsimp only at hSw);go_simp;(try with_reducible rfl))
     refine tkP 11 ?_ (hy:=by intro w hSw;(try dsimp only at hSw);go_simp;(try with_reducible rfl))
     refine tkP 12 ?_ (hy:=by intro w hSw;(try dsimp only at hSw);go_simp;(try with_reducible rfl))
     refine rdP 13 fun K hK=>?_
     go_simp
     refine(HK.out _).mono ?_;rintro e w2 ⟨rfl,hb2⟩;have hSn:=And.intro (hHeld.1.2.2.2.2.step hb2).v (hHeld.2.below hb2);clear hHeld hb2;try go_simp
     refine hKo hK (fun hHeld=>?_) (by first|exact⟨HX.out.v,HV.out⟩|exact hSn|exact⟨(HX.out.step (Below.refl _ _).drew).v,HV.out.below (Below.refl _ _).drew⟩)
     clear hK K
     refine rdP 14 fun K hK=>?_
     go_simp
     refine(HJ.out _ hHeld.2).mono ?_;rintro e w2 ⟨rfl,hb2⟩;have hSn:=And.intro (hHeld.1.2.2.2.2.step hb2).v (hHeld.2.below hb2);clear hHeld hb2;try go_simp
     refine hKo hK (fun hHeld=>?_) (by first|exact⟨HX.out.v,HV.out⟩|exact hSn|exact⟨(HX.out.step (Below.refl _ _).drew).v,HV.out.below (Below.refl _ _).drew⟩)
     clear hK K
     refine tkP 15 ?_ (hy:=by intro w hSw;(try dsimp only at hSw);go_simp;(try with_reducible rfl))
     refine tkP 16 ?_ (hy:=by intro w hSw;(try dsimp only at hSw);go_simp;(try with_reducible rfl))
     refine tkP 17 ?_ (hy:=by intro w hSw;(try dsimp only at hSw);go_simp;(try with_reducible rfl))
     refine tkP 18 ?_ (hy:=by intro w hSw;(try dsimp only at hSw);go_simp;(try with_reducible rfl))
     refine tkP 19 ?_ (hy:=by intro w hSw;(try dsimp only at hSw);go_simp;(try with_reducible rfl))
     refine tkP 20 ?_ (hy:=by intro w hSw;(try dsimp only at hSw);go_simp;(try with_reducible rfl))
     refine tkP 21 ?_ (hy:=by intro w hSw;(try dsimp only at hSw);go_simp;(try with_reducible rfl))
     refine wpAnyH_done Kr ?_ _
     by_cases h5:q.size=0
     ·obtain⟨y1,y2,y3⟩:=cstr_nil h5
      have HQ:=Hq (decide_eq_true h5)
      clear h5
      go_wp2_with ((go_at_call 212;refine(HS.out _).mono ?_;rintro e w4 ⟨rfl,hb4⟩))
      go_ret2
      exact⟨by rw[HF.out,HQ.out];simp,joinB hHeld.1.2.2.2.2.below hb4⟩
     ·obtain⟨y1,y2,y3⟩:=cstr_some h5
      have HQ:=Hq (decide_eq_false h5)
      clear h5
      go_wp2_with ((go_at_call 212;refine(HS.out _).mono ?_;rintro e w4 ⟨rfl,hb4⟩))
      go_ret2
      exact⟨by rw[HF.out,HQ.out];simp,joinB hHeld.1.2.2.2.2.below hb4⟩
end Go.Proofs.YtdfkambdagoojaaGreatDoor
