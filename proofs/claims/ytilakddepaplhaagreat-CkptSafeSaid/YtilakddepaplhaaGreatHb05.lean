import Derived.Test.YtilakddepaplhaaGreatHb00
import Derived.Test.YtilakddepaplhaaGreatHb04
import Derived.BigRegion
set_option maxRecDepth 100000
set_option maxHeartbeats 16000000
set_option linter.unusedSimpArgs false
namespace Go.Proofs.YtilakddepaplhaaGreat
open Go.RowKit
def formsA:Array Value:=((List.range 10).flatMap fun k=>[Value.bool (k==2||k==3||k==8),.bool (k==2),.bool (k==3||k==4),.bool (k==9),.bool (k != 0)]).toArray
theorem info_forms:(Tryz.prog.info? 208).map (·.size)=some formsA.size:=by kernel_rfl
theorem forms_any (w:World):
 Calls Tryz.prog 177 #[] w fun e w'=>e= .returned (.agg formsA)∧Below w.heap.size w w':=by
 go_enter Tryz.func177,Tryz.ntmps177
 go_wp2_with (with_reducible refine wpList_store_new rfl 208 (.tmp 0) (.tmp 10) rfl formsA _ _ rfl Kr Kr info_forms Kr ?_)
 exact bodyPost_ret (v:=.agg formsA) (results_cell rfl _ _ rfl (load_whole (heap_alloc_new w _) Tryz.underlying208 rfl info_forms)) rfl ⟨rfl,allocB _ _⟩
abbrev formV (a b c d e:Bool):Value:=.agg #[a,b,c,d,e]
def ofV (k:Int):Value:=.tuple #[formV (k==2||k==3||k==8) (k==2) (k==3||k==4) (k==9) (decide (1≤k∧k≤9)),.bool (decide (1≤k∧k≤9))]
theorem ofV_out {k:Int}(h:¬ (0≤k∧k≤9)):ofV k= .tuple #[formV false false false false false,false]:=by
 have h1:(k==2)=false:=by simp;omega
 have h2:(k==3)=false:=by simp;omega
 have h3:(k==4)=false:=by simp;omega
 have h4:(k==8)=false:=by simp;omega
 have h5:(k==9)=false:=by simp;omega
 have h6:decide (1≤k∧k≤9)=false:=decide_eq_false (by omega)
 unfold ofV
 rw[h1,h2,h3,h4,h5,h6]
 rfl
theorem index_form0 (W:World):(Instr.index 208 (.agg formsA) (.int .i64 ((0:Nat):Int))).run Tryz.prog W= .ok (.agg (formsA.extract (0*5) (0*5+5))) W:=by kernel_rfl
theorem index_form1 (W:World):(Instr.index 208 (.agg formsA) (.int .i64 ((1:Nat):Int))).run Tryz.prog W= .ok (.agg (formsA.extract (1*5) (1*5+5))) W:=by kernel_rfl
theorem index_form2 (W:World):(Instr.index 208 (.agg formsA) (.int .i64 ((2:Nat):Int))).run Tryz.prog W= .ok (.agg (formsA.extract (2*5) (2*5+5))) W:=by kernel_rfl
theorem index_form3 (W:World):(Instr.index 208 (.agg formsA) (.int .i64 ((3:Nat):Int))).run Tryz.prog W= .ok (.agg (formsA.extract (3*5) (3*5+5))) W:=by kernel_rfl
theorem index_form4 (W:World):(Instr.index 208 (.agg formsA) (.int .i64 ((4:Nat):Int))).run Tryz.prog W= .ok (.agg (formsA.extract (4*5) (4*5+5))) W:=by kernel_rfl
theorem index_form5 (W:World):(Instr.index 208 (.agg formsA) (.int .i64 ((5:Nat):Int))).run Tryz.prog W= .ok (.agg (formsA.extract (5*5) (5*5+5))) W:=by kernel_rfl
theorem index_form6 (W:World):(Instr.index 208 (.agg formsA) (.int .i64 ((6:Nat):Int))).run Tryz.prog W= .ok (.agg (formsA.extract (6*5) (6*5+5))) W:=by kernel_rfl
theorem index_form7 (W:World):(Instr.index 208 (.agg formsA) (.int .i64 ((7:Nat):Int))).run Tryz.prog W= .ok (.agg (formsA.extract (7*5) (7*5+5))) W:=by kernel_rfl
theorem index_form8 (W:World):(Instr.index 208 (.agg formsA) (.int .i64 ((8:Nat):Int))).run Tryz.prog W= .ok (.agg (formsA.extract (8*5) (8*5+5))) W:=by kernel_rfl
theorem index_form9 (W:World):(Instr.index 208 (.agg formsA) (.int .i64 ((9:Nat):Int))).run Tryz.prog W= .ok (.agg (formsA.extract (9*5) (9*5+5))) W:=by kernel_rfl
theorem index_form (k:Nat)(hk:k<10)(W:World):(Instr.index 208 (.agg formsA) (.int .i64 (k:Int))).run Tryz.prog W= .ok (.agg (formsA.extract (k*5) (k*5+5))) W:=by
 have hk:k=0∨k=1∨k=2∨k=3∨k=4∨k=5∨k=6∨k=7∨k=8∨k=9:=by omega
 rcases hk with rfl|rfl|rfl|rfl|rfl|rfl|rfl|rfl|rfl|rfl
 ·exact index_form0 W
 ·exact index_form1 W
 ·exact index_form2 W
 ·exact index_form3 W
 ·exact index_form4 W
 ·exact index_form5 W
 ·exact index_form6 W
 ·exact index_form7 W
 ·exact index_form8 W
 ·exact index_form9 W
theorem of_in (k:Nat)(a b c d e:Bool)(hk:k<10)(h:(formsA.extract (k*5) (k*5+5))=#[.bool a,.bool b,.bool c,.bool d,.bool e])(w:World):
 Calls Tryz.prog 117 #[.int .i64 (k:Int)] w fun x w'=>x= .returned (.tuple #[formV a b c d e,e])∧Below w.heap.size w w':=by
 have hix:=index_form k hk
 rw[h]at hix
 clear h
 have h1:((k:Int)<0)=False:=by simp
 have hk2:(k:Int)≤9:=by omega
 generalize hF:formsA=F at hix
 clear hk
 go_enter Tryz.func117,Tryz.ntmps117
 go_upto_region 4 with((go_at_call 177;(with_reducible refine(forms_any _).mono ?_);rintro x w2 ⟨rfl,hb2⟩;rw[hF];have HB:=Hq hb2;clear hb2))
 have hne:w2.heap.size≠w.heap.size:=by have:=HB.out.size;simp at this;omega
 have hlt:w.heap.size<w2.heap.size:=by have:=HB.out.size;simp at this;omega
 have HR:=Hq (show(w2.alloc (.cells #[a,b,c,d,e] 165)).heap[w.heap.size]? =some (.cells #[false,false,false,false,false] 165 (0,0))from by
  rw[Below.heap_alloc _ _ _ hlt];exact blkNew HB.out)
 have HN:=Hq (heap_alloc_new w2 (.cells #[a,b,c,d,e] 165))
 have HV:=Hq (pastAlloc (o:=.cells #[a,b,c,d,e] 165) (joinB (allocB _ _) HB.out))
 generalize w2.alloc (.cells #[a,b,c,d,e] 165)=V at HR HN HV ⊢
 have c0:=blkCell HN.out 0
 have c1:=blkCell HN.out 1
 have c2:=blkCell HN.out 2
 have c3:=blkCell HN.out 3
 have c4:=blkCell HN.out 4
 have r0:=blkCell HR.out 0
 have r1:=blkCell HR.out 1
 have r2:=blkCell HR.out 2
 have r3:=blkCell HR.out 3
 have r4:=blkCell HR.out 4
 have z0:=blkFrozen HR.out 0
 have z1:=blkFrozen HR.out 1
 have z2:=blkFrozen HR.out 2
 have z3:=blkFrozen HR.out 3
 have z4:=blkFrozen HR.out 4
 simp at c0 c1 c2 c3 c4 r0 r1 r2 r3 r4
 clear hix hF
 go_region
 all_goals
  go_wp2_with fail
  refine bodyPost_ret (v:=.tuple #[formV a b c d e,e]) (by simp[results,Tryz.results117,go_sem, *]) rfl ⟨rfl,(((((HV.out.setCell (Nat.le_refl _) _).setCell (Nat.le_refl _) _).setCell (Nat.le_refl _) _).setCell (Nat.le_refl _) _).setCell (Nat.le_refl _) _).drew⟩
theorem of_any (k:Int)(w:World):
 Calls Tryz.prog 117 #[k] w fun x w'=>x= .returned (ofV k)∧Below w.heap.size w w':=by
 by_cases h:0≤k∧k≤9
 ·obtain⟨n,rfl⟩:=Int.eq_ofNat_of_zero_le h.1
  have hk:n=0∨n=1∨n=2∨n=3∨n=4∨n=5∨n=6∨n=7∨n=8∨n=9:=by omega
  rcases hk with rfl|rfl|rfl|rfl|rfl|rfl|rfl|rfl|rfl|rfl
  ·exact of_in 0 _ _ _ _ _ (by omega) Kr w
  ·exact of_in 1 _ _ _ _ _ (by omega) Kr w
  ·exact of_in 2 _ _ _ _ _ (by omega) Kr w
  ·exact of_in 3 _ _ _ _ _ (by omega) Kr w
  ·exact of_in 4 _ _ _ _ _ (by omega) Kr w
  ·exact of_in 5 _ _ _ _ _ (by omega) Kr w
  ·exact of_in 6 _ _ _ _ _ (by omega) Kr w
  ·exact of_in 7 _ _ _ _ _ (by omega) Kr w
  ·exact of_in 8 _ _ _ _ _ (by omega) Kr w
  ·exact of_in 9 _ _ _ _ _ (by omega) Kr w
 ·rw[ofV_out h]
  by_cases h0:k<0
  ·clear h
   go_enter Tryz.func117,Tryz.ntmps117
   go_wp2_with fail
   exact bodyPost_ret (v:=.tuple #[formV false false false false false,false]) (by simp[results,Tryz.results117,go_sem]) rfl ⟨rfl,allocB _ _⟩
  ·have h1:0≤k:=by omega
   have h2:9<k:=by omega
   clear h h0
   go_enter Tryz.func117,Tryz.ntmps117
   go_wp2_with fail
   exact bodyPost_ret (v:=.tuple #[formV false false false false false,false]) (by simp[results,Tryz.results117,go_sem]) rfl ⟨rfl,allocB _ _⟩
theorem op_any (o:Rc.Op)(w:World):
 Calls Tryz.prog 121 #[opV o] w fun e w'=>e= .returned (.bool (decide (Rc.opR o)))∧Below w.heap.size w w':=by
 obtain⟨k,s,o,n⟩:=o
 by_cases h0:1≤k
 rotate_left
 ·have g0:k<1:=by omega
  clear h0
  rw[show decide (Rc.opR ⟨k,s,o,n⟩)=false from decide_eq_false (fun h=>by obtain⟨h1,h2,h3,h4,h5⟩:=h;simp only at h1 h2 h3 h4 h5;omega)]
  go_enter Tryz.func121,Tryz.ntmps121
  go_wp2_with fail
  go_ret
  exact⟨by simp[*],allocB _ _⟩
 by_cases h1:k≤7
 rotate_left
 ·have g1:7<k:=by omega
  clear h1
  rw[show decide (Rc.opR ⟨k,s,o,n⟩)=false from decide_eq_false (fun h=>by obtain⟨h1,h2,h3,h4,h5⟩:=h;simp only at h1 h2 h3 h4 h5;omega)]
  go_enter Tryz.func121,Tryz.ntmps121
  go_wp2_with fail
  go_ret
  exact⟨by simp[*],allocB _ _⟩
 cases hs:decide (Rc.sl s)with
 |false=>
  rw[show decide (Rc.opR ⟨k,s,o,n⟩)=false from decide_eq_false (fun h=>by obtain⟨h1,h2,h3,h4,h5⟩:=h;simp only at h1 h2 h3 h4 h5;exact of_decide_eq_false hs h3)]
  have hS:=Hq hs
  clear hs
  go_enter Tryz.func121,Tryz.ntmps121
  go_wp2_with (first|(go_at_call 180;(with_reducible refine(slot1 s _ _ ?_).mono ?_);(first|with_reducible exact heap_alloc_new _ _|with_reducible exact new2 _ _ _);rintro e w2 ⟨rfl,hb2⟩;rw[hS.out];have hx:=blkPast (heap_alloc_new w _) hb2;have h22:=blkCell hx 2;have h33:=blkCell hx 3;clear hx;simp at h22 h33))
  go_ret
  exact⟨by simp[*],joinB (pastAlloc (allocB _ _)) hb2⟩
 |true=>
 have hS:=Hq hs
 have hS2:=Hq (of_decide_eq_true hs)
 clear hs
 by_cases h3:(o.size:Int)≤512
 rotate_left
 ·have g3:512<(o.size:Int):=by omega
  clear h3
  rw[show decide (Rc.opR ⟨k,s,o,n⟩)=false from decide_eq_false (fun h=>by obtain⟨h1,h2,h3,h4,h5⟩:=h;simp only at h1 h2 h3 h4 h5;omega)]
  go_enter Tryz.func121,Tryz.ntmps121
  go_wp2_with (first|(go_at_call 180;(with_reducible refine(slot1 s _ _ ?_).mono ?_);(first|with_reducible exact heap_alloc_new _ _|with_reducible exact new2 _ _ _);rintro e w2 ⟨rfl,hb2⟩;rw[hS.out];have hx:=blkPast (heap_alloc_new w _) hb2;have h22:=blkCell hx 2;have h33:=blkCell hx 3;clear hx;simp at h22 h33))
  go_ret
  exact⟨by simp[*],joinB (pastAlloc (allocB _ _)) hb2⟩
 by_cases h4:(n.size:Int)≤512
 rotate_left
 ·have g4:512<(n.size:Int):=by omega
  clear h4
  rw[show decide (Rc.opR ⟨k,s,o,n⟩)=false from decide_eq_false (fun h=>by obtain⟨h1,h2,h3,h4,h5⟩:=h;simp only at h1 h2 h3 h4 h5;omega)]
  go_enter Tryz.func121,Tryz.ntmps121
  go_wp2_with (first|(go_at_call 180;(with_reducible refine(slot1 s _ _ ?_).mono ?_);(first|with_reducible exact heap_alloc_new _ _|with_reducible exact new2 _ _ _);rintro e w2 ⟨rfl,hb2⟩;rw[hS.out];have hx:=blkPast (heap_alloc_new w _) hb2;have h22:=blkCell hx 2;have h33:=blkCell hx 3;clear hx;simp at h22 h33))
  go_ret
  exact⟨by simp[*],joinB (pastAlloc (allocB _ _)) hb2⟩
 rw[show decide (Rc.opR ⟨k,s,o,n⟩)=true from decide_eq_true ⟨by assumption,by assumption,hS2.out,by show o.size≤512;omega,by show n.size≤512;omega⟩]
 go_enter Tryz.func121,Tryz.ntmps121
 go_wp2_with (first|(go_at_call 180;(with_reducible refine(slot1 s _ _ ?_).mono ?_);(first|with_reducible exact heap_alloc_new _ _|with_reducible exact new2 _ _ _);rintro e w2 ⟨rfl,hb2⟩;rw[hS.out];have hx:=blkPast (heap_alloc_new w _) hb2;have h22:=blkCell hx 2;have h33:=blkCell hx 3;clear hx;simp at h22 h33))
 go_ret
 exact⟨by simp[*],joinB (pastAlloc (allocB _ _)) hb2⟩
theorem tree_any (r:Rc.Rec)(T D:Value)(w:World):
 Calls Tryz.prog 122 #[recV r T D] w fun e w'=>e= .returned (.bool (decide (Rc.treeR r)))∧Below w.heap.size w w':=by
 obtain⟨lsn,prev,txn,kind,page,next,num,⟨ok,os,oo,on⟩,how,root,⟨ek,ep,es⟩,ts,ds⟩:=r
 have HEQ:=Hq (fun W=>key_equal ⟨ek,ep,es⟩ ⟨⟨#[]⟩,0,0⟩ W)
 by_cases hh:how=1
 ·subst hh
  by_cases hr:root=0
  ·subst hr
   have heq:=HEQ.out
   have HT:=Hq (show decide (Rc.treeR ⟨lsn,prev,txn,kind,page,next,num,⟨ok,os,oo,on⟩,1,0,⟨ek,ep,es⟩,ts,ds⟩)=decide ((⟨ek,ep,es⟩:Rc.Key)=⟨⟨#[]⟩,0,0⟩)from decide_eq_decide.2 ⟨fun h=>by
    rcases h with⟨_,_,h3⟩|⟨h1,_⟩
    ·exact h3
    ·simp only at h1;omega,fun h=>.inl ⟨rfl,rfl,h⟩⟩)
   rw[HT.out]
   generalize decide ((⟨ek,ep,es⟩:Rc.Key)=⟨⟨#[]⟩,0,0⟩)=b at heq ⊢
   go_enter Tryz.func122,Tryz.ntmps122
   go_wp2_with fail
   go_ret
   exact⟨by simp,allocB _ _⟩
  ·have h2:(root==0)=false:=by simp[hr]
   rw[show decide (Rc.treeR ⟨lsn,prev,txn,kind,page,next,num,⟨ok,os,oo,on⟩,1,root,⟨ek,ep,es⟩,ts,ds⟩)=false from decide_eq_false (fun h=>by
    rcases h with⟨_,h3,_⟩|⟨h1,_⟩
    ·exact hr h3
    ·simp only at h1;omega)]
   clear hr
   go_enter Tryz.func122,Tryz.ntmps122
   go_wp2_with fail
   go_ret
   exact⟨by simp,allocB _ _⟩
 ·have hh1:(how==1)=false:=by simp[hh]
  have NOT:=Hq (show ∀ (h:¬ ((how=2∨how=3)∧Rc.pg root∧Rc.pg ep∧Rc.sl es∧ek.size≤100)),decide (Rc.treeR ⟨lsn,prev,txn,kind,page,next,num,⟨ok,os,oo,on⟩,how,root,⟨ek,ep,es⟩,ts,ds⟩)=false from fun h=>decide_eq_false (fun h'=>by
   rcases h' with⟨h1,_⟩|h1
   ·exact hh h1
   ·exact h h1))
  by_cases hk:how=2∨how=3
  rotate_left
  ·rw[NOT.out (fun h=>hk h.1)]
   have hh2:(how==2)=false:=by simp;omega
   have hh3:(how==3)=false:=by simp;omega
   clear hk hh
   go_enter Tryz.func122,Tryz.ntmps122
   go_wp2_with fail
   go_ret
   exact⟨by simp,allocB _ _⟩
  rcases hk with rfl|rfl
  ·clear hh
   cases hp:decide (Rc.pg root∧Rc.pg ep)with
   |false=>
    rw[NOT.out (fun h=>of_decide_eq_false hp ⟨h.2.1,h.2.2.1⟩)]
    have hP:=Hq hp
    clear hp
    go_enter Tryz.func122,Tryz.ntmps122
    go_wp2_with (first|(go_at_call 120;(with_reducible refine(paged2 root ep _ _ ?_).mono ?_);(first|with_reducible exact heap_alloc_new _ _|with_reducible exact new2 _ _ _);rintro e w2 ⟨rfl,hb2⟩;rw[hP.out]))
    go_ret
    exact⟨by simp,joinB (pastAlloc (allocB _ _)) hb2⟩
   |true=>
    have hP:=Hq hp
    have hP2:=Hq (of_decide_eq_true hp)
    clear hp
    cases hs:decide (Rc.sl es)with
    |false=>
     rw[NOT.out (fun h=>of_decide_eq_false hs h.2.2.2.1)]
     have hS:=Hq hs
     clear hs
     go_enter Tryz.func122,Tryz.ntmps122
     go_wp2_with (first|(go_at_call 120;(with_reducible refine(paged2 root ep _ _ ?_).mono ?_);(first|with_reducible exact heap_alloc_new _ _|with_reducible exact new2 _ _ _);rintro e w2 ⟨rfl,hb2⟩;rw[hP.out];have hx:=blkPast (heap_alloc_new w _) hb2;have h14:=blkCell hx 15;have h13:=blkCell hx 13;have HX:=Hq hx;clear hx;simp at h14 h13)|(go_at_call 180;(with_reducible refine(slot1 es _ _ ?_).mono ?_);(first|with_reducible exact heap_alloc_new _ _|with_reducible exact new2 _ _ _);rintro e w3 ⟨rfl,hb3⟩;rw[hS.out];have h23:=blkCell (blkPast HX.out hb3) 13;simp at h23))
     go_ret
     exact⟨by simp,joinB (pastAlloc (joinB (pastAlloc (allocB _ _)) hb2)) hb3⟩
    |true=>
     have hS:=Hq hs
     have hS2:=Hq (of_decide_eq_true hs)
     clear hs
     by_cases hl:(ek.size:Int)≤100
     ·have HY:=Hq (show decide (Rc.treeR ⟨lsn,prev,txn,kind,page,next,num,⟨ok,os,oo,on⟩,2,root,⟨ek,ep,es⟩,ts,ds⟩)=true from decide_eq_true (.inr ⟨by simp,hP2.out.1,hP2.out.2,hS2.out,by show ek.size≤100;omega⟩))
      rw[HY.out]
      go_enter Tryz.func122,Tryz.ntmps122
      go_wp2_with (first|(go_at_call 120;(with_reducible refine(paged2 root ep _ _ ?_).mono ?_);(first|with_reducible exact heap_alloc_new _ _|with_reducible exact new2 _ _ _);rintro e w2 ⟨rfl,hb2⟩;rw[hP.out];have hx:=blkPast (heap_alloc_new w _) hb2;have h14:=blkCell hx 15;have h13:=blkCell hx 13;have HX:=Hq hx;clear hx;simp at h14 h13)|(go_at_call 180;(with_reducible refine(slot1 es _ _ ?_).mono ?_);(first|with_reducible exact heap_alloc_new _ _|with_reducible exact new2 _ _ _);rintro e w3 ⟨rfl,hb3⟩;rw[hS.out];have h23:=blkCell (blkPast HX.out hb3) 13;simp at h23))
      go_ret
      exact⟨by simp[*],joinB (pastAlloc (joinB (pastAlloc (allocB _ _)) hb2)) hb3⟩
     ·rw[NOT.out (fun h=>by have:=h.2.2.2.2;omega)]
      have hl2:100<(ek.size:Int):=by omega
      clear hl
      go_enter Tryz.func122,Tryz.ntmps122
      go_wp2_with (first|(go_at_call 120;(with_reducible refine(paged2 root ep _ _ ?_).mono ?_);(first|with_reducible exact heap_alloc_new _ _|with_reducible exact new2 _ _ _);rintro e w2 ⟨rfl,hb2⟩;rw[hP.out];have hx:=blkPast (heap_alloc_new w _) hb2;have h14:=blkCell hx 15;have h13:=blkCell hx 13;have HX:=Hq hx;clear hx;simp at h14 h13)|(go_at_call 180;(with_reducible refine(slot1 es _ _ ?_).mono ?_);(first|with_reducible exact heap_alloc_new _ _|with_reducible exact new2 _ _ _);rintro e w3 ⟨rfl,hb3⟩;rw[hS.out];have h23:=blkCell (blkPast HX.out hb3) 13;simp at h23))
      go_ret
      exact⟨by simp[*],joinB (pastAlloc (joinB (pastAlloc (allocB _ _)) hb2)) hb3⟩
  ·clear hh
   cases hp:decide (Rc.pg root∧Rc.pg ep)with
   |false=>
    rw[NOT.out (fun h=>of_decide_eq_false hp ⟨h.2.1,h.2.2.1⟩)]
    have hP:=Hq hp
    clear hp
    go_enter Tryz.func122,Tryz.ntmps122
    go_wp2_with (first|(go_at_call 120;(with_reducible refine(paged2 root ep _ _ ?_).mono ?_);(first|with_reducible exact heap_alloc_new _ _|with_reducible exact new2 _ _ _);rintro e w2 ⟨rfl,hb2⟩;rw[hP.out]))
    go_ret
    exact⟨by simp,joinB (pastAlloc (allocB _ _)) hb2⟩
   |true=>
    have hP:=Hq hp
    have hP2:=Hq (of_decide_eq_true hp)
    clear hp
    cases hs:decide (Rc.sl es)with
    |false=>
     rw[NOT.out (fun h=>of_decide_eq_false hs h.2.2.2.1)]
     have hS:=Hq hs
     clear hs
     go_enter Tryz.func122,Tryz.ntmps122
     go_wp2_with (first|(go_at_call 120;(with_reducible refine(paged2 root ep _ _ ?_).mono ?_);(first|with_reducible exact heap_alloc_new _ _|with_reducible exact new2 _ _ _);rintro e w2 ⟨rfl,hb2⟩;rw[hP.out];have hx:=blkPast (heap_alloc_new w _) hb2;have h14:=blkCell hx 15;have h13:=blkCell hx 13;have HX:=Hq hx;clear hx;simp at h14 h13)|(go_at_call 180;(with_reducible refine(slot1 es _ _ ?_).mono ?_);(first|with_reducible exact heap_alloc_new _ _|with_reducible exact new2 _ _ _);rintro e w3 ⟨rfl,hb3⟩;rw[hS.out];have h23:=blkCell (blkPast HX.out hb3) 13;simp at h23))
     go_ret
     exact⟨by simp,joinB (pastAlloc (joinB (pastAlloc (allocB _ _)) hb2)) hb3⟩
    |true=>
     have hS:=Hq hs
     have hS2:=Hq (of_decide_eq_true hs)
     clear hs
     by_cases hl:(ek.size:Int)≤100
     ·have HY:=Hq (show decide (Rc.treeR ⟨lsn,prev,txn,kind,page,next,num,⟨ok,os,oo,on⟩,3,root,⟨ek,ep,es⟩,ts,ds⟩)=true from decide_eq_true (.inr ⟨by simp,hP2.out.1,hP2.out.2,hS2.out,by show ek.size≤100;omega⟩))
      rw[HY.out]
      go_enter Tryz.func122,Tryz.ntmps122
      go_wp2_with (first|(go_at_call 120;(with_reducible refine(paged2 root ep _ _ ?_).mono ?_);(first|with_reducible exact heap_alloc_new _ _|with_reducible exact new2 _ _ _);rintro e w2 ⟨rfl,hb2⟩;rw[hP.out];have hx:=blkPast (heap_alloc_new w _) hb2;have h14:=blkCell hx 15;have h13:=blkCell hx 13;have HX:=Hq hx;clear hx;simp at h14 h13)|(go_at_call 180;(with_reducible refine(slot1 es _ _ ?_).mono ?_);(first|with_reducible exact heap_alloc_new _ _|with_reducible exact new2 _ _ _);rintro e w3 ⟨rfl,hb3⟩;rw[hS.out];have h23:=blkCell (blkPast HX.out hb3) 13;simp at h23))
      go_ret
      exact⟨by simp[*],joinB (pastAlloc (joinB (pastAlloc (allocB _ _)) hb2)) hb3⟩
     ·rw[NOT.out (fun h=>by have:=h.2.2.2.2;omega)]
      have hl2:100<(ek.size:Int):=by omega
      clear hl
      go_enter Tryz.func122,Tryz.ntmps122
      go_wp2_with (first|(go_at_call 120;(with_reducible refine(paged2 root ep _ _ ?_).mono ?_);(first|with_reducible exact heap_alloc_new _ _|with_reducible exact new2 _ _ _);rintro e w2 ⟨rfl,hb2⟩;rw[hP.out];have hx:=blkPast (heap_alloc_new w _) hb2;have h14:=blkCell hx 15;have h13:=blkCell hx 13;have HX:=Hq hx;clear hx;simp at h14 h13)|(go_at_call 180;(with_reducible refine(slot1 es _ _ ?_).mono ?_);(first|with_reducible exact heap_alloc_new _ _|with_reducible exact new2 _ _ _);rintro e w3 ⟨rfl,hb3⟩;rw[hS.out];have h23:=blkCell (blkPast HX.out hb3) 13;simp at h23))
      go_ret
      exact⟨by simp[*],joinB (pastAlloc (joinB (pastAlloc (allocB _ _)) hb2)) hb3⟩
end Go.Proofs.YtilakddepaplhaaGreat
namespace Rc
section
open Classical
noncomputable def rightB (r:Rec):Bool:=decide (Right r)
theorem rightB_of {r:Rec}{b:Bool}(h:Right r↔b=true):rightB r=b:=by
 unfold rightB
 cases b with
 |true=>exact decide_eq_true (h.2 rfl)
 |false=>exact decide_eq_false (fun hr=>by have:=h.1 hr;cases this)
theorem rightB_no {r:Rec}(h:¬ Right r):rightB r=false:=by unfold rightB;exact decide_eq_false h
theorem rightB_yes {r:Rec}(h:Right r):rightB r=true:=by unfold rightB;exact decide_eq_true h
theorem rightB_iff {r:Rec}:rightB r=true↔Right r:=by unfold rightB;exact decide_eq_true_iff
end
end Rc
namespace Go.Proofs.YtilakddepaplhaaGreat
open Go.RowKit
structure Boxes (w:World) (a f b:Nat) (R F X:Array Value) (u:World):Prop where
 br:u.heap[a]? =some (.cells R 55 (0,0))
 bf:u.heap[f]? =some (.cells F 165 (0,0))
 bx:u.heap[b]? =some (.cells X 55 (0,0))
 ab:a<b∧f<b
 low:w.heap.size≤a
 below:Below w.heap.size w u
theorem Boxes.step {w u v:World}{a f b:Nat}{R F X:Array Value}(h:Boxes w a f b R F X u)(hb:Below u.heap.size u v):Boxes w a f b R F X v:=
 ⟨blkOld h.br hb,blkOld h.bf hb,blkOld h.bx hb,h.ab,h.low,joinB h.below hb⟩
theorem Boxes.set {w u:World}{a f b:Nat}{R F X:Array Value}(h:Boxes w a f b R F X u)(i:Nat)(v:Value):Boxes w a f b R F (X.setIfInBounds i v) (u.setCell ⟨b,i,none⟩ v):=
 ⟨by rw[Below.heap_setCell _ _ _ _ (by have:=h.ab;show a≠b;omega)];exact h.br,by rw[Below.heap_setCell _ _ _ _ (by have:=h.ab;show f≠b;omega)];exact h.bf,blkSet i h.bx v,h.ab,h.low,h.below.setCell (by have:=h.ab;have:=h.low;show _≤b;omega) v⟩
theorem Boxes.drew {w u:World}{a f b:Nat}{R F X:Array Value}(h:Boxes w a f b R F X u):Boxes w a f b R F X u.drew:=⟨h.br,h.bf,h.bx,h.ab,h.low,h.below.drew⟩
theorem Boxes.alloc {w u:World}{a f b:Nat}{R F X:Array Value}(h:Boxes w a f b R F X u)(o:Obj):Boxes w a f b R F X (u.alloc o):=h.step (allocB u o)
theorem boxes_new {w w1 w2:World}{R F X:Array Value}{o:Obj}(hb1:Below (w.alloc (.cells R 55)).heap.size (w.alloc (.cells R 55)) w1)
 (hb2:Below ((w1.alloc (.cells F 165)).alloc o).heap.size ((w1.alloc (.cells F 165)).alloc o) w2):Boxes w w.heap.size w1.heap.size w2.heap.size R F X (w2.alloc (.cells X 55)):=by
 have h1:Below w.heap.size w w1:=joinB (allocB _ _) hb1
 have h2:Below w1.heap.size w1 w2:=joinB (pastAlloc (allocB _ _)) hb2
 have hs1:=hb1.size
 have hs2:=hb2.size
 simp at hs1 hs2
 refine⟨?_,?_,heap_alloc_new w2 _,⟨by omega,by omega⟩,Nat.le_refl _,pastAlloc (joinB h1 h2)⟩
 ·rw[Below.heap_alloc _ _ _ (by omega)];exact blkOld (blkNew hb1) h2
 ·rw[Below.heap_alloc _ _ _ (by omega)];exact blkOld (new21 _ _ _) hb2
end Go.Proofs.YtilakddepaplhaaGreat
namespace Rc
abbrev N3 (a b c:Int):Prop:=num a∧num b∧num c
theorem right_2 (lsn prev txn page next nu how root:Int)(op:Op)(e:Key)(ts:List TxnAt)(ds:List DirtyAt):
 Right ⟨lsn,prev,txn,2,page,next,nu,op,how,root,e,ts,ds⟩↔N3 lsn prev txn∧((pg page∧opR op)∧treeR ⟨lsn,prev,txn,2,page,next,nu,op,how,root,e,ts,ds⟩)∧(⟨lsn,prev,txn,2,page,0,0,op,how,root,e,[],[]⟩:Rec)=⟨lsn,prev,txn,2,page,next,nu,op,how,root,e,ts,ds⟩:=by
 constructor
 ·intro h
  have f:=form_of h
  have h1:=f.change (Or.inl rfl)
  have h2:next=0:=f.noNext (fun h=>by rcases h with h|h<;>cases h)
  obtain⟨h3,h4,h5⟩:=f.noLists (fun h=>by cases h)
  simp only at h3 h4 h5
  subst h2 h3 h4 h5
  exact⟨f.nums,⟨h1,f.tree rfl⟩,rfl⟩
 ·rintro⟨⟨h1,h2,h3⟩,⟨⟨h4,h5⟩,h6⟩,h7⟩
  rw[← h7]
  exact Right.change _ _ _ _ _ _ _ _ h1 h2 h3 h4 h5 h6
theorem right_3 (lsn prev txn page next nu how root:Int)(op:Op)(e:Key)(ts:List TxnAt)(ds:List DirtyAt):
 Right ⟨lsn,prev,txn,3,page,next,nu,op,how,root,e,ts,ds⟩↔N3 lsn prev txn∧((pg page∧opR op)∧num next)∧(⟨lsn,prev,txn,3,page,next,0,op,0,0,noKey,[],[]⟩:Rec)=⟨lsn,prev,txn,3,page,next,nu,op,how,root,e,ts,ds⟩:=by
 constructor
 ·intro h
  have f:=form_of h
  have h1:=f.change (Or.inr (Or.inl rfl))
  obtain⟨g1,g2,g3⟩:=f.noTree (fun h=>by cases h)
  obtain⟨h3,h4,h5⟩:=f.noLists (fun h=>by cases h)
  simp only at h3 h4 h5 g1 g2 g3
  subst h3 h4 h5 g1 g2 g3
  exact⟨f.nums,⟨h1,f.next (Or.inl rfl)⟩,rfl⟩
 ·rintro⟨⟨h1,h2,h3⟩,⟨⟨h4,h5⟩,h6⟩,h7⟩
  rw[← h7]
  exact Right.clr _ _ _ _ _ _ h1 h2 h3 h4 h5 h6
theorem right_4 (lsn prev txn page next nu how root:Int)(op:Op)(e:Key)(ts:List TxnAt)(ds:List DirtyAt):
 Right ⟨lsn,prev,txn,4,page,next,nu,op,how,root,e,ts,ds⟩↔N3 lsn prev txn∧num next∧(⟨lsn,prev,txn,4,0,next,0,noOp,0,0,noKey,[],[]⟩:Rec)=⟨lsn,prev,txn,4,page,next,nu,op,how,root,e,ts,ds⟩:=by
 constructor
 ·intro h
  have f:=form_of h
  obtain⟨i1,i2⟩:=f.bare (fun h=>by rcases h with h|h|h<;>cases h)
  obtain⟨g1,g2,g3⟩:=f.noTree (fun h=>by cases h)
  obtain⟨h3,h4,h5⟩:=f.noLists (fun h=>by cases h)
  simp only at h3 h4 h5 g1 g2 g3 i1 i2
  subst h3 h4 h5 g1 g2 g3 i1 i2
  exact⟨f.nums,f.next (Or.inr rfl),rfl⟩
 ·rintro⟨⟨h1,h2,h3⟩,h6,h7⟩
  rw[← h7]
  exact Right.nest _ _ _ _ h1 h2 h3 h6
theorem right_8 (lsn prev txn page next nu how root:Int)(op:Op)(e:Key)(ts:List TxnAt)(ds:List DirtyAt):
 Right ⟨lsn,prev,txn,8,page,next,nu,op,how,root,e,ts,ds⟩↔N3 lsn prev txn∧(pg page∧opR op)∧(⟨lsn,prev,txn,8,page,0,0,op,0,0,noKey,[],[]⟩:Rec)=⟨lsn,prev,txn,8,page,next,nu,op,how,root,e,ts,ds⟩:=by
 constructor
 ·intro h
  have f:=form_of h
  have h1:=f.change (Or.inr (Or.inr rfl))
  have h2:next=0:=f.noNext (fun h=>by rcases h with h|h<;>cases h)
  obtain⟨g1,g2,g3⟩:=f.noTree (fun h=>by cases h)
  obtain⟨h3,h4,h5⟩:=f.noLists (fun h=>by cases h)
  simp only at h3 h4 h5 g1 g2 g3
  subst h2 h3 h4 h5 g1 g2 g3
  exact⟨f.nums,h1,rfl⟩
 ·rintro⟨⟨h1,h2,h3⟩,⟨h4,h5⟩,h7⟩
  rw[← h7]
  exact Right.image _ _ _ _ _ h1 h2 h3 h4 h5
theorem right_9 (lsn prev txn page next nu how root:Int)(op:Op)(e:Key)(ts:List TxnAt)(ds:List DirtyAt):
 Right ⟨lsn,prev,txn,9,page,next,nu,op,how,root,e,ts,ds⟩↔N3 lsn prev txn∧(((num nu∧ts.length≤1000∧ds.length≤2000)∧∀ t∈ts,txnR t)∧∀ d∈ds,dirtyR d)∧(⟨lsn,prev,txn,9,0,0,nu,noOp,0,0,noKey,ts,ds⟩:Rec)=⟨lsn,prev,txn,9,page,next,nu,op,how,root,e,ts,ds⟩:=by
 constructor
 ·intro h
  have f:=form_of h
  obtain⟨i1,i2⟩:=f.bare (fun h=>by rcases h with h|h|h<;>cases h)
  have h2:next=0:=f.noNext (fun h=>by rcases h with h|h<;>cases h)
  obtain⟨g1,g2,g3⟩:=f.noTree (fun h=>by cases h)
  obtain⟨j1,j2,j3,j4,j5⟩:=f.lists rfl
  simp only at g1 g2 g3 i1 i2
  subst h2 g1 g2 g3 i1 i2
  exact⟨f.nums,⟨⟨⟨j1,j2,j3⟩,j4⟩,j5⟩,rfl⟩
 ·rintro⟨⟨h1,h2,h3⟩,⟨⟨⟨j1,j2,j3⟩,j4⟩,j5⟩,h7⟩
  rw[← h7]
  exact Right.check _ _ _ _ _ _ h1 h2 h3 j1 ⟨j2,j3,j4,j5⟩
theorem right_small (kind:Int)(hk:kind=1∨kind=5∨kind=6∨kind=7)(lsn prev txn page next nu how root:Int)(op:Op)(e:Key)(ts:List TxnAt)(ds:List DirtyAt):
 Right ⟨lsn,prev,txn,kind,page,next,nu,op,how,root,e,ts,ds⟩↔N3 lsn prev txn∧(⟨lsn,prev,txn,kind,0,0,0,noOp,0,0,noKey,[],[]⟩:Rec)=⟨lsn,prev,txn,kind,page,next,nu,op,how,root,e,ts,ds⟩:=by
 constructor
 ·intro h
  have f:=form_of h
  obtain⟨i1,i2⟩:=f.bare (fun h=>by unfold hasChange at h;simp only at h;omega)
  have h2:next=0:=f.noNext (fun h=>by unfold hasNext at h;simp only at h;omega)
  obtain⟨g1,g2,g3⟩:=f.noTree (fun h=>by simp only at h;omega)
  obtain⟨h3,h4,h5⟩:=f.noLists (fun h=>by simp only at h;omega)
  simp only at h3 h4 h5 g1 g2 g3 i1 i2
  subst h2 h3 h4 h5 g1 g2 g3 i1 i2
  exact⟨f.nums,rfl⟩
 ·rintro⟨⟨h1,h2,h3⟩,h7⟩
  rw[← h7]
  exact Right.small _ _ _ _ hk h1 h2 h3
theorem right_none {r:Rec}(h:¬ (1≤r.kind∧r.kind≤9)):¬ Right r:=fun hr=>h (form_of hr).kind
end Rc
namespace Go.Proofs.YtilakddepaplhaaGreat
open Go.RowKit
theorem right_change (lsn prev txn page next nu ok os how root ep es:Int)(oo on ek:ByteArray)(ts:List Rc.TxnAt)(ds:List Rc.DirtyAt)(A B:Option Addr)(c d:Nat)(w:World)(hr:RecR w ⟨lsn,prev,txn,2,page,next,nu,⟨ok,os,oo,on⟩,how,root,⟨ek,ep,es⟩,ts,ds⟩ A c B d):
 Calls Tryz.prog 84 #[.agg (rcA lsn prev txn 2 page next nu ok os oo on how root ek ep es (.slice A ts.length c) (.slice B ds.length d))] w fun e w'=>e= .returned (.bool (Rc.rightB ⟨lsn,prev,txn,2,page,next,nu,⟨ok,os,oo,on⟩,how,root,⟨ek,ep,es⟩,ts,ds⟩))∧Below w.heap.size w w':=by
 have HOF:=Hq (fun W=>of_any 2 W)
 rw[show ofV 2= .tuple #[formV true true false false true,true]from rfl]at HOF
 have HNO:=Hq (fun W g h=>number3 lsn prev txn W g h)
 obtain⟨Q,hQ⟩:=ex (Rc.rightB ⟨lsn,prev,txn,2,page,next,nu,⟨ok,os,oo,on⟩,how,root,⟨ek,ep,es⟩,ts,ds⟩)
 rw[← hQ]
 have HQ:=Hq hQ
 have hsm:=hr.small
 simp only at hsm
 have hsm1:=hsm.1
 have hsm2:=hsm.2
 have HRR:=Hq hr
 clear hQ hr hsm
 have RI:=Hq (Rc.right_2 lsn prev txn page next nu how root ⟨ok,os,oo,on⟩ ⟨ek,ep,es⟩ ts ds)
 cases hn:decide (Rc.num lsn∧Rc.num prev∧Rc.num txn)with
 |false=>
  rw[hn]at HNO
  have HF:=Hq (HQ.out.trans (Rc.rightB_no fun h=>of_decide_eq_false hn (RI.out.1 h).1))
  clear hn RI
  go_enter Tryz.func84,Tryz.ntmps84
  go_wp2_with (first
   |(go_at_call 117;(with_reducible refine(HOF.out _).mono ?_);rintro e w1 ⟨rfl,hb1⟩;have hR:=blkCell (blkNew hb1);have hl1:w.heap.size<w1.heap.size:=(by have:=hb1.size;simp at this;omega);have HB1:=Hq hb1;clear hb1)
   |(go_at_call 119;(with_reducible refine(HNO.out _ _ ?_).mono ?_);(with_reducible exact new2 _ _ _);rintro e w2 ⟨rfl,hb2⟩;have hR2:=blkCell (blkOld (blkNew HB1.out) (joinB (pastAlloc (allocB _ _)) hb2));have hl2:w1.heap.size+1<w2.heap.size:=(by have:=hb2.size;simp at this;omega);have HB2:=Hq hb2;clear hb2)
   |(with_reducible refine sN (rcA lsn prev txn 2 0 0 0 0 0 ⟨#[]⟩ ⟨#[]⟩ 0 0 ⟨#[]⟩ 0 0 (.slice none 0 0) (.slice none 0 0)) ?_))
  go_ret
  exact⟨by rw[HF.out];rfl,joinB (joinB (allocB _ _) HB1.out) (joinB (pastAlloc (allocB _ _)) HB2.out)⟩
 |true=>
  rw[hn]at HNO
  have HN:=Hq (of_decide_eq_true hn)
  clear hn
  go_enter Tryz.func84,Tryz.ntmps84
  go_upto_region 5 with(first
   |(go_at_call 117;(with_reducible refine(HOF.out _).mono ?_);rintro e w1 ⟨rfl,hb1⟩;have hR:=blkCell (blkNew hb1);have hl1:w.heap.size<w1.heap.size:=(by have:=hb1.size;simp at this;omega);have HB1:=Hq hb1;clear hb1)
   |(go_at_call 119;(with_reducible refine(HNO.out _ _ ?_).mono ?_);(with_reducible exact new2 _ _ _);rintro e w2 ⟨rfl,hb2⟩;have hR2:=blkCell (blkOld (blkNew HB1.out) (joinB (pastAlloc (allocB _ _)) hb2));have hl2:w1.heap.size+1<w2.heap.size:=(by have:=hb2.size;simp at this;omega);have HB2:=Hq hb2;clear hb2)
   |(with_reducible refine sN (rcA lsn prev txn 2 0 0 0 0 0 ⟨#[]⟩ ⟨#[]⟩ 0 0 ⟨#[]⟩ 0 0 (.slice none 0 0) (.slice none 0 0)) ?_))
  have HX:=Hq (boxes_new (R:=(rcA lsn prev txn 2 page next nu ok os oo on how root ek ep es (.slice A ts.length c) (.slice B ds.length d))) (F:=#[true,true,false,false,true]) (X:=(rcA lsn prev txn 2 0 0 0 0 0 ⟨#[]⟩ ⟨#[]⟩ 0 0 ⟨#[]⟩ 0 0 (.slice none 0 0) (.slice none 0 0))) HB1.out HB2.out)
  clear hR hR2 HNO HOF HB1 HB2
  obtain⟨V,hV⟩:=ex (w2.alloc (.cells (rcA lsn prev txn 2 0 0 0 0 0 ⟨#[]⟩ ⟨#[]⟩ 0 0 ⟨#[]⟩ 0 0 (.slice none 0 0) (.slice none 0 0)) 55))
  rw[← hV]at HX ⊢
  clear hV
  have hR:=blkCell HX.out.br
  have hF:=blkCell HX.out.bf
  go_upto_region 6 with(fail)
  go_cut [4] (fun s we=>s= .bool (decide (Rc.pg page)&&decide (Rc.opR ⟨ok,os,oo,on⟩))∧Boxes w w.heap.size w1.heap.size w2.heap.size (rcA lsn prev txn 2 page next nu ok os oo on how root ek ep es (.slice A ts.length c) (.slice B ds.length d)) #[true,true,false,false,true] (rcA lsn prev txn 2 0 0 0 0 0 ⟨#[]⟩ ⟨#[]⟩ 0 0 ⟨#[]⟩ 0 0 (.slice none 0 0) (.slice none 0 0)) we)
  case first=>
   cases hp:decide (Rc.pg page)with
   |false=>
    have HP:=Hq hp
    clear hp
    go_wp2_with (first|(go_at_call 120;(with_reducible refine(paged1 page _ _ ?_).mono ?_);(with_reducible exact heap_alloc_new _ _);rintro e w3 ⟨rfl,hb3⟩;rw[HP.out]))
    go_meet
    case rel=>exact⟨by simp[HP.out],HX.out.step (joinB (allocB _ _) hb3)⟩
   |true=>
    have HP:=Hq hp
    clear hp
    generalize hqo:decide (Rc.opR ⟨ok,os,oo,on⟩)=qo
    have HO:=Hq hqo
    clear hqo
    go_wp2_with (first|(go_at_call 120;(with_reducible refine(paged1 page _ _ ?_).mono ?_);(with_reducible exact heap_alloc_new _ _);rintro e w3 ⟨rfl,hb3⟩;rw[HP.out];have hR3:=blkCell (HX.out.step (joinB (allocB _ _) hb3)).br)|(go_at_call 121;(with_reducible refine(op_any ⟨ok,os,oo,on⟩ _).mono ?_);rintro e w4 ⟨rfl,hb4⟩;rw[HO.out]))
    go_meet
    case rel=>exact⟨by simp[HP.out,HO.out],(HX.out.step (joinB (allocB _ _) hb3)).step hb4⟩
  case rest=>
  obtain⟨W1,rfl⟩:=ex wc
  obtain⟨rfl,hB1⟩:=hcut
  have H1:=Hq hB1
  clear hR hF hB1 HX
  have hR:=blkCell H1.out.br
  have hF:=blkCell H1.out.bf
  have hXc:=blkCell H1.out.bx
  have hXz:=blkFrozen H1.out.bx
  have hne:w.heap.size≠w2.heap.size:=by have:=H1.out.ab;omega
  go_upto_region 7 with(fail)
  go_cut [] (fun we=>Boxes w w.heap.size w1.heap.size w2.heap.size (rcA lsn prev txn 2 page next nu ok os oo on how root ek ep es (.slice A ts.length c) (.slice B ds.length d)) #[true,true,false,false,true] (rcA lsn prev txn 2 page 0 0 ok os oo on 0 0 ⟨#[]⟩ 0 0 (.slice none 0 0) (.slice none 0 0)) we)
  case first=>
   go_region
   all_goals
    go_wp2_with fail
    go_meet
    case rel=>
     first
      |(have h:=(((((H1.out.set 4 (.int .i64 page)).set 7 (.int .i64 ok)).set 8 (.int .i64 os)).set 9 (.string oo)).set 10 (.string on)).drew;simpa using h)
      |(have h:=(((((H1.out.set 7 (.int .i64 ok)).set 8 (.int .i64 os)).set 9 (.string oo)).set 10 (.string on)).set 4 (.int .i64 page)).drew;simpa using h)
  case rest=>
  obtain⟨W2,rfl⟩:=ex wc
  have H2:=Hq hcut
  clear hR hF hXc hXz hcut H1
  have hR:=blkCell H2.out.br
  have hF:=blkCell H2.out.bf
  go_upto_region 9 with(fail)
  go_cut [4] (fun s we=>s= .bool ((decide (Rc.pg page)&&decide (Rc.opR ⟨ok,os,oo,on⟩))&&decide (Rc.treeR ⟨lsn,prev,txn,2,page,next,nu,⟨ok,os,oo,on⟩,how,root,⟨ek,ep,es⟩,ts,ds⟩))∧Boxes w w.heap.size w1.heap.size w2.heap.size (rcA lsn prev txn 2 page next nu ok os oo on how root ek ep es (.slice A ts.length c) (.slice B ds.length d)) #[true,true,false,false,true] (rcA lsn prev txn 2 page 0 0 ok os oo on 0 0 ⟨#[]⟩ 0 0 (.slice none 0 0) (.slice none 0 0)) we)
  case first=>
   generalize hqa:(decide (Rc.pg page)&&decide (Rc.opR ⟨ok,os,oo,on⟩))=qa
   have HA:=Hq hqa
   clear hqa
   cases qa with
   |false=>
    go_wp2_with fail
    go_meet
    case rel=>exact⟨by simp[HA.out],H2.out⟩
   |true=>
    generalize hqt:decide (Rc.treeR ⟨lsn,prev,txn,2,page,next,nu,⟨ok,os,oo,on⟩,how,root,⟨ek,ep,es⟩,ts,ds⟩)=qt
    have HT:=Hq hqt
    clear hqt
    go_wp2_with (first|(with_reducible refine lL H2.out.br Tryz.underlying55 ?_)|(go_at_call 122;(with_reducible refine(tree_any ⟨lsn,prev,txn,2,page,next,nu,⟨ok,os,oo,on⟩,how,root,⟨ek,ep,es⟩,ts,ds⟩ (.slice A ts.length c) (.slice B ds.length d) _).mono ?_);rintro e w5 ⟨rfl,hb5⟩;rw[HT.out]))
    go_meet
    case rel=>exact⟨by simp[HA.out,HT.out],H2.out.step hb5⟩
  case rest=>
  obtain⟨W3,rfl⟩:=ex wc
  obtain⟨rfl,hB3⟩:=hcut
  have H3:=Hq hB3
  clear hR hF hB3 H2
  have hR:=blkCell H3.out.br
  have hF:=blkCell H3.out.bf
  have hXc:=blkCell H3.out.bx
  have hXz:=blkFrozen H3.out.bx
  have hne:w.heap.size≠w2.heap.size:=by have:=H3.out.ab;omega
  go_upto_region 10 with(fail)
  go_cut [] (fun we=>Boxes w w.heap.size w1.heap.size w2.heap.size (rcA lsn prev txn 2 page next nu ok os oo on how root ek ep es (.slice A ts.length c) (.slice B ds.length d)) #[true,true,false,false,true] (rcA lsn prev txn 2 page 0 0 ok os oo on how root ek ep es (.slice none 0 0) (.slice none 0 0)) we)
  case first=>
   go_region
   all_goals
    go_wp2_with fail
    go_meet
    case rel=>
     first
      |(have h:=(((((H3.out.set 11 (.int .i64 how)).set 12 (.int .i64 root)).set 13 (.string ek)).set 14 (.int .i64 ep)).set 15 (.int .i64 es)).drew;simpa using h)
      |(have h:=(((((H3.out.set 11 (.int .i64 how)).set 13 (.string ek)).set 14 (.int .i64 ep)).set 15 (.int .i64 es)).set 12 (.int .i64 root)).drew;simpa using h)
      |(have h:=(((((H3.out.set 12 (.int .i64 root)).set 11 (.int .i64 how)).set 13 (.string ek)).set 14 (.int .i64 ep)).set 15 (.int .i64 es)).drew;simpa using h)
      |(have h:=(((((H3.out.set 12 (.int .i64 root)).set 13 (.string ek)).set 14 (.int .i64 ep)).set 15 (.int .i64 es)).set 11 (.int .i64 how)).drew;simpa using h)
      |(have h:=(((((H3.out.set 13 (.string ek)).set 14 (.int .i64 ep)).set 15 (.int .i64 es)).set 11 (.int .i64 how)).set 12 (.int .i64 root)).drew;simpa using h)
      |(have h:=(((((H3.out.set 13 (.string ek)).set 14 (.int .i64 ep)).set 15 (.int .i64 es)).set 12 (.int .i64 root)).set 11 (.int .i64 how)).drew;simpa using h)
  case rest=>
  obtain⟨W4,rfl⟩:=ex wc
  have H4:=Hq hcut
  clear hR hF hXc hXz hcut H3
  have hR:=blkCell H4.out.br
  have hF:=blkCell H4.out.bf
  go_upto_region 19 with(fail)
  generalize hqa:((decide (Rc.pg page)&&decide (Rc.opR ⟨ok,os,oo,on⟩))&&decide (Rc.treeR ⟨lsn,prev,txn,2,page,next,nu,⟨ok,os,oo,on⟩,how,root,⟨ek,ep,es⟩,ts,ds⟩))=qa
  have HA:=Hq hqa
  clear hqa
  cases qa with
  |false=>
   go_wp2_with fail
   go_ret
   refine⟨?_,H4.out.below⟩
   have HF:=HQ.out.trans (Rc.rightB_no fun h=>by
    have h2:=(RI.out.1 h).2.1
    have h3:=HA.out
    simp only[Bool.and_eq_false_iff,decide_eq_false_iff_not]at h3
    grind)
   rw[HF]
   rfl
  |true=>
   have HS:=Hq (same_any ⟨lsn,prev,txn,2,page,0,0,⟨ok,os,oo,on⟩,how,root,⟨ek,ep,es⟩,[],[]⟩ ⟨lsn,prev,txn,2,page,next,nu,⟨ok,os,oo,on⟩,how,root,⟨ek,ep,es⟩,ts,ds⟩ none A none B 0 c 0 d W4 ⟨(Reads.none_ _ _ _ _),(Reads.none_ _ _ _ _),⟨by simp,by simp⟩⟩ (HRR.out.below H4.out.below))
   dsimp only[recV,recA,List.length_nil]at HS
   cases he:decide ((⟨lsn,prev,txn,2,page,0,0,⟨ok,os,oo,on⟩,how,root,⟨ek,ep,es⟩,[],[]⟩:Rc.Rec)=⟨lsn,prev,txn,2,page,next,nu,⟨ok,os,oo,on⟩,how,root,⟨ek,ep,es⟩,ts,ds⟩)with
   |false=>
    have HE:=Hq he
    clear he
    go_wp2_with (first|(with_reducible refine lL H4.out.bx Tryz.underlying55 ?_)|(with_reducible refine lL H4.out.br Tryz.underlying55 ?_)|(go_at_call 127;(with_reducible refine HS.out.mono ?_);rintro e w9 ⟨rfl,hb9⟩;rw[HE.out]))
    go_ret
    refine⟨?_,joinB H4.out.below hb9⟩
    rw[HQ.out.trans (Rc.rightB_no fun h=>of_decide_eq_false HE.out (RI.out.1 h).2.2)]
    rfl
   |true=>
    have HE:=Hq he
    clear he
    go_wp2_with (first|(with_reducible refine lL H4.out.bx Tryz.underlying55 ?_)|(with_reducible refine lL H4.out.br Tryz.underlying55 ?_)|(go_at_call 127;(with_reducible refine HS.out.mono ?_);rintro e w9 ⟨rfl,hb9⟩;rw[HE.out]))
    go_ret
    refine⟨?_,joinB H4.out.below hb9⟩
    rw[HQ.out.trans (Rc.rightB_yes (RI.out.2 ⟨HN.out,by have h3:=HA.out;simpa only[Bool.and_eq_true,decide_eq_true_eq]using h3,of_decide_eq_true HE.out⟩))]
    rfl
theorem right_clr (lsn prev txn page next nu ok os how root ep es:Int)(oo on ek:ByteArray)(ts:List Rc.TxnAt)(ds:List Rc.DirtyAt)(A B:Option Addr)(c d:Nat)(w:World)(hr:RecR w ⟨lsn,prev,txn,3,page,next,nu,⟨ok,os,oo,on⟩,how,root,⟨ek,ep,es⟩,ts,ds⟩ A c B d):
 Calls Tryz.prog 84 #[.agg (rcA lsn prev txn 3 page next nu ok os oo on how root ek ep es (.slice A ts.length c) (.slice B ds.length d))] w fun e w'=>e= .returned (.bool (Rc.rightB ⟨lsn,prev,txn,3,page,next,nu,⟨ok,os,oo,on⟩,how,root,⟨ek,ep,es⟩,ts,ds⟩))∧Below w.heap.size w w':=by
 have HOF:=Hq (fun W=>of_any 3 W)
 rw[show ofV 3= .tuple #[formV true false true false true,true]from rfl]at HOF
 have HNO:=Hq (fun W g h=>number3 lsn prev txn W g h)
 obtain⟨Q,hQ⟩:=ex (Rc.rightB ⟨lsn,prev,txn,3,page,next,nu,⟨ok,os,oo,on⟩,how,root,⟨ek,ep,es⟩,ts,ds⟩)
 rw[← hQ]
 have HQ:=Hq hQ
 have hsm:=hr.small
 simp only at hsm
 have hsm1:=hsm.1
 have hsm2:=hsm.2
 have HRR:=Hq hr
 clear hQ hr hsm
 have RI:=Hq (Rc.right_3 lsn prev txn page next nu how root ⟨ok,os,oo,on⟩ ⟨ek,ep,es⟩ ts ds)
 cases hn:decide (Rc.num lsn∧Rc.num prev∧Rc.num txn)with
 |false=>
  rw[hn]at HNO
  have HF:=Hq (HQ.out.trans (Rc.rightB_no fun h=>of_decide_eq_false hn (RI.out.1 h).1))
  clear hn RI
  go_enter Tryz.func84,Tryz.ntmps84
  go_wp2_with (first
   |(go_at_call 117;(with_reducible refine(HOF.out _).mono ?_);rintro e w1 ⟨rfl,hb1⟩;have hR:=blkCell (blkNew hb1);have hl1:w.heap.size<w1.heap.size:=(by have:=hb1.size;simp at this;omega);have HB1:=Hq hb1;clear hb1)
   |(go_at_call 119;(with_reducible refine(HNO.out _ _ ?_).mono ?_);(with_reducible exact new2 _ _ _);rintro e w2 ⟨rfl,hb2⟩;have hR2:=blkCell (blkOld (blkNew HB1.out) (joinB (pastAlloc (allocB _ _)) hb2));have hl2:w1.heap.size+1<w2.heap.size:=(by have:=hb2.size;simp at this;omega);have HB2:=Hq hb2;clear hb2)
   |(with_reducible refine sN (rcA lsn prev txn 3 0 0 0 0 0 ⟨#[]⟩ ⟨#[]⟩ 0 0 ⟨#[]⟩ 0 0 (.slice none 0 0) (.slice none 0 0)) ?_))
  go_ret
  exact⟨by rw[HF.out];rfl,joinB (joinB (allocB _ _) HB1.out) (joinB (pastAlloc (allocB _ _)) HB2.out)⟩
 |true=>
  rw[hn]at HNO
  have HN:=Hq (of_decide_eq_true hn)
  clear hn
  go_enter Tryz.func84,Tryz.ntmps84
  go_upto_region 5 with(first
   |(go_at_call 117;(with_reducible refine(HOF.out _).mono ?_);rintro e w1 ⟨rfl,hb1⟩;have hR:=blkCell (blkNew hb1);have hl1:w.heap.size<w1.heap.size:=(by have:=hb1.size;simp at this;omega);have HB1:=Hq hb1;clear hb1)
   |(go_at_call 119;(with_reducible refine(HNO.out _ _ ?_).mono ?_);(with_reducible exact new2 _ _ _);rintro e w2 ⟨rfl,hb2⟩;have hR2:=blkCell (blkOld (blkNew HB1.out) (joinB (pastAlloc (allocB _ _)) hb2));have hl2:w1.heap.size+1<w2.heap.size:=(by have:=hb2.size;simp at this;omega);have HB2:=Hq hb2;clear hb2)
   |(with_reducible refine sN (rcA lsn prev txn 3 0 0 0 0 0 ⟨#[]⟩ ⟨#[]⟩ 0 0 ⟨#[]⟩ 0 0 (.slice none 0 0) (.slice none 0 0)) ?_))
  have HX:=Hq (boxes_new (R:=(rcA lsn prev txn 3 page next nu ok os oo on how root ek ep es (.slice A ts.length c) (.slice B ds.length d))) (F:=#[true,false,true,false,true]) (X:=(rcA lsn prev txn 3 0 0 0 0 0 ⟨#[]⟩ ⟨#[]⟩ 0 0 ⟨#[]⟩ 0 0 (.slice none 0 0) (.slice none 0 0))) HB1.out HB2.out)
  clear hR hR2 HNO HOF HB1 HB2
  obtain⟨V,hV⟩:=ex (w2.alloc (.cells (rcA lsn prev txn 3 0 0 0 0 0 ⟨#[]⟩ ⟨#[]⟩ 0 0 ⟨#[]⟩ 0 0 (.slice none 0 0) (.slice none 0 0)) 55))
  rw[← hV]at HX ⊢
  clear hV
  have hR:=blkCell HX.out.br
  have hF:=blkCell HX.out.bf
  go_upto_region 6 with(fail)
  go_cut [4] (fun s we=>s= .bool (decide (Rc.pg page)&&decide (Rc.opR ⟨ok,os,oo,on⟩))∧Boxes w w.heap.size w1.heap.size w2.heap.size (rcA lsn prev txn 3 page next nu ok os oo on how root ek ep es (.slice A ts.length c) (.slice B ds.length d)) #[true,false,true,false,true] (rcA lsn prev txn 3 0 0 0 0 0 ⟨#[]⟩ ⟨#[]⟩ 0 0 ⟨#[]⟩ 0 0 (.slice none 0 0) (.slice none 0 0)) we)
  case first=>
   cases hp:decide (Rc.pg page)with
   |false=>
    have HP:=Hq hp
    clear hp
    go_wp2_with (first|(go_at_call 120;(with_reducible refine(paged1 page _ _ ?_).mono ?_);(with_reducible exact heap_alloc_new _ _);rintro e w3 ⟨rfl,hb3⟩;rw[HP.out]))
    go_meet
    case rel=>exact⟨by simp[HP.out],HX.out.step (joinB (allocB _ _) hb3)⟩
   |true=>
    have HP:=Hq hp
    clear hp
    generalize hqo:decide (Rc.opR ⟨ok,os,oo,on⟩)=qo
    have HO:=Hq hqo
    clear hqo
    go_wp2_with (first|(go_at_call 120;(with_reducible refine(paged1 page _ _ ?_).mono ?_);(with_reducible exact heap_alloc_new _ _);rintro e w3 ⟨rfl,hb3⟩;rw[HP.out];have hR3:=blkCell (HX.out.step (joinB (allocB _ _) hb3)).br)|(go_at_call 121;(with_reducible refine(op_any ⟨ok,os,oo,on⟩ _).mono ?_);rintro e w4 ⟨rfl,hb4⟩;rw[HO.out]))
    go_meet
    case rel=>exact⟨by simp[HP.out,HO.out],(HX.out.step (joinB (allocB _ _) hb3)).step hb4⟩
  case rest=>
  obtain⟨W1,rfl⟩:=ex wc
  obtain⟨rfl,hB1⟩:=hcut
  have H1:=Hq hB1
  clear hR hF hB1 HX
  have hR:=blkCell H1.out.br
  have hF:=blkCell H1.out.bf
  have hXc:=blkCell H1.out.bx
  have hXz:=blkFrozen H1.out.bx
  have hne:w.heap.size≠w2.heap.size:=by have:=H1.out.ab;omega
  go_upto_region 7 with(fail)
  go_cut [] (fun we=>Boxes w w.heap.size w1.heap.size w2.heap.size (rcA lsn prev txn 3 page next nu ok os oo on how root ek ep es (.slice A ts.length c) (.slice B ds.length d)) #[true,false,true,false,true] (rcA lsn prev txn 3 page 0 0 ok os oo on 0 0 ⟨#[]⟩ 0 0 (.slice none 0 0) (.slice none 0 0)) we)
  case first=>
   go_region
   all_goals
    go_wp2_with fail
    go_meet
    case rel=>
     first
      |(have h:=(((((H1.out.set 4 (.int .i64 page)).set 7 (.int .i64 ok)).set 8 (.int .i64 os)).set 9 (.string oo)).set 10 (.string on)).drew;simpa using h)
      |(have h:=(((((H1.out.set 7 (.int .i64 ok)).set 8 (.int .i64 os)).set 9 (.string oo)).set 10 (.string on)).set 4 (.int .i64 page)).drew;simpa using h)
  case rest=>
  obtain⟨W2,rfl⟩:=ex wc
  have H2:=Hq hcut
  clear hR hF hXc hXz hcut H1
  have hR:=blkCell H2.out.br
  have hF:=blkCell H2.out.bf
  go_upto_region 12 with(fail)
  go_cut [4] (fun s we=>s= .bool ((decide (Rc.pg page)&&decide (Rc.opR ⟨ok,os,oo,on⟩))&&decide (Rc.num next))∧Boxes w w.heap.size w1.heap.size w2.heap.size (rcA lsn prev txn 3 page next nu ok os oo on how root ek ep es (.slice A ts.length c) (.slice B ds.length d)) #[true,false,true,false,true] (rcA lsn prev txn 3 page 0 0 ok os oo on 0 0 ⟨#[]⟩ 0 0 (.slice none 0 0) (.slice none 0 0)) we)
  case first=>
   generalize hqa:(decide (Rc.pg page)&&decide (Rc.opR ⟨ok,os,oo,on⟩))=qa
   have HA:=Hq hqa
   clear hqa
   cases qa with
   |false=>
    go_wp2_with fail
    go_meet
    case rel=>exact⟨by simp[HA.out],H2.out⟩
   |true=>
    generalize hqt:decide (Rc.num next)=qt
    have HT:=Hq hqt
    clear hqt
    go_wp2_with (first|(go_at_call 119;(with_reducible refine(number1 next _ _ ?_).mono ?_);(with_reducible exact heap_alloc_new _ _);rintro e w5 ⟨rfl,hb5⟩;rw[HT.out]))
    go_meet
    case rel=>exact⟨by simp[HA.out,HT.out],H2.out.step (joinB (allocB _ _) hb5)⟩
  case rest=>
  obtain⟨W3,rfl⟩:=ex wc
  obtain⟨rfl,hB3⟩:=hcut
  have H3:=Hq hB3
  clear hR hF hB3 H2
  have hR:=blkCell H3.out.br
  have hF:=blkCell H3.out.bf
  have hXc:=blkCell H3.out.bx
  have hXz:=blkFrozen H3.out.bx
  have hne:w.heap.size≠w2.heap.size:=by have:=H3.out.ab;omega
  go_upto_region 14 with(fail)
  have h:=H3.out.set 5 (.int .i64 next)
  have H4:Hid (Boxes w w.heap.size w1.heap.size w2.heap.size (rcA lsn prev txn 3 page next nu ok os oo on how root ek ep es (.slice A ts.length c) (.slice B ds.length d)) #[true,false,true,false,true] (rcA lsn prev txn 3 page next 0 ok os oo on 0 0 ⟨#[]⟩ 0 0 (.slice none 0 0) (.slice none 0 0)) _):=Hq (by simpa using h)
  clear h hR hF hXc hXz H3
  generalize World.setCell _ _ _=W4 at H4 ⊢
  have hR:=blkCell H4.out.br
  have hF:=blkCell H4.out.bf
  go_upto_region 19 with(fail)
  generalize hqa:((decide (Rc.pg page)&&decide (Rc.opR ⟨ok,os,oo,on⟩))&&decide (Rc.num next))=qa
  have HA:=Hq hqa
  clear hqa
  cases qa with
  |false=>
   go_wp2_with fail
   go_ret
   refine⟨?_,H4.out.below⟩
   have HF:=HQ.out.trans (Rc.rightB_no fun h=>by
    have h2:=(RI.out.1 h).2.1
    have h3:=HA.out
    simp only[Bool.and_eq_false_iff,decide_eq_false_iff_not]at h3
    grind)
   rw[HF]
   rfl
  |true=>
   have HS:=Hq (same_any ⟨lsn,prev,txn,3,page,next,0,⟨ok,os,oo,on⟩,0,0,⟨⟨#[]⟩,0,0⟩,[],[]⟩ ⟨lsn,prev,txn,3,page,next,nu,⟨ok,os,oo,on⟩,how,root,⟨ek,ep,es⟩,ts,ds⟩ none A none B 0 c 0 d W4 ⟨(Reads.none_ _ _ _ _),(Reads.none_ _ _ _ _),⟨by simp,by simp⟩⟩ (HRR.out.below H4.out.below))
   dsimp only[recV,recA,List.length_nil]at HS
   cases he:decide ((⟨lsn,prev,txn,3,page,next,0,⟨ok,os,oo,on⟩,0,0,⟨⟨#[]⟩,0,0⟩,[],[]⟩:Rc.Rec)=⟨lsn,prev,txn,3,page,next,nu,⟨ok,os,oo,on⟩,how,root,⟨ek,ep,es⟩,ts,ds⟩)with
   |false=>
    have HE:=Hq he
    clear he
    go_wp2_with (first|(with_reducible refine lL H4.out.bx Tryz.underlying55 ?_)|(with_reducible refine lL H4.out.br Tryz.underlying55 ?_)|(go_at_call 127;(with_reducible refine HS.out.mono ?_);rintro e w9 ⟨rfl,hb9⟩;rw[HE.out]))
    go_ret
    refine⟨?_,joinB H4.out.below hb9⟩
    rw[HQ.out.trans (Rc.rightB_no fun h=>of_decide_eq_false HE.out (RI.out.1 h).2.2)]
    rfl
   |true=>
    have HE:=Hq he
    clear he
    go_wp2_with (first|(with_reducible refine lL H4.out.bx Tryz.underlying55 ?_)|(with_reducible refine lL H4.out.br Tryz.underlying55 ?_)|(go_at_call 127;(with_reducible refine HS.out.mono ?_);rintro e w9 ⟨rfl,hb9⟩;rw[HE.out]))
    go_ret
    refine⟨?_,joinB H4.out.below hb9⟩
    rw[HQ.out.trans (Rc.rightB_yes (RI.out.2 ⟨HN.out,by have h3:=HA.out;simpa only[Bool.and_eq_true,decide_eq_true_eq]using h3,of_decide_eq_true HE.out⟩))]
    rfl
theorem right_nest (lsn prev txn page next nu ok os how root ep es:Int)(oo on ek:ByteArray)(ts:List Rc.TxnAt)(ds:List Rc.DirtyAt)(A B:Option Addr)(c d:Nat)(w:World)(hr:RecR w ⟨lsn,prev,txn,4,page,next,nu,⟨ok,os,oo,on⟩,how,root,⟨ek,ep,es⟩,ts,ds⟩ A c B d):
 Calls Tryz.prog 84 #[.agg (rcA lsn prev txn 4 page next nu ok os oo on how root ek ep es (.slice A ts.length c) (.slice B ds.length d))] w fun e w'=>e= .returned (.bool (Rc.rightB ⟨lsn,prev,txn,4,page,next,nu,⟨ok,os,oo,on⟩,how,root,⟨ek,ep,es⟩,ts,ds⟩))∧Below w.heap.size w w':=by
 have HOF:=Hq (fun W=>of_any 4 W)
 rw[show ofV 4= .tuple #[formV false false true false true,true]from rfl]at HOF
 have HNO:=Hq (fun W g h=>number3 lsn prev txn W g h)
 obtain⟨Q,hQ⟩:=ex (Rc.rightB ⟨lsn,prev,txn,4,page,next,nu,⟨ok,os,oo,on⟩,how,root,⟨ek,ep,es⟩,ts,ds⟩)
 rw[← hQ]
 have HQ:=Hq hQ
 have hsm:=hr.small
 simp only at hsm
 have hsm1:=hsm.1
 have hsm2:=hsm.2
 have HRR:=Hq hr
 clear hQ hr hsm
 have RI:=Hq (Rc.right_4 lsn prev txn page next nu how root ⟨ok,os,oo,on⟩ ⟨ek,ep,es⟩ ts ds)
 cases hn:decide (Rc.num lsn∧Rc.num prev∧Rc.num txn)with
 |false=>
  rw[hn]at HNO
  have HF:=Hq (HQ.out.trans (Rc.rightB_no fun h=>of_decide_eq_false hn (RI.out.1 h).1))
  clear hn RI
  go_enter Tryz.func84,Tryz.ntmps84
  go_wp2_with (first
   |(go_at_call 117;(with_reducible refine(HOF.out _).mono ?_);rintro e w1 ⟨rfl,hb1⟩;have hR:=blkCell (blkNew hb1);have hl1:w.heap.size<w1.heap.size:=(by have:=hb1.size;simp at this;omega);have HB1:=Hq hb1;clear hb1)
   |(go_at_call 119;(with_reducible refine(HNO.out _ _ ?_).mono ?_);(with_reducible exact new2 _ _ _);rintro e w2 ⟨rfl,hb2⟩;have hR2:=blkCell (blkOld (blkNew HB1.out) (joinB (pastAlloc (allocB _ _)) hb2));have hl2:w1.heap.size+1<w2.heap.size:=(by have:=hb2.size;simp at this;omega);have HB2:=Hq hb2;clear hb2)
   |(with_reducible refine sN (rcA lsn prev txn 4 0 0 0 0 0 ⟨#[]⟩ ⟨#[]⟩ 0 0 ⟨#[]⟩ 0 0 (.slice none 0 0) (.slice none 0 0)) ?_))
  go_ret
  exact⟨by rw[HF.out];rfl,joinB (joinB (allocB _ _) HB1.out) (joinB (pastAlloc (allocB _ _)) HB2.out)⟩
 |true=>
  rw[hn]at HNO
  have HN:=Hq (of_decide_eq_true hn)
  clear hn
  go_enter Tryz.func84,Tryz.ntmps84
  go_upto_region 5 with(first
   |(go_at_call 117;(with_reducible refine(HOF.out _).mono ?_);rintro e w1 ⟨rfl,hb1⟩;have hR:=blkCell (blkNew hb1);have hl1:w.heap.size<w1.heap.size:=(by have:=hb1.size;simp at this;omega);have HB1:=Hq hb1;clear hb1)
   |(go_at_call 119;(with_reducible refine(HNO.out _ _ ?_).mono ?_);(with_reducible exact new2 _ _ _);rintro e w2 ⟨rfl,hb2⟩;have hR2:=blkCell (blkOld (blkNew HB1.out) (joinB (pastAlloc (allocB _ _)) hb2));have hl2:w1.heap.size+1<w2.heap.size:=(by have:=hb2.size;simp at this;omega);have HB2:=Hq hb2;clear hb2)
   |(with_reducible refine sN (rcA lsn prev txn 4 0 0 0 0 0 ⟨#[]⟩ ⟨#[]⟩ 0 0 ⟨#[]⟩ 0 0 (.slice none 0 0) (.slice none 0 0)) ?_))
  have HX:=Hq (boxes_new (R:=(rcA lsn prev txn 4 page next nu ok os oo on how root ek ep es (.slice A ts.length c) (.slice B ds.length d))) (F:=#[false,false,true,false,true]) (X:=(rcA lsn prev txn 4 0 0 0 0 0 ⟨#[]⟩ ⟨#[]⟩ 0 0 ⟨#[]⟩ 0 0 (.slice none 0 0) (.slice none 0 0))) HB1.out HB2.out)
  clear hR hR2 HNO HOF HB1 HB2
  obtain⟨V,hV⟩:=ex (w2.alloc (.cells (rcA lsn prev txn 4 0 0 0 0 0 ⟨#[]⟩ ⟨#[]⟩ 0 0 ⟨#[]⟩ 0 0 (.slice none 0 0) (.slice none 0 0)) 55))
  rw[← hV]at HX ⊢
  clear hV
  have hR:=blkCell HX.out.br
  have hF:=blkCell HX.out.bf
  go_upto_region 12 with(fail)
  go_cut [4] (fun s we=>s= .bool (decide (Rc.num next))∧Boxes w w.heap.size w1.heap.size w2.heap.size (rcA lsn prev txn 4 page next nu ok os oo on how root ek ep es (.slice A ts.length c) (.slice B ds.length d)) #[false,false,true,false,true] (rcA lsn prev txn 4 0 0 0 0 0 ⟨#[]⟩ ⟨#[]⟩ 0 0 ⟨#[]⟩ 0 0 (.slice none 0 0) (.slice none 0 0)) we)
  case first=>
   generalize hqt:decide (Rc.num next)=qt
   have HT:=Hq hqt
   clear hqt
   go_wp2_with (first|(go_at_call 119;(with_reducible refine(number1 next _ _ ?_).mono ?_);(with_reducible exact heap_alloc_new _ _);rintro e w5 ⟨rfl,hb5⟩;rw[HT.out]))
   go_meet
   case rel=>exact⟨by simp[HT.out],HX.out.step (joinB (allocB _ _) hb5)⟩
  case rest=>
  obtain⟨W1,rfl⟩:=ex wc
  obtain⟨rfl,hB1⟩:=hcut
  have H1:=Hq hB1
  clear hR hF hB1 HX
  have hR:=blkCell H1.out.br
  have hF:=blkCell H1.out.bf
  have hXc:=blkCell H1.out.bx
  have hXz:=blkFrozen H1.out.bx
  have hne:w.heap.size≠w2.heap.size:=by have:=H1.out.ab;omega
  go_upto_region 14 with(fail)
  have h:=H1.out.set 5 (.int .i64 next)
  have H2:Hid (Boxes w w.heap.size w1.heap.size w2.heap.size (rcA lsn prev txn 4 page next nu ok os oo on how root ek ep es (.slice A ts.length c) (.slice B ds.length d)) #[false,false,true,false,true] (rcA lsn prev txn 4 0 next 0 0 0 ⟨#[]⟩ ⟨#[]⟩ 0 0 ⟨#[]⟩ 0 0 (.slice none 0 0) (.slice none 0 0)) _):=Hq (by simpa using h)
  clear h hR hF hXc hXz H1
  generalize World.setCell _ _ _=W2 at H2 ⊢
  have hR:=blkCell H2.out.br
  have hF:=blkCell H2.out.bf
  go_upto_region 19 with(fail)
  generalize hqa:(decide (Rc.num next))=qa
  have HA:=Hq hqa
  clear hqa
  cases qa with
  |false=>
   go_wp2_with fail
   go_ret
   refine⟨?_,H2.out.below⟩
   have HF:=HQ.out.trans (Rc.rightB_no fun h=>by
    have h2:=(RI.out.1 h).2.1
    have h3:=HA.out
    simp only[decide_eq_false_iff_not]at h3
    grind)
   rw[HF]
   rfl
  |true=>
   have HS:=Hq (same_any ⟨lsn,prev,txn,4,0,next,0,⟨0,0,⟨#[]⟩,⟨#[]⟩⟩,0,0,⟨⟨#[]⟩,0,0⟩,[],[]⟩ ⟨lsn,prev,txn,4,page,next,nu,⟨ok,os,oo,on⟩,how,root,⟨ek,ep,es⟩,ts,ds⟩ none A none B 0 c 0 d W2 ⟨(Reads.none_ _ _ _ _),(Reads.none_ _ _ _ _),⟨by simp,by simp⟩⟩ (HRR.out.below H2.out.below))
   dsimp only[recV,recA,List.length_nil]at HS
   cases he:decide ((⟨lsn,prev,txn,4,0,next,0,⟨0,0,⟨#[]⟩,⟨#[]⟩⟩,0,0,⟨⟨#[]⟩,0,0⟩,[],[]⟩:Rc.Rec)=⟨lsn,prev,txn,4,page,next,nu,⟨ok,os,oo,on⟩,how,root,⟨ek,ep,es⟩,ts,ds⟩)with
   |false=>
    have HE:=Hq he
    clear he
    go_wp2_with (first|(with_reducible refine lL H2.out.bx Tryz.underlying55 ?_)|(with_reducible refine lL H2.out.br Tryz.underlying55 ?_)|(go_at_call 127;(with_reducible refine HS.out.mono ?_);rintro e w9 ⟨rfl,hb9⟩;rw[HE.out]))
    go_ret
    refine⟨?_,joinB H2.out.below hb9⟩
    rw[HQ.out.trans (Rc.rightB_no fun h=>of_decide_eq_false HE.out (RI.out.1 h).2.2)]
    rfl
   |true=>
    have HE:=Hq he
    clear he
    go_wp2_with (first|(with_reducible refine lL H2.out.bx Tryz.underlying55 ?_)|(with_reducible refine lL H2.out.br Tryz.underlying55 ?_)|(go_at_call 127;(with_reducible refine HS.out.mono ?_);rintro e w9 ⟨rfl,hb9⟩;rw[HE.out]))
    go_ret
    refine⟨?_,joinB H2.out.below hb9⟩
    rw[HQ.out.trans (Rc.rightB_yes (RI.out.2 ⟨HN.out,by have h3:=HA.out;simpa only[Bool.and_eq_true,decide_eq_true_eq]using h3,of_decide_eq_true HE.out⟩))]
    rfl
theorem right_image (lsn prev txn page next nu ok os how root ep es:Int)(oo on ek:ByteArray)(ts:List Rc.TxnAt)(ds:List Rc.DirtyAt)(A B:Option Addr)(c d:Nat)(w:World)(hr:RecR w ⟨lsn,prev,txn,8,page,next,nu,⟨ok,os,oo,on⟩,how,root,⟨ek,ep,es⟩,ts,ds⟩ A c B d):
 Calls Tryz.prog 84 #[.agg (rcA lsn prev txn 8 page next nu ok os oo on how root ek ep es (.slice A ts.length c) (.slice B ds.length d))] w fun e w'=>e= .returned (.bool (Rc.rightB ⟨lsn,prev,txn,8,page,next,nu,⟨ok,os,oo,on⟩,how,root,⟨ek,ep,es⟩,ts,ds⟩))∧Below w.heap.size w w':=by
 have HOF:=Hq (fun W=>of_any 8 W)
 rw[show ofV 8= .tuple #[formV true false false false true,true]from rfl]at HOF
 have HNO:=Hq (fun W g h=>number3 lsn prev txn W g h)
 obtain⟨Q,hQ⟩:=ex (Rc.rightB ⟨lsn,prev,txn,8,page,next,nu,⟨ok,os,oo,on⟩,how,root,⟨ek,ep,es⟩,ts,ds⟩)
 rw[← hQ]
 have HQ:=Hq hQ
 have hsm:=hr.small
 simp only at hsm
 have hsm1:=hsm.1
 have hsm2:=hsm.2
 have HRR:=Hq hr
 clear hQ hr hsm
 have RI:=Hq (Rc.right_8 lsn prev txn page next nu how root ⟨ok,os,oo,on⟩ ⟨ek,ep,es⟩ ts ds)
 cases hn:decide (Rc.num lsn∧Rc.num prev∧Rc.num txn)with
 |false=>
  rw[hn]at HNO
  have HF:=Hq (HQ.out.trans (Rc.rightB_no fun h=>of_decide_eq_false hn (RI.out.1 h).1))
  clear hn RI
  go_enter Tryz.func84,Tryz.ntmps84
  go_wp2_with (first
   |(go_at_call 117;(with_reducible refine(HOF.out _).mono ?_);rintro e w1 ⟨rfl,hb1⟩;have hR:=blkCell (blkNew hb1);have hl1:w.heap.size<w1.heap.size:=(by have:=hb1.size;simp at this;omega);have HB1:=Hq hb1;clear hb1)
   |(go_at_call 119;(with_reducible refine(HNO.out _ _ ?_).mono ?_);(with_reducible exact new2 _ _ _);rintro e w2 ⟨rfl,hb2⟩;have hR2:=blkCell (blkOld (blkNew HB1.out) (joinB (pastAlloc (allocB _ _)) hb2));have hl2:w1.heap.size+1<w2.heap.size:=(by have:=hb2.size;simp at this;omega);have HB2:=Hq hb2;clear hb2)
   |(with_reducible refine sN (rcA lsn prev txn 8 0 0 0 0 0 ⟨#[]⟩ ⟨#[]⟩ 0 0 ⟨#[]⟩ 0 0 (.slice none 0 0) (.slice none 0 0)) ?_))
  go_ret
  exact⟨by rw[HF.out];rfl,joinB (joinB (allocB _ _) HB1.out) (joinB (pastAlloc (allocB _ _)) HB2.out)⟩
 |true=>
  rw[hn]at HNO
  have HN:=Hq (of_decide_eq_true hn)
  clear hn
  go_enter Tryz.func84,Tryz.ntmps84
  go_upto_region 5 with(first
   |(go_at_call 117;(with_reducible refine(HOF.out _).mono ?_);rintro e w1 ⟨rfl,hb1⟩;have hR:=blkCell (blkNew hb1);have hl1:w.heap.size<w1.heap.size:=(by have:=hb1.size;simp at this;omega);have HB1:=Hq hb1;clear hb1)
   |(go_at_call 119;(with_reducible refine(HNO.out _ _ ?_).mono ?_);(with_reducible exact new2 _ _ _);rintro e w2 ⟨rfl,hb2⟩;have hR2:=blkCell (blkOld (blkNew HB1.out) (joinB (pastAlloc (allocB _ _)) hb2));have hl2:w1.heap.size+1<w2.heap.size:=(by have:=hb2.size;simp at this;omega);have HB2:=Hq hb2;clear hb2)
   |(with_reducible refine sN (rcA lsn prev txn 8 0 0 0 0 0 ⟨#[]⟩ ⟨#[]⟩ 0 0 ⟨#[]⟩ 0 0 (.slice none 0 0) (.slice none 0 0)) ?_))
  have HX:=Hq (boxes_new (R:=(rcA lsn prev txn 8 page next nu ok os oo on how root ek ep es (.slice A ts.length c) (.slice B ds.length d))) (F:=#[true,false,false,false,true]) (X:=(rcA lsn prev txn 8 0 0 0 0 0 ⟨#[]⟩ ⟨#[]⟩ 0 0 ⟨#[]⟩ 0 0 (.slice none 0 0) (.slice none 0 0))) HB1.out HB2.out)
  clear hR hR2 HNO HOF HB1 HB2
  obtain⟨V,hV⟩:=ex (w2.alloc (.cells (rcA lsn prev txn 8 0 0 0 0 0 ⟨#[]⟩ ⟨#[]⟩ 0 0 ⟨#[]⟩ 0 0 (.slice none 0 0) (.slice none 0 0)) 55))
  rw[← hV]at HX ⊢
  clear hV
  have hR:=blkCell HX.out.br
  have hF:=blkCell HX.out.bf
  go_upto_region 6 with(fail)
  go_cut [4] (fun s we=>s= .bool (decide (Rc.pg page)&&decide (Rc.opR ⟨ok,os,oo,on⟩))∧Boxes w w.heap.size w1.heap.size w2.heap.size (rcA lsn prev txn 8 page next nu ok os oo on how root ek ep es (.slice A ts.length c) (.slice B ds.length d)) #[true,false,false,false,true] (rcA lsn prev txn 8 0 0 0 0 0 ⟨#[]⟩ ⟨#[]⟩ 0 0 ⟨#[]⟩ 0 0 (.slice none 0 0) (.slice none 0 0)) we)
  case first=>
   cases hp:decide (Rc.pg page)with
   |false=>
    have HP:=Hq hp
    clear hp
    go_wp2_with (first|(go_at_call 120;(with_reducible refine(paged1 page _ _ ?_).mono ?_);(with_reducible exact heap_alloc_new _ _);rintro e w3 ⟨rfl,hb3⟩;rw[HP.out]))
    go_meet
    case rel=>exact⟨by simp[HP.out],HX.out.step (joinB (allocB _ _) hb3)⟩
   |true=>
    have HP:=Hq hp
    clear hp
    generalize hqo:decide (Rc.opR ⟨ok,os,oo,on⟩)=qo
    have HO:=Hq hqo
    clear hqo
    go_wp2_with (first|(go_at_call 120;(with_reducible refine(paged1 page _ _ ?_).mono ?_);(with_reducible exact heap_alloc_new _ _);rintro e w3 ⟨rfl,hb3⟩;rw[HP.out];have hR3:=blkCell (HX.out.step (joinB (allocB _ _) hb3)).br)|(go_at_call 121;(with_reducible refine(op_any ⟨ok,os,oo,on⟩ _).mono ?_);rintro e w4 ⟨rfl,hb4⟩;rw[HO.out]))
    go_meet
    case rel=>exact⟨by simp[HP.out,HO.out],(HX.out.step (joinB (allocB _ _) hb3)).step hb4⟩
  case rest=>
  obtain⟨W1,rfl⟩:=ex wc
  obtain⟨rfl,hB1⟩:=hcut
  have H1:=Hq hB1
  clear hR hF hB1 HX
  have hR:=blkCell H1.out.br
  have hF:=blkCell H1.out.bf
  have hXc:=blkCell H1.out.bx
  have hXz:=blkFrozen H1.out.bx
  have hne:w.heap.size≠w2.heap.size:=by have:=H1.out.ab;omega
  go_upto_region 7 with(fail)
  go_cut [] (fun we=>Boxes w w.heap.size w1.heap.size w2.heap.size (rcA lsn prev txn 8 page next nu ok os oo on how root ek ep es (.slice A ts.length c) (.slice B ds.length d)) #[true,false,false,false,true] (rcA lsn prev txn 8 page 0 0 ok os oo on 0 0 ⟨#[]⟩ 0 0 (.slice none 0 0) (.slice none 0 0)) we)
  case first=>
   go_region
   all_goals
    go_wp2_with fail
    go_meet
    case rel=>
     first
      |(have h:=(((((H1.out.set 4 (.int .i64 page)).set 7 (.int .i64 ok)).set 8 (.int .i64 os)).set 9 (.string oo)).set 10 (.string on)).drew;simpa using h)
      |(have h:=(((((H1.out.set 7 (.int .i64 ok)).set 8 (.int .i64 os)).set 9 (.string oo)).set 10 (.string on)).set 4 (.int .i64 page)).drew;simpa using h)
  case rest=>
  obtain⟨W2,rfl⟩:=ex wc
  have H2:=Hq hcut
  clear hR hF hXc hXz hcut H1
  have hR:=blkCell H2.out.br
  have hF:=blkCell H2.out.bf
  go_upto_region 19 with(fail)
  generalize hqa:(decide (Rc.pg page)&&decide (Rc.opR ⟨ok,os,oo,on⟩))=qa
  have HA:=Hq hqa
  clear hqa
  cases qa with
  |false=>
   go_wp2_with fail
   go_ret
   refine⟨?_,H2.out.below⟩
   have HF:=HQ.out.trans (Rc.rightB_no fun h=>by
    have h2:=(RI.out.1 h).2.1
    have h3:=HA.out
    simp only[Bool.and_eq_false_iff,decide_eq_false_iff_not]at h3
    grind)
   rw[HF]
   rfl
  |true=>
   have HS:=Hq (same_any ⟨lsn,prev,txn,8,page,0,0,⟨ok,os,oo,on⟩,0,0,⟨⟨#[]⟩,0,0⟩,[],[]⟩ ⟨lsn,prev,txn,8,page,next,nu,⟨ok,os,oo,on⟩,how,root,⟨ek,ep,es⟩,ts,ds⟩ none A none B 0 c 0 d W2 ⟨(Reads.none_ _ _ _ _),(Reads.none_ _ _ _ _),⟨by simp,by simp⟩⟩ (HRR.out.below H2.out.below))
   dsimp only[recV,recA,List.length_nil]at HS
   cases he:decide ((⟨lsn,prev,txn,8,page,0,0,⟨ok,os,oo,on⟩,0,0,⟨⟨#[]⟩,0,0⟩,[],[]⟩:Rc.Rec)=⟨lsn,prev,txn,8,page,next,nu,⟨ok,os,oo,on⟩,how,root,⟨ek,ep,es⟩,ts,ds⟩)with
   |false=>
    have HE:=Hq he
    clear he
    go_wp2_with (first|(with_reducible refine lL H2.out.bx Tryz.underlying55 ?_)|(with_reducible refine lL H2.out.br Tryz.underlying55 ?_)|(go_at_call 127;(with_reducible refine HS.out.mono ?_);rintro e w9 ⟨rfl,hb9⟩;rw[HE.out]))
    go_ret
    refine⟨?_,joinB H2.out.below hb9⟩
    rw[HQ.out.trans (Rc.rightB_no fun h=>of_decide_eq_false HE.out (RI.out.1 h).2.2)]
    rfl
   |true=>
    have HE:=Hq he
    clear he
    go_wp2_with (first|(with_reducible refine lL H2.out.bx Tryz.underlying55 ?_)|(with_reducible refine lL H2.out.br Tryz.underlying55 ?_)|(go_at_call 127;(with_reducible refine HS.out.mono ?_);rintro e w9 ⟨rfl,hb9⟩;rw[HE.out]))
    go_ret
    refine⟨?_,joinB H2.out.below hb9⟩
    rw[HQ.out.trans (Rc.rightB_yes (RI.out.2 ⟨HN.out,by have h3:=HA.out;simpa only[Bool.and_eq_true,decide_eq_true_eq]using h3,of_decide_eq_true HE.out⟩))]
    rfl
theorem right_check (lsn prev txn page next nu ok os how root ep es:Int)(oo on ek:ByteArray)(ts:List Rc.TxnAt)(ds:List Rc.DirtyAt)(A B:Option Addr)(c d:Nat)(w:World)(hr:RecR w ⟨lsn,prev,txn,9,page,next,nu,⟨ok,os,oo,on⟩,how,root,⟨ek,ep,es⟩,ts,ds⟩ A c B d):
 Calls Tryz.prog 84 #[.agg (rcA lsn prev txn 9 page next nu ok os oo on how root ek ep es (.slice A ts.length c) (.slice B ds.length d))] w fun e w'=>e= .returned (.bool (Rc.rightB ⟨lsn,prev,txn,9,page,next,nu,⟨ok,os,oo,on⟩,how,root,⟨ek,ep,es⟩,ts,ds⟩))∧Below w.heap.size w w':=by
 have HOF:=Hq (fun W=>of_any 9 W)
 rw[show ofV 9= .tuple #[formV false false false true true,true]from rfl]at HOF
 have HNO:=Hq (fun W g h=>number3 lsn prev txn W g h)
 obtain⟨Q,hQ⟩:=ex (Rc.rightB ⟨lsn,prev,txn,9,page,next,nu,⟨ok,os,oo,on⟩,how,root,⟨ek,ep,es⟩,ts,ds⟩)
 rw[← hQ]
 have HQ:=Hq hQ
 have hsm:=hr.small
 simp only at hsm
 have hsm1:=hsm.1
 have hsm2:=hsm.2
 have HRR:=Hq hr
 clear hQ hr hsm
 have RI:=Hq (Rc.right_9 lsn prev txn page next nu how root ⟨ok,os,oo,on⟩ ⟨ek,ep,es⟩ ts ds)
 cases hn:decide (Rc.num lsn∧Rc.num prev∧Rc.num txn)with
 |false=>
  rw[hn]at HNO
  have HF:=Hq (HQ.out.trans (Rc.rightB_no fun h=>of_decide_eq_false hn (RI.out.1 h).1))
  clear hn RI
  go_enter Tryz.func84,Tryz.ntmps84
  go_wp2_with (first
   |(go_at_call 117;(with_reducible refine(HOF.out _).mono ?_);rintro e w1 ⟨rfl,hb1⟩;have hR:=blkCell (blkNew hb1);have hl1:w.heap.size<w1.heap.size:=(by have:=hb1.size;simp at this;omega);have HB1:=Hq hb1;clear hb1)
   |(go_at_call 119;(with_reducible refine(HNO.out _ _ ?_).mono ?_);(with_reducible exact new2 _ _ _);rintro e w2 ⟨rfl,hb2⟩;have hR2:=blkCell (blkOld (blkNew HB1.out) (joinB (pastAlloc (allocB _ _)) hb2));have hl2:w1.heap.size+1<w2.heap.size:=(by have:=hb2.size;simp at this;omega);have HB2:=Hq hb2;clear hb2)
   |(with_reducible refine sN (rcA lsn prev txn 9 0 0 0 0 0 ⟨#[]⟩ ⟨#[]⟩ 0 0 ⟨#[]⟩ 0 0 (.slice none 0 0) (.slice none 0 0)) ?_))
  go_ret
  exact⟨by rw[HF.out];rfl,joinB (joinB (allocB _ _) HB1.out) (joinB (pastAlloc (allocB _ _)) HB2.out)⟩
 |true=>
  rw[hn]at HNO
  have HN:=Hq (of_decide_eq_true hn)
  clear hn
  go_enter Tryz.func84,Tryz.ntmps84
  go_upto_region 5 with(first
   |(go_at_call 117;(with_reducible refine(HOF.out _).mono ?_);rintro e w1 ⟨rfl,hb1⟩;have hR:=blkCell (blkNew hb1);have hl1:w.heap.size<w1.heap.size:=(by have:=hb1.size;simp at this;omega);have HB1:=Hq hb1;clear hb1)
   |(go_at_call 119;(with_reducible refine(HNO.out _ _ ?_).mono ?_);(with_reducible exact new2 _ _ _);rintro e w2 ⟨rfl,hb2⟩;have hR2:=blkCell (blkOld (blkNew HB1.out) (joinB (pastAlloc (allocB _ _)) hb2));have hl2:w1.heap.size+1<w2.heap.size:=(by have:=hb2.size;simp at this;omega);have HB2:=Hq hb2;clear hb2)
   |(with_reducible refine sN (rcA lsn prev txn 9 0 0 0 0 0 ⟨#[]⟩ ⟨#[]⟩ 0 0 ⟨#[]⟩ 0 0 (.slice none 0 0) (.slice none 0 0)) ?_))
  have HX:=Hq (boxes_new (R:=(rcA lsn prev txn 9 page next nu ok os oo on how root ek ep es (.slice A ts.length c) (.slice B ds.length d))) (F:=#[false,false,false,true,true]) (X:=(rcA lsn prev txn 9 0 0 0 0 0 ⟨#[]⟩ ⟨#[]⟩ 0 0 ⟨#[]⟩ 0 0 (.slice none 0 0) (.slice none 0 0))) HB1.out HB2.out)
  clear hR hR2 HNO HOF HB1 HB2
  obtain⟨V,hV⟩:=ex (w2.alloc (.cells (rcA lsn prev txn 9 0 0 0 0 0 ⟨#[]⟩ ⟨#[]⟩ 0 0 ⟨#[]⟩ 0 0 (.slice none 0 0) (.slice none 0 0)) 55))
  rw[← hV]at HX ⊢
  clear hV
  have hR:=blkCell HX.out.br
  have hF:=blkCell HX.out.bf
  go_upto_region 15 with(fail)
  go_cut [4] (fun s we=>s= .bool (decide (Rc.num nu)&&(decide (ts.length≤1000)&&decide (ds.length≤2000)))∧Boxes w w.heap.size w1.heap.size w2.heap.size (rcA lsn prev txn 9 page next nu ok os oo on how root ek ep es (.slice A ts.length c) (.slice B ds.length d)) #[false,false,false,true,true] (rcA lsn prev txn 9 0 0 0 0 0 ⟨#[]⟩ ⟨#[]⟩ 0 0 ⟨#[]⟩ 0 0 (.slice none 0 0) (.slice none 0 0)) we)
  case first=>
   cases hqt:decide (Rc.num nu)with
   |false=>
    have HT:=Hq hqt
    clear hqt
    go_wp2_with (first|(go_at_call 119;(with_reducible refine(number1 nu _ _ ?_).mono ?_);(with_reducible exact heap_alloc_new _ _);rintro e w5 ⟨rfl,hb5⟩;rw[HT.out];have hR5:=blkCell (HX.out.step (joinB (allocB _ _) hb5)).br))
    go_meet
    case rel=>exact⟨by simp[HT.out],HX.out.step (joinB (allocB _ _) hb5)⟩
   |true=>
    have HT:=Hq hqt
    clear hqt
    by_cases h1:ts.length≤1000
    ·have e1:decide ((ts.length:Int)≤1000)=true:=decide_eq_true (by omega)
     have HE1:=Hq (decide_eq_true h1)
     have h1':(ts.length:Int)≤1000:=by omega
     clear h1
     by_cases h2:ds.length≤2000
     ·have e2:decide ((ds.length:Int)≤2000)=true:=decide_eq_true (by omega)
      have HE2:=Hq (decide_eq_true h2)
      have h2':(ds.length:Int)≤2000:=by omega
      clear h2
      go_wp2_with (first|(go_at_call 119;(with_reducible refine(number1 nu _ _ ?_).mono ?_);(with_reducible exact heap_alloc_new _ _);rintro e w5 ⟨rfl,hb5⟩;rw[HT.out];have hR5:=blkCell (HX.out.step (joinB (allocB _ _) hb5)).br))
      go_meet
      case rel=>exact⟨by simp[HT.out,HE1.out,HE2.out],HX.out.step (joinB (allocB _ _) hb5)⟩
     ·have e2:decide ((ds.length:Int)≤2000)=false:=decide_eq_false (by omega)
      have HE2:=Hq (decide_eq_false h2)
      have h2':2000<(ds.length:Int):=by omega
      clear h2
      go_wp2_with (first|(go_at_call 119;(with_reducible refine(number1 nu _ _ ?_).mono ?_);(with_reducible exact heap_alloc_new _ _);rintro e w5 ⟨rfl,hb5⟩;rw[HT.out];have hR5:=blkCell (HX.out.step (joinB (allocB _ _) hb5)).br))
      go_meet
      case rel=>exact⟨by simp[HT.out,HE1.out,HE2.out],HX.out.step (joinB (allocB _ _) hb5)⟩
    ·have e1:decide ((ts.length:Int)≤1000)=false:=decide_eq_false (by omega)
     have HE1:=Hq (decide_eq_false h1)
     have h1':1000<(ts.length:Int):=by omega
     clear h1
     go_wp2_with (first|(go_at_call 119;(with_reducible refine(number1 nu _ _ ?_).mono ?_);(with_reducible exact heap_alloc_new _ _);rintro e w5 ⟨rfl,hb5⟩;rw[HT.out];have hR5:=blkCell (HX.out.step (joinB (allocB _ _) hb5)).br))
     go_meet
     case rel=>exact⟨by simp[HT.out,HE1.out],HX.out.step (joinB (allocB _ _) hb5)⟩
  case rest=>
  obtain⟨W1,rfl⟩:=ex wc
  obtain⟨rfl,hB1⟩:=hcut
  have H1:=Hq hB1
  clear hR hF hB1 HX
  have hR:=blkCell H1.out.br
  have hF:=blkCell H1.out.bf
  go_upto_region 16 with(fail)
  go_cut [4] (fun s we=>s= .bool ((decide (Rc.num nu)&&(decide (ts.length≤1000)&&decide (ds.length≤2000)))&&decide (∀ t∈ts,Rc.txnR t))∧Boxes w w.heap.size w1.heap.size w2.heap.size (rcA lsn prev txn 9 page next nu ok os oo on how root ek ep es (.slice A ts.length c) (.slice B ds.length d)) #[false,false,false,true,true] (rcA lsn prev txn 9 0 0 0 0 0 ⟨#[]⟩ ⟨#[]⟩ 0 0 ⟨#[]⟩ 0 0 (.slice none 0 0) (.slice none 0 0)) we)
  case first=>
   generalize hqa:(decide (Rc.num nu)&&(decide (ts.length≤1000)&&decide (ds.length≤2000)))=qa
   have HA:=Hq hqa
   clear hqa
   cases qa with
   |false=>
    go_wp2_with fail
    go_meet
    case rel=>exact⟨by simp[HA.out],H1.out⟩
   |true=>
    have hlen:ts.length≤1048576:=by have:=(of_decide_eq_true (Bool.and_eq_true_iff.1 (Bool.and_eq_true_iff.1 HA.out).2).1);omega
    have HC:=Hq (contains_txn ts hlen A c W1 (HRR.out.txns.below H1.out.below))
    generalize hqt:decide (∀ t∈ts,Rc.txnR t)=qt at HC
    have HT:=Hq hqt
    clear hqt
    go_wp2_with (first|(go_at_call 123;(with_reducible refine HC.out.mono ?_);rintro e w5 ⟨rfl,hb5⟩))
    go_meet
    case rel=>exact⟨by simp[HA.out,HT.out],H1.out.step hb5⟩
  case rest=>
  obtain⟨W2,rfl⟩:=ex wc
  obtain⟨rfl,hB2⟩:=hcut
  have H2:=Hq hB2
  clear hR hF hB2 H1
  have hR:=blkCell H2.out.br
  have hF:=blkCell H2.out.bf
  go_upto_region 17 with(fail)
  go_cut [4] (fun s we=>s= .bool (((decide (Rc.num nu)&&(decide (ts.length≤1000)&&decide (ds.length≤2000)))&&decide (∀ t∈ts,Rc.txnR t))&&decide (∀ d∈ds,Rc.dirtyR d))∧Boxes w w.heap.size w1.heap.size w2.heap.size (rcA lsn prev txn 9 page next nu ok os oo on how root ek ep es (.slice A ts.length c) (.slice B ds.length d)) #[false,false,false,true,true] (rcA lsn prev txn 9 0 0 0 0 0 ⟨#[]⟩ ⟨#[]⟩ 0 0 ⟨#[]⟩ 0 0 (.slice none 0 0) (.slice none 0 0)) we)
  case first=>
   generalize hqa:((decide (Rc.num nu)&&(decide (ts.length≤1000)&&decide (ds.length≤2000)))&&decide (∀ t∈ts,Rc.txnR t))=qa
   have HA:=Hq hqa
   clear hqa
   cases qa with
   |false=>
    go_wp2_with fail
    go_meet
    case rel=>exact⟨by simp[HA.out],H2.out⟩
   |true=>
    have hlen:ds.length≤1048576:=by have:=(of_decide_eq_true (Bool.and_eq_true_iff.1 (Bool.and_eq_true_iff.1 (Bool.and_eq_true_iff.1 HA.out).1).2).2);omega
    have HC:=Hq (contains_dirty ds hlen B d W2 (HRR.out.dirty.below H2.out.below))
    generalize hqt:decide (∀ d∈ds,Rc.dirtyR d)=qt at HC
    have HT:=Hq hqt
    clear hqt
    go_wp2_with (first|(go_at_call 125;(with_reducible refine HC.out.mono ?_);rintro e w5 ⟨rfl,hb5⟩))
    go_meet
    case rel=>exact⟨by simp[HA.out,HT.out],H2.out.step hb5⟩
  case rest=>
  obtain⟨W3,rfl⟩:=ex wc
  obtain⟨rfl,hB3⟩:=hcut
  have H3:=Hq hB3
  clear hR hF hB3 H2
  have hR:=blkCell H3.out.br
  have hF:=blkCell H3.out.bf
  have hXc:=blkCell H3.out.bx
  have hXz:=blkFrozen H3.out.bx
  have hne:w.heap.size≠w2.heap.size:=by have:=H3.out.ab;omega
  go_upto_region 18 with(fail)
  go_cut [] (fun we=>Boxes w w.heap.size w1.heap.size w2.heap.size (rcA lsn prev txn 9 page next nu ok os oo on how root ek ep es (.slice A ts.length c) (.slice B ds.length d)) #[false,false,false,true,true] (rcA lsn prev txn 9 0 0 nu 0 0 ⟨#[]⟩ ⟨#[]⟩ 0 0 ⟨#[]⟩ 0 0 (.slice A ts.length c) (.slice B ds.length d)) we)
  case first=>
   go_region
   all_goals
    go_wp2_with fail
    go_meet
    case rel=>
     first
      |(have h:=(((H3.out.set 6 (.int .i64 nu)).set 16 (.slice A ts.length c)).set 17 (.slice B ds.length d)).drew;simpa using h)
      |(have h:=(((H3.out.set 6 (.int .i64 nu)).set 17 (.slice B ds.length d)).set 16 (.slice A ts.length c)).drew;simpa using h)
      |(have h:=(((H3.out.set 16 (.slice A ts.length c)).set 6 (.int .i64 nu)).set 17 (.slice B ds.length d)).drew;simpa using h)
      |(have h:=(((H3.out.set 16 (.slice A ts.length c)).set 17 (.slice B ds.length d)).set 6 (.int .i64 nu)).drew;simpa using h)
      |(have h:=(((H3.out.set 17 (.slice B ds.length d)).set 6 (.int .i64 nu)).set 16 (.slice A ts.length c)).drew;simpa using h)
      |(have h:=(((H3.out.set 17 (.slice B ds.length d)).set 16 (.slice A ts.length c)).set 6 (.int .i64 nu)).drew;simpa using h)
  case rest=>
  obtain⟨W4,rfl⟩:=ex wc
  have H4:=Hq hcut
  clear hR hF hXc hXz hcut H3
  have hR:=blkCell H4.out.br
  have hF:=blkCell H4.out.bf
  go_upto_region 19 with(fail)
  generalize hqa:(((decide (Rc.num nu)&&(decide (ts.length≤1000)&&decide (ds.length≤2000)))&&decide (∀ t∈ts,Rc.txnR t))&&decide (∀ d∈ds,Rc.dirtyR d))=qa
  have HA:=Hq hqa
  clear hqa
  cases qa with
  |false=>
   go_wp2_with fail
   go_ret
   refine⟨?_,H4.out.below⟩
   have HF:=HQ.out.trans (Rc.rightB_no fun h=>by
    have h2:=(RI.out.1 h).2.1
    have h3:=HA.out
    simp only[Bool.and_eq_false_iff,decide_eq_false_iff_not]at h3
    grind)
   rw[HF]
   rfl
  |true=>
   have HS:=Hq (same_any ⟨lsn,prev,txn,9,0,0,nu,⟨0,0,⟨#[]⟩,⟨#[]⟩⟩,0,0,⟨⟨#[]⟩,0,0⟩,ts,ds⟩ ⟨lsn,prev,txn,9,page,next,nu,⟨ok,os,oo,on⟩,how,root,⟨ek,ep,es⟩,ts,ds⟩ A A B B c c d d W4 ⟨(HRR.out.txns.below H4.out.below),(HRR.out.dirty.below H4.out.below),⟨hsm1,hsm2⟩⟩ (HRR.out.below H4.out.below))
   dsimp only[recV,recA,List.length_nil]at HS
   cases he:decide ((⟨lsn,prev,txn,9,0,0,nu,⟨0,0,⟨#[]⟩,⟨#[]⟩⟩,0,0,⟨⟨#[]⟩,0,0⟩,ts,ds⟩:Rc.Rec)=⟨lsn,prev,txn,9,page,next,nu,⟨ok,os,oo,on⟩,how,root,⟨ek,ep,es⟩,ts,ds⟩)with
   |false=>
    have HE:=Hq he
    clear he
    go_wp2_with (first|(with_reducible refine lL H4.out.bx Tryz.underlying55 ?_)|(with_reducible refine lL H4.out.br Tryz.underlying55 ?_)|(go_at_call 127;(with_reducible refine HS.out.mono ?_);rintro e w9 ⟨rfl,hb9⟩;rw[HE.out]))
    go_ret
    refine⟨?_,joinB H4.out.below hb9⟩
    rw[HQ.out.trans (Rc.rightB_no fun h=>of_decide_eq_false HE.out (RI.out.1 h).2.2)]
    rfl
   |true=>
    have HE:=Hq he
    clear he
    go_wp2_with (first|(with_reducible refine lL H4.out.bx Tryz.underlying55 ?_)|(with_reducible refine lL H4.out.br Tryz.underlying55 ?_)|(go_at_call 127;(with_reducible refine HS.out.mono ?_);rintro e w9 ⟨rfl,hb9⟩;rw[HE.out]))
    go_ret
    refine⟨?_,joinB H4.out.below hb9⟩
    rw[HQ.out.trans (Rc.rightB_yes (RI.out.2 ⟨HN.out,by have h3:=HA.out;simpa only[Bool.and_eq_true,decide_eq_true_eq]using h3,of_decide_eq_true HE.out⟩))]
    rfl
theorem right_bare (kind:Int)(hk:kind=1∨kind=5∨kind=6∨kind=7)(lsn prev txn page next nu ok os how root ep es:Int)(oo on ek:ByteArray)(ts:List Rc.TxnAt)(ds:List Rc.DirtyAt)(A B:Option Addr)(c d:Nat)(w:World)(hr:RecR w ⟨lsn,prev,txn,kind,page,next,nu,⟨ok,os,oo,on⟩,how,root,⟨ek,ep,es⟩,ts,ds⟩ A c B d):
 Calls Tryz.prog 84 #[.agg (rcA lsn prev txn kind page next nu ok os oo on how root ek ep es (.slice A ts.length c) (.slice B ds.length d))] w fun e w'=>e= .returned (.bool (Rc.rightB ⟨lsn,prev,txn,kind,page,next,nu,⟨ok,os,oo,on⟩,how,root,⟨ek,ep,es⟩,ts,ds⟩))∧Below w.heap.size w w':=by
 have HOF:=Hq (fun W=>of_any kind W)
 rw[show ofV kind= .tuple #[formV false false false false true,true]from by rcases hk with rfl|rfl|rfl|rfl<;>rfl]at HOF
 have HNO:=Hq (fun W g h=>number3 lsn prev txn W g h)
 obtain⟨Q,hQ⟩:=ex (Rc.rightB ⟨lsn,prev,txn,kind,page,next,nu,⟨ok,os,oo,on⟩,how,root,⟨ek,ep,es⟩,ts,ds⟩)
 rw[← hQ]
 have HQ:=Hq hQ
 have hsm:=hr.small
 simp only at hsm
 have hsm1:=hsm.1
 have hsm2:=hsm.2
 have HRR:=Hq hr
 clear hQ hr hsm
 have RI:=Hq (Rc.right_small kind hk lsn prev txn page next nu how root ⟨ok,os,oo,on⟩ ⟨ek,ep,es⟩ ts ds)
 cases hn:decide (Rc.num lsn∧Rc.num prev∧Rc.num txn)with
 |false=>
  rw[hn]at HNO
  have HF:=Hq (HQ.out.trans (Rc.rightB_no fun h=>of_decide_eq_false hn (RI.out.1 h).1))
  clear hn RI
  go_enter Tryz.func84,Tryz.ntmps84
  go_wp2_with (first
   |(go_at_call 117;(with_reducible refine(HOF.out _).mono ?_);rintro e w1 ⟨rfl,hb1⟩;have hR:=blkCell (blkNew hb1);have hl1:w.heap.size<w1.heap.size:=(by have:=hb1.size;simp at this;omega);have HB1:=Hq hb1;clear hb1)
   |(go_at_call 119;(with_reducible refine(HNO.out _ _ ?_).mono ?_);(with_reducible exact new2 _ _ _);rintro e w2 ⟨rfl,hb2⟩;have hR2:=blkCell (blkOld (blkNew HB1.out) (joinB (pastAlloc (allocB _ _)) hb2));have hl2:w1.heap.size+1<w2.heap.size:=(by have:=hb2.size;simp at this;omega);have HB2:=Hq hb2;clear hb2)
   |(with_reducible refine sN (rcA lsn prev txn kind 0 0 0 0 0 ⟨#[]⟩ ⟨#[]⟩ 0 0 ⟨#[]⟩ 0 0 (.slice none 0 0) (.slice none 0 0)) ?_))
  go_ret
  exact⟨by rw[HF.out];rfl,joinB (joinB (allocB _ _) HB1.out) (joinB (pastAlloc (allocB _ _)) HB2.out)⟩
 |true=>
  rw[hn]at HNO
  have HN:=Hq (of_decide_eq_true hn)
  clear hn
  go_enter Tryz.func84,Tryz.ntmps84
  go_upto_region 5 with(first
   |(go_at_call 117;(with_reducible refine(HOF.out _).mono ?_);rintro e w1 ⟨rfl,hb1⟩;have hR:=blkCell (blkNew hb1);have hl1:w.heap.size<w1.heap.size:=(by have:=hb1.size;simp at this;omega);have HB1:=Hq hb1;clear hb1)
   |(go_at_call 119;(with_reducible refine(HNO.out _ _ ?_).mono ?_);(with_reducible exact new2 _ _ _);rintro e w2 ⟨rfl,hb2⟩;have hR2:=blkCell (blkOld (blkNew HB1.out) (joinB (pastAlloc (allocB _ _)) hb2));have hl2:w1.heap.size+1<w2.heap.size:=(by have:=hb2.size;simp at this;omega);have HB2:=Hq hb2;clear hb2)
   |(with_reducible refine sN (rcA lsn prev txn kind 0 0 0 0 0 ⟨#[]⟩ ⟨#[]⟩ 0 0 ⟨#[]⟩ 0 0 (.slice none 0 0) (.slice none 0 0)) ?_))
  have HX:=Hq (boxes_new (R:=(rcA lsn prev txn kind page next nu ok os oo on how root ek ep es (.slice A ts.length c) (.slice B ds.length d))) (F:=#[false,false,false,false,true]) (X:=(rcA lsn prev txn kind 0 0 0 0 0 ⟨#[]⟩ ⟨#[]⟩ 0 0 ⟨#[]⟩ 0 0 (.slice none 0 0) (.slice none 0 0))) HB1.out HB2.out)
  clear hR hR2 HNO HOF HB1 HB2
  obtain⟨V,hV⟩:=ex (w2.alloc (.cells (rcA lsn prev txn kind 0 0 0 0 0 ⟨#[]⟩ ⟨#[]⟩ 0 0 ⟨#[]⟩ 0 0 (.slice none 0 0) (.slice none 0 0)) 55))
  rw[← hV]at HX ⊢
  clear hV
  have hR:=blkCell HX.out.br
  have hF:=blkCell HX.out.bf
  go_upto_region 19 with(fail)
  have HS:=Hq (same_any ⟨lsn,prev,txn,kind,0,0,0,⟨0,0,⟨#[]⟩,⟨#[]⟩⟩,0,0,⟨⟨#[]⟩,0,0⟩,[],[]⟩ ⟨lsn,prev,txn,kind,page,next,nu,⟨ok,os,oo,on⟩,how,root,⟨ek,ep,es⟩,ts,ds⟩ none A none B 0 c 0 d V ⟨(Reads.none_ _ _ _ _),(Reads.none_ _ _ _ _),⟨by simp,by simp⟩⟩ (HRR.out.below HX.out.below))
  dsimp only[recV,recA,List.length_nil]at HS
  cases he:decide ((⟨lsn,prev,txn,kind,0,0,0,⟨0,0,⟨#[]⟩,⟨#[]⟩⟩,0,0,⟨⟨#[]⟩,0,0⟩,[],[]⟩:Rc.Rec)=⟨lsn,prev,txn,kind,page,next,nu,⟨ok,os,oo,on⟩,how,root,⟨ek,ep,es⟩,ts,ds⟩)with
  |false=>
   have HE:=Hq he
   clear he
   go_wp2_with (first|(with_reducible refine lL HX.out.bx Tryz.underlying55 ?_)|(with_reducible refine lL HX.out.br Tryz.underlying55 ?_)|(go_at_call 127;(with_reducible refine HS.out.mono ?_);rintro e w9 ⟨rfl,hb9⟩;rw[HE.out]))
   go_ret
   refine⟨?_,joinB HX.out.below hb9⟩
   rw[HQ.out.trans (Rc.rightB_no fun h=>of_decide_eq_false HE.out (RI.out.1 h).2)]
   rfl
  |true=>
   have HE:=Hq he
   clear he
   go_wp2_with (first|(with_reducible refine lL HX.out.bx Tryz.underlying55 ?_)|(with_reducible refine lL HX.out.br Tryz.underlying55 ?_)|(go_at_call 127;(with_reducible refine HS.out.mono ?_);rintro e w9 ⟨rfl,hb9⟩;rw[HE.out]))
   go_ret
   refine⟨?_,joinB HX.out.below hb9⟩
   rw[HQ.out.trans (Rc.rightB_yes (RI.out.2 ⟨HN.out,of_decide_eq_true HE.out⟩))]
   rfl
theorem right_out (kind:Int)(hk:¬ (1≤kind∧kind≤9))(lsn prev txn page next nu ok os how root ep es:Int)(oo on ek:ByteArray)(T D:Value)(w:World):
 Calls Tryz.prog 84 #[.agg (rcA lsn prev txn kind page next nu ok os oo on how root ek ep es (T) (D))] w fun e w'=>e= .returned (.bool false)∧Below w.heap.size w w':=by
 have HOF:=Hq (fun W=>of_any kind W)
 have ho:∃ a b c d,ofV kind= .tuple #[formV a b c d false,false]:=by
  unfold ofV
  rw[decide_eq_false hk]
  exact⟨_,_,_,_,rfl⟩
 obtain⟨fa,fb,fc,fd,ho⟩:=ho
 rw[ho]at HOF
 clear ho hk
 go_enter Tryz.func84,Tryz.ntmps84
 go_wp2_with ((go_at_call 117;(with_reducible refine(HOF.out _).mono ?_);rintro e w1 ⟨rfl,hb1⟩))
 go_ret
 exact⟨rfl,pastAlloc (joinB (allocB _ _) hb1)⟩
theorem cright_rec (x:Rc.Rec)(A B:Option Addr)(c d:Nat)(w:World)(hr:RecR w x A c B d):
 Calls Tryz.prog 84 #[recV x (.slice A x.txns.length c) (.slice B x.dirty.length d)] w fun e w'=>e= .returned (.bool (Rc.rightB x))∧Below w.heap.size w w':=by
 obtain⟨lsn,prev,txn,kind,page,next,nu,⟨ok,os,oo,on⟩,how,root,⟨ek,ep,es⟩,ts,ds⟩:=x
 by_cases h:1≤kind∧kind≤9
 ·have h9:kind=2∨kind=3∨kind=4∨kind=8∨kind=9∨kind=1∨kind=5∨kind=6∨kind=7:=by omega
  rcases h9 with rfl|rfl|rfl|rfl|rfl|h9
  ·exact right_change lsn prev txn page next nu ok os how root ep es oo on ek ts ds A B c d w hr
  ·exact right_clr lsn prev txn page next nu ok os how root ep es oo on ek ts ds A B c d w hr
  ·exact right_nest lsn prev txn page next nu ok os how root ep es oo on ek ts ds A B c d w hr
  ·exact right_image lsn prev txn page next nu ok os how root ep es oo on ek ts ds A B c d w hr
  ·exact right_check lsn prev txn page next nu ok os how root ep es oo on ek ts ds A B c d w hr
  ·exact right_bare kind h9 lsn prev txn page next nu ok os how root ep es oo on ek ts ds A B c d w hr
 ·rw[Rc.rightB_no (Rc.right_none h)]
  exact right_out kind h lsn prev txn page next nu ok os how root ep es oo on ek _ _ w
end Go.Proofs.YtilakddepaplhaaGreat
