import Derived.Test.YtpogpkonojhakaaGreatDoorHk00
import Derived.Test.YtpogpkonojhakaaGreatDoorHk04
import Derived.BigRegion
set_option maxRecDepth 100000
set_option maxHeartbeats 16000000
set_option linter.unusedSimpArgs false
namespace Go.Proofs.YtpogpkonojhakaaGreatDoor
open Go.RowKit
def Dm:Array Value:=((List.range 10).flatMap fun k=>[Value.bool (k==2||k==3||k==8),.bool (k==2),.bool (k==3||k==4),.bool (k==9),.bool (k != 0)]).toArray
theorem Sw:(Tryz.prog.info? 249).map (·.size)=some Dm.size:=by kernel_rfl
theorem jP (w:World):
 Cr 291 #[] w (.agg Dm):=by
 go_enter Tryz.func291,Tryz.ntmps291
 go_wp2_with(with_reducible refine Kh rfl 249 (.tmp 0) (.tmp 10) rfl Dm _ _ rfl Kr Kr Sw Kr ?_)
 exact bodyPost_ret (v:=.agg Dm) (Wq rfl _ _ rfl (Ch (heap_alloc_new w _) zW rfl Sw)) rfl ⟨rfl,Ac _ _⟩
abbrev Gz (a b c d e:Bool):Value:=.agg #[a,b,c,d,e]
def Zr (k:Int):Value:=.tuple #[Gz (k==2||k==3||k==8) (k==2) (k==3||k==4) (k==9) (decide (1≤k∧k≤9)),.bool (decide (1≤k∧k≤9))]
theorem sJ {k:Int}(h:¬ (0≤k∧k≤9)):Zr k= .tuple #[Gz false false false false false,false]:=by
 have a:(k==2)=false:=by simp;omega
 have b:(k==3)=false:=by simp;omega
 have c:(k==4)=false:=by simp;omega
 have d:(k==8)=false:=by simp;omega
 have e:(k==9)=false:=by simp;omega
 have f:decide (1≤k∧k≤9)=false:=decide_eq_false (by omega);unfold Zr;rw[a,b,c,d,e,f]
 rfl
theorem Zs (W:World):(Instr.index 249 (.agg Dm) (.int .i64 ((0:Nat):Int))).run Tryz.prog W= .ok (.agg (Dm.extract (0*5) (0*5+5))) W:=by kernel_rfl
theorem Zt (W:World):(Instr.index 249 (.agg Dm) (.int .i64 ((1:Nat):Int))).run Tryz.prog W= .ok (.agg (Dm.extract (1*5) (1*5+5))) W:=by kernel_rfl
theorem Zu (W:World):(Instr.index 249 (.agg Dm) (.int .i64 ((2:Nat):Int))).run Tryz.prog W= .ok (.agg (Dm.extract (2*5) (2*5+5))) W:=by kernel_rfl
theorem Zv (W:World):(Instr.index 249 (.agg Dm) (.int .i64 ((3:Nat):Int))).run Tryz.prog W= .ok (.agg (Dm.extract (3*5) (3*5+5))) W:=by kernel_rfl
theorem Zw (W:World):(Instr.index 249 (.agg Dm) (.int .i64 ((4:Nat):Int))).run Tryz.prog W= .ok (.agg (Dm.extract (4*5) (4*5+5))) W:=by kernel_rfl
theorem Zx (W:World):(Instr.index 249 (.agg Dm) (.int .i64 ((5:Nat):Int))).run Tryz.prog W= .ok (.agg (Dm.extract (5*5) (5*5+5))) W:=by kernel_rfl
theorem Zy (W:World):(Instr.index 249 (.agg Dm) (.int .i64 ((6:Nat):Int))).run Tryz.prog W= .ok (.agg (Dm.extract (6*5) (6*5+5))) W:=by kernel_rfl
theorem Zz (W:World):(Instr.index 249 (.agg Dm) (.int .i64 ((7:Nat):Int))).run Tryz.prog W= .ok (.agg (Dm.extract (7*5) (7*5+5))) W:=by kernel_rfl
theorem Z5 (W:World):(Instr.index 249 (.agg Dm) (.int .i64 ((8:Nat):Int))).run Tryz.prog W= .ok (.agg (Dm.extract (8*5) (8*5+5))) W:=by kernel_rfl
theorem Z6 (W:World):(Instr.index 249 (.agg Dm) (.int .i64 ((9:Nat):Int))).run Tryz.prog W= .ok (.agg (Dm.extract (9*5) (9*5+5))) W:=by kernel_rfl
theorem cZ (k:Nat)(hk:k<10)(W:World):(Instr.index 249 (.agg Dm) (.int .i64 (k:Int))).run Tryz.prog W= .ok (.agg (Dm.extract (k*5) (k*5+5))) W:=by
 have hk:k=0∨k=1∨k=2∨k=3∨k=4∨k=5∨k=6∨k=7∨k=8∨k=9:=by omega
 rcases hk with rfl|rfl|rfl|rfl|rfl|rfl|rfl|rfl|rfl|rfl
 ·exact Zs W
 ·exact Zt W
 ·exact Zu W
 ·exact Zv W
 ·exact Zw W
 ·exact Zx W
 ·exact Zy W
 ·exact Zz W
 ·exact Z5 W
 ·exact Z6 W
theorem Nx (k:Nat)(a b c d e:Bool)(hk:k<10)(h:(Dm.extract (k*5) (k*5+5))=#[.bool a,.bool b,.bool c,.bool d,.bool e])(w:World):
 Cr 272 #[.int .i64 (k:Int)] w (.tuple #[Gz a b c d e,e]):=by
 have g:=cZ k hk;rw[h]at g;clear h;have B:((k:Int)<0)=False:=by simp
 have q:(k:Int)≤9:=by omega
 generalize p:Dm=F at g;clear hk;go_enter Tryz.func272,Tryz.ntmps272
 go_upto_region 4 with((go_at_call 291;(with_reducible refine(jP _).mono ?_);rintro x j ⟨rfl,l⟩;rw[p];have m:=Hq l;clear l))
 have r:j.heap.size≠w.heap.size:=by have:=m.out.size;simp at this;omega
 have n:w.heap.size<j.heap.size:=by have:=m.out.size;simp at this;omega
 have f:=Hq (show(j.alloc (.cells #[a,b,c,d,e] 228)).heap[w.heap.size]? =some (.cells #[false,false,false,false,false] 228 (0,0))from by
  rw[Below.heap_alloc _ _ _ n];exact Bs m.out)
 have i:=Hq (heap_alloc_new j (.cells #[a,b,c,d,e] 228));have HV:=Hq (Aj (o:=.cells #[a,b,c,d,e] 228) (Af (Ac _ _) m.out));generalize j.alloc (.cells #[a,b,c,d,e] 228)=V at f i HV ⊢;have c0:=Aa i.out 0;have s:=Aa i.out 1;have c2:=Aa i.out 2;have c3:=Aa i.out 3;have c4:=Aa i.out 4;have t:=Aa f.out 0;have u:=Aa f.out 1;have y:=Aa f.out 2;have z:=Aa f.out 3;have A:=Aa f.out 4;have z0:=Ap f.out 0;have C:=Ap f.out 1;have z2:=Ap f.out 2;have z3:=Ap f.out 3;have z4:=Ap f.out 4
 simp at c0 s c2 c3 c4 t u y z A
 clear g p
 go_region
 all_goals
  go_wp2_with fail;refine bodyPost_ret (v:=.tuple #[Gz a b c d e,e]) (by simp[results,Tryz.results272,go_sem, *]) rfl ⟨rfl,(((((HV.out.setCell (Nat.le_refl _) _).setCell (Nat.le_refl _) _).setCell (Nat.le_refl _) _).setCell (Nat.le_refl _) _).setCell (Nat.le_refl _) _).drew⟩
theorem Ho (k:Int)(w:World):
 Cr 272 #[k] w (Zr k):=by
 by_cases h:0≤k∧k≤9
 ·obtain⟨n,rfl⟩:=Int.eq_ofNat_of_zero_le h.1
  have hk:n=0∨n=1∨n=2∨n=3∨n=4∨n=5∨n=6∨n=7∨n=8∨n=9:=by omega
  rcases hk with rfl|rfl|rfl|rfl|rfl|rfl|rfl|rfl|rfl|rfl
  ·exact Nx 0 _ _ _ _ _ (by omega) Kr w
  ·exact Nx 1 _ _ _ _ _ (by omega) Kr w
  ·exact Nx 2 _ _ _ _ _ (by omega) Kr w
  ·exact Nx 3 _ _ _ _ _ (by omega) Kr w
  ·exact Nx 4 _ _ _ _ _ (by omega) Kr w
  ·exact Nx 5 _ _ _ _ _ (by omega) Kr w
  ·exact Nx 6 _ _ _ _ _ (by omega) Kr w
  ·exact Nx 7 _ _ _ _ _ (by omega) Kr w
  ·exact Nx 8 _ _ _ _ _ (by omega) Kr w
  ·exact Nx 9 _ _ _ _ _ (by omega) Kr w
 ·rw[sJ h]
  by_cases a:k<0
  ·clear h
   go_enter Tryz.func272,Tryz.ntmps272;go_wp2_with fail;exact bodyPost_ret (v:=.tuple #[Gz false false false false false,false]) (by simp[results,Tryz.results272,go_sem]) rfl ⟨rfl,Ac _ _⟩
  ·have b:0≤k:=by omega
   have c:9<k:=(by omega);clear h a;go_enter Tryz.func272,Tryz.ntmps272;go_wp2_with fail;exact bodyPost_ret (v:=.tuple #[Gz false false false false false,false]) (by simp[results,Tryz.results272,go_sem]) rfl ⟨rfl,Ac _ _⟩
theorem dA (o:Rc.Op)(w:World):
 Cr 275 #[oU o] w (.bool (decide (Rc.Iz o))):=by
 obtain⟨k,s,o,n⟩:=o
 by_cases t:1≤k
 rotate_left
 ·have g0:k<1:=by omega
  clear t;rw[show decide (Rc.Iz ⟨k,s,o,n⟩)=false from decide_eq_false (fun h=>by obtain⟨g,j,f,i,l⟩:=h;simp only at g j f i l;omega)];go_enter Tryz.func275,Tryz.ntmps275;go_wp2_with fail;go_ret;exact⟨by simp[*],Ac _ _⟩
 by_cases g:k≤7
 rotate_left
 ·have g1:7<k:=by omega
  clear g;rw[show decide (Rc.Iz ⟨k,s,o,n⟩)=false from decide_eq_false (fun h=>by obtain⟨g,j,f,i,l⟩:=h;simp only at g j f i l;omega)];go_enter Tryz.func275,Tryz.ntmps275;go_wp2_with fail;go_ret;exact⟨by simp[*],Ac _ _⟩
 cases m:decide (Rc.sl s)with
 |false=>
  rw[show decide (Rc.Iz ⟨k,s,o,n⟩)=false from decide_eq_false (fun h=>by obtain⟨g,j,f,i,l⟩:=h;simp only at g j f i l;exact of_decide_eq_false m f)];have p:=Hq m;clear m;go_enter Tryz.func275,Tryz.ntmps275
  go_wp2_with(first|(go_at_call 293;(with_reducible refine(Nw s _ _ ?_).mono ?_);(first|with_reducible exact heap_alloc_new _ _|with_reducible exact Fc _ _ _);rintro e q ⟨rfl,a⟩;rw[p.out];have b:=Eu (heap_alloc_new w _) a;have c:=Aa b 2;have d:=Aa b 3;clear b;simp at c d))
  go_ret;exact⟨by simp[*],Af (Aj (Ac _ _)) a⟩
 |true=>
 have p:=Hq m;have r:=Hq (of_decide_eq_true m);clear m
 by_cases f:(o.size:Int)≤512
 rotate_left
 ·have g3:512<(o.size:Int):=by omega
  clear f;rw[show decide (Rc.Iz ⟨k,s,o,n⟩)=false from decide_eq_false (fun h=>by obtain⟨g,j,f,i,l⟩:=h;simp only at g j f i l;omega)];go_enter Tryz.func275,Tryz.ntmps275
  go_wp2_with(first|(go_at_call 293;(with_reducible refine(Nw s _ _ ?_).mono ?_);(first|with_reducible exact heap_alloc_new _ _|with_reducible exact Fc _ _ _);rintro e q ⟨rfl,a⟩;rw[p.out];have b:=Eu (heap_alloc_new w _) a;have c:=Aa b 2;have d:=Aa b 3;clear b;simp at c d))
  go_ret;exact⟨by simp[*],Af (Aj (Ac _ _)) a⟩
 by_cases i:(n.size:Int)≤512
 rotate_left
 ·have g4:512<(n.size:Int):=by omega
  clear i;rw[show decide (Rc.Iz ⟨k,s,o,n⟩)=false from decide_eq_false (fun h=>by obtain⟨g,j,f,i,l⟩:=h;simp only at g j f i l;omega)];go_enter Tryz.func275,Tryz.ntmps275
  go_wp2_with(first|(go_at_call 293;(with_reducible refine(Nw s _ _ ?_).mono ?_);(first|with_reducible exact heap_alloc_new _ _|with_reducible exact Fc _ _ _);rintro e q ⟨rfl,a⟩;rw[p.out];have b:=Eu (heap_alloc_new w _) a;have c:=Aa b 2;have d:=Aa b 3;clear b;simp at c d))
  go_ret;exact⟨by simp[*],Af (Aj (Ac _ _)) a⟩
 rw[show decide (Rc.Iz ⟨k,s,o,n⟩)=true from decide_eq_true ⟨by assumption,by assumption,r.out,by show o.size≤512;omega,by show n.size≤512;omega⟩];go_enter Tryz.func275,Tryz.ntmps275
 go_wp2_with(first|(go_at_call 293;(with_reducible refine(Nw s _ _ ?_).mono ?_);(first|with_reducible exact heap_alloc_new _ _|with_reducible exact Fc _ _ _);rintro e q ⟨rfl,a⟩;rw[p.out];have b:=Eu (heap_alloc_new w _) a;have c:=Aa b 2;have d:=Aa b 3;clear b;simp at c d))
 go_ret;exact⟨by simp[*],Af (Aj (Ac _ _)) a⟩
theorem oY (r:Rc.Rec)(T D:Value)(w:World):
 Cr 276 #[D8 r T D] w (.bool (decide (Rc.Fq r))):=by
 obtain⟨p,prev,q,kind,Ae,next,num,⟨ok,os,A,on⟩,j,root,⟨l,k,es⟩,B,C⟩:=r;have G:=Hq (fun W=>M0 ⟨l,k,es⟩ ⟨⟨#[]⟩,0,0⟩ W)
 by_cases z:j=1
 ·subst z
  by_cases F:root=0
  ·subst F
   have H:=G.out;have M:=Hq (show decide (Rc.Fq ⟨p,prev,q,kind,Ae,next,num,⟨ok,os,A,on⟩,1,0,⟨l,k,es⟩,B,C⟩)=decide ((⟨l,k,es⟩:Rc.Key)=⟨⟨#[]⟩,0,0⟩)from decide_eq_decide.2 ⟨fun h=>by
    rcases h with⟨_,_,I⟩|⟨h1,_⟩
    ·exact I
    ·simp only at h1;omega,fun h=>.inl ⟨rfl,rfl,h⟩⟩)
   rw[M.out];generalize decide ((⟨l,k,es⟩:Rc.Key)=⟨⟨#[]⟩,0,0⟩)=b at H ⊢;go_enter Tryz.func276,Tryz.ntmps276;go_wp2_with fail;go_ret;exact⟨by simp,Ac _ _⟩
  ·have R:(root==0)=false:=by simp[F]
   rw[show decide (Rc.Fq ⟨p,prev,q,kind,Ae,next,num,⟨ok,os,A,on⟩,1,root,⟨l,k,es⟩,B,C⟩)=false from decide_eq_false (fun h=>by
    rcases h with⟨_,I,_⟩|⟨h1,_⟩
    ·exact F I
    ·simp only at h1;omega)]
   clear F;go_enter Tryz.func276,Tryz.ntmps276;go_wp2_with fail;go_ret;exact⟨by simp,Ac _ _⟩
 ·have N:(j==1)=false:=by simp[z]
  have m:=Hq (show ∀ (h:¬ ((j=2∨j=3)∧Rc.pg root∧Rc.pg k∧Rc.sl es∧l.size≤100)),decide (Rc.Fq ⟨p,prev,q,kind,Ae,next,num,⟨ok,os,A,on⟩,j,root,⟨l,k,es⟩,B,C⟩)=false from fun h=>decide_eq_false (fun O=>by
   rcases O with⟨h1,_⟩|h1
   ·exact z h1
   ·exact h h1))
  by_cases hk:j=2∨j=3
  rotate_left
  ·rw[m.out (fun h=>hk h.1)]
   have P:(j==2)=false:=(by simp;omega);have Q:(j==3)=false:=(by simp;omega);clear hk z;go_enter Tryz.func276,Tryz.ntmps276;go_wp2_with fail;go_ret;exact⟨by simp,Ac _ _⟩
  rcases hk with rfl|rfl
  ·clear z
   cases n:decide (Rc.pg root∧Rc.pg k)with
   |false=>
    rw[m.out (fun h=>of_decide_eq_false n ⟨h.2.1,h.2.2.1⟩)];have s:=Hq n;clear n;go_enter Tryz.func276,Tryz.ntmps276
    go_wp2_with(first|(go_at_call 274;(with_reducible refine(Mf root k _ _ ?_).mono ?_);(first|with_reducible exact heap_alloc_new _ _|with_reducible exact Fc _ _ _);rintro e x ⟨rfl,a⟩;rw[s.out]))
    go_ret;exact⟨by simp,Af (Aj (Ac _ _)) a⟩
   |true=>
    have s:=Hq n;have t:=Hq (of_decide_eq_true n);clear n
    cases o:decide (Rc.sl es)with
    |false=>
     rw[m.out (fun h=>of_decide_eq_false o h.2.2.2.1)];have v:=Hq o;clear o;go_enter Tryz.func276,Tryz.ntmps276
     go_wp2_with(first|(go_at_call 274;(with_reducible refine(Mf root k _ _ ?_).mono ?_);(first|with_reducible exact heap_alloc_new _ _|with_reducible exact Fc _ _ _);rintro e x ⟨rfl,a⟩;rw[s.out];have d:=Eu (heap_alloc_new w _) a;have f:=Aa d 15;have g:=Aa d 13;have u:=Hq d;clear d;simp at f g)|(go_at_call 293;(with_reducible refine(Nw es _ _ ?_).mono ?_);(first|with_reducible exact heap_alloc_new _ _|with_reducible exact Fc _ _ _);rintro e E ⟨rfl,c⟩;rw[v.out];have i:=Aa (Eu u.out c) 13;simp at i))
     go_ret;exact⟨by simp,Af (Aj (Af (Aj (Ac _ _)) a)) c⟩
    |true=>
     have v:=Hq o;have y:=Hq (of_decide_eq_true o);clear o
     by_cases J:(l.size:Int)≤100
     ·have K:=Hq (show decide (Rc.Fq ⟨p,prev,q,kind,Ae,next,num,⟨ok,os,A,on⟩,2,root,⟨l,k,es⟩,B,C⟩)=true from decide_eq_true (.inr ⟨by simp,t.out.1,t.out.2,y.out,by show l.size≤100;omega⟩))
      rw[K.out];go_enter Tryz.func276,Tryz.ntmps276
      go_wp2_with(first|(go_at_call 274;(with_reducible refine(Mf root k _ _ ?_).mono ?_);(first|with_reducible exact heap_alloc_new _ _|with_reducible exact Fc _ _ _);rintro e x ⟨rfl,a⟩;rw[s.out];have d:=Eu (heap_alloc_new w _) a;have f:=Aa d 15;have g:=Aa d 13;have u:=Hq d;clear d;simp at f g)|(go_at_call 293;(with_reducible refine(Nw es _ _ ?_).mono ?_);(first|with_reducible exact heap_alloc_new _ _|with_reducible exact Fc _ _ _);rintro e E ⟨rfl,c⟩;rw[v.out];have i:=Aa (Eu u.out c) 13;simp at i))
      go_ret;exact⟨by simp[*],Af (Aj (Af (Aj (Ac _ _)) a)) c⟩
     ·rw[m.out (fun h=>by have:=h.2.2.2.2;omega)]
      have L:100<(l.size:Int):=(by omega);clear J;go_enter Tryz.func276,Tryz.ntmps276
      go_wp2_with(first|(go_at_call 274;(with_reducible refine(Mf root k _ _ ?_).mono ?_);(first|with_reducible exact heap_alloc_new _ _|with_reducible exact Fc _ _ _);rintro e x ⟨rfl,a⟩;rw[s.out];have d:=Eu (heap_alloc_new w _) a;have f:=Aa d 15;have g:=Aa d 13;have u:=Hq d;clear d;simp at f g)|(go_at_call 293;(with_reducible refine(Nw es _ _ ?_).mono ?_);(first|with_reducible exact heap_alloc_new _ _|with_reducible exact Fc _ _ _);rintro e E ⟨rfl,c⟩;rw[v.out];have i:=Aa (Eu u.out c) 13;simp at i))
      go_ret;exact⟨by simp[*],Af (Aj (Af (Aj (Ac _ _)) a)) c⟩
  ·clear z
   cases n:decide (Rc.pg root∧Rc.pg k)with
   |false=>
    rw[m.out (fun h=>of_decide_eq_false n ⟨h.2.1,h.2.2.1⟩)];have s:=Hq n;clear n;go_enter Tryz.func276,Tryz.ntmps276
    go_wp2_with(first|(go_at_call 274;(with_reducible refine(Mf root k _ _ ?_).mono ?_);(first|with_reducible exact heap_alloc_new _ _|with_reducible exact Fc _ _ _);rintro e x ⟨rfl,a⟩;rw[s.out]))
    go_ret;exact⟨by simp,Af (Aj (Ac _ _)) a⟩
   |true=>
    have s:=Hq n;have t:=Hq (of_decide_eq_true n);clear n
    cases o:decide (Rc.sl es)with
    |false=>
     rw[m.out (fun h=>of_decide_eq_false o h.2.2.2.1)];have v:=Hq o;clear o;go_enter Tryz.func276,Tryz.ntmps276
     go_wp2_with(first|(go_at_call 274;(with_reducible refine(Mf root k _ _ ?_).mono ?_);(first|with_reducible exact heap_alloc_new _ _|with_reducible exact Fc _ _ _);rintro e x ⟨rfl,a⟩;rw[s.out];have d:=Eu (heap_alloc_new w _) a;have f:=Aa d 15;have g:=Aa d 13;have u:=Hq d;clear d;simp at f g)|(go_at_call 293;(with_reducible refine(Nw es _ _ ?_).mono ?_);(first|with_reducible exact heap_alloc_new _ _|with_reducible exact Fc _ _ _);rintro e E ⟨rfl,c⟩;rw[v.out];have i:=Aa (Eu u.out c) 13;simp at i))
     go_ret;exact⟨by simp,Af (Aj (Af (Aj (Ac _ _)) a)) c⟩
    |true=>
     have v:=Hq o;have y:=Hq (of_decide_eq_true o);clear o
     by_cases J:(l.size:Int)≤100
     ·have K:=Hq (show decide (Rc.Fq ⟨p,prev,q,kind,Ae,next,num,⟨ok,os,A,on⟩,3,root,⟨l,k,es⟩,B,C⟩)=true from decide_eq_true (.inr ⟨by simp,t.out.1,t.out.2,y.out,by show l.size≤100;omega⟩))
      rw[K.out];go_enter Tryz.func276,Tryz.ntmps276
      go_wp2_with(first|(go_at_call 274;(with_reducible refine(Mf root k _ _ ?_).mono ?_);(first|with_reducible exact heap_alloc_new _ _|with_reducible exact Fc _ _ _);rintro e x ⟨rfl,a⟩;rw[s.out];have d:=Eu (heap_alloc_new w _) a;have f:=Aa d 15;have g:=Aa d 13;have u:=Hq d;clear d;simp at f g)|(go_at_call 293;(with_reducible refine(Nw es _ _ ?_).mono ?_);(first|with_reducible exact heap_alloc_new _ _|with_reducible exact Fc _ _ _);rintro e E ⟨rfl,c⟩;rw[v.out];have i:=Aa (Eu u.out c) 13;simp at i))
      go_ret;exact⟨by simp[*],Af (Aj (Af (Aj (Ac _ _)) a)) c⟩
     ·rw[m.out (fun h=>by have:=h.2.2.2.2;omega)]
      have L:100<(l.size:Int):=(by omega);clear J;go_enter Tryz.func276,Tryz.ntmps276
      go_wp2_with(first|(go_at_call 274;(with_reducible refine(Mf root k _ _ ?_).mono ?_);(first|with_reducible exact heap_alloc_new _ _|with_reducible exact Fc _ _ _);rintro e x ⟨rfl,a⟩;rw[s.out];have d:=Eu (heap_alloc_new w _) a;have f:=Aa d 15;have g:=Aa d 13;have u:=Hq d;clear d;simp at f g)|(go_at_call 293;(with_reducible refine(Nw es _ _ ?_).mono ?_);(first|with_reducible exact heap_alloc_new _ _|with_reducible exact Fc _ _ _);rintro e E ⟨rfl,c⟩;rw[v.out];have i:=Aa (Eu u.out c) 13;simp at i))
      go_ret;exact⟨by simp[*],Af (Aj (Af (Aj (Ac _ _)) a)) c⟩
end Go.Proofs.YtpogpkonojhakaaGreatDoor
namespace Rc
section
open Classical
noncomputable def Dw (r:Rec):Bool:=decide (Bx r)
theorem M4 {r:Rec}{b:Bool}(h:Bx r↔b=true):Dw r=b:=by
 unfold Dw
 cases b with
 |true=>exact decide_eq_true (h.2 rfl)
 |false=>exact decide_eq_false (fun a=>by have:=h.1 a;cases this)
theorem C7 {r:Rec}(h:¬ Bx r):Dw r=false:=by unfold Dw;exact decide_eq_false h
theorem Fy {r:Rec}(h:Bx r):Dw r=true:=by unfold Dw;exact decide_eq_true h
theorem Sx {r:Rec}:Dw r=true↔Bx r:=by unfold Dw;exact decide_eq_true_iff
end
end Rc
namespace Go.Proofs.YtpogpkonojhakaaGreatDoor
open Go.RowKit
structure E9 (w:World) (a f b:Nat) (R F X:Array Value) (u:World):Prop where
 br:u.heap[a]? =some (.cells R 105 (0,0))
 bf:u.heap[f]? =some (.cells F 228 (0,0))
 bx:u.heap[b]? =some (.cells X 105 (0,0))
 ab:a<b∧f<b
 low:w.heap.size≤a
 below:Bw w u
theorem E9.step {w u v:World}{a f b:Nat}{R F X:Array Value}(h:E9 w a f b R F X u)(c:Bw u v):E9 w a f b R F X v:=
 ⟨Ag h.br c,Ag h.bf c,Ag h.bx c,h.ab,h.low,Af h.below c⟩
theorem E9.set {w u:World}{a f b:Nat}{R F X:Array Value}(h:E9 w a f b R F X u)(i:Nat)(v:Value):E9 w a f b R F (X.setIfInBounds i v) (u.setCell ⟨b,i,none⟩ v):=
 ⟨by rw[Below.heap_setCell _ _ _ _ (by have:=h.ab;show a≠b;omega)];exact h.br,by rw[Below.heap_setCell _ _ _ _ (by have:=h.ab;show f≠b;omega)];exact h.bf,Cu i h.bx v,h.ab,h.low,h.below.setCell (by have:=h.ab;have:=h.low;show _≤b;omega) v⟩
theorem E9.drew {w u:World}{a f b:Nat}{R F X:Array Value}(h:E9 w a f b R F X u):E9 w a f b R F X u.drew:=⟨h.br,h.bf,h.bx,h.ab,h.low,h.below.drew⟩
theorem I6 {w w1 w2:World}{R F X:Array Value}{o:Obj}(a:Below (w.alloc (.cells R 105)).heap.size (w.alloc (.cells R 105)) w1)
 (b:Below ((w1.alloc (.cells F 228)).alloc o).heap.size ((w1.alloc (.cells F 228)).alloc o) w2):E9 w w.heap.size w1.heap.size w2.heap.size R F X (w2.alloc (.cells X 105)):=by
 have f:Bw w w1:=Af (Ac _ _) a;have e:Bw w1 w2:=Af (Aj (Ac _ _)) b;have c:=a.size;have d:=b.size
 simp at c d
 refine⟨?_,?_,heap_alloc_new w2 _,⟨by omega,by omega⟩,Nat.le_refl _,Aj (Af f e)⟩
 ·rw[Below.heap_alloc _ _ _ (by omega)];exact Ag (Bs a) e
 ·rw[Below.heap_alloc _ _ _ (by omega)];exact Ag (Q2 _ _ _) b
end Go.Proofs.YtpogpkonojhakaaGreatDoor
namespace Rc
abbrev N3 (a b c:Int):Prop:=num a∧num b∧num c
theorem sK (a prev b Ae next j c root:Int)(op:Op)(e:Key)(k:List Bc)(l:List Bv):
 Bx ⟨a,prev,b,2,Ae,next,j,op,c,root,e,k,l⟩↔N3 a prev b∧((pg Ae∧Iz op)∧Fq ⟨a,prev,b,2,Ae,next,j,op,c,root,e,k,l⟩)∧(⟨a,prev,b,2,Ae,0,0,op,c,root,e,[],[]⟩:Rec)=⟨a,prev,b,2,Ae,next,j,op,c,root,e,k,l⟩:=by
 constructor
 ·intro h
  have f:=Ga h;have m:=f.change (Or.inl rfl);have n:next=0:=f.noNext (fun h=>by rcases h with h|h<;>cases h);obtain⟨d,g,i⟩:=f.noLists (fun h=>by cases h);simp only at d g i;subst n d g i;exact⟨f.nums,⟨m,f.tree rfl⟩,rfl⟩
 ·rintro⟨⟨m,n,d⟩,⟨⟨g,i⟩,o⟩,p⟩
  rw[← p];exact Bx.change _ _ _ _ _ _ _ _ m n d g i o
theorem sL (a prev b Ae next k c root:Int)(op:Op)(e:Key)(l:List Bc)(m:List Bv):
 Bx ⟨a,prev,b,3,Ae,next,k,op,c,root,e,l,m⟩↔N3 a prev b∧((pg Ae∧Iz op)∧num next)∧(⟨a,prev,b,3,Ae,next,0,op,0,0,Cg,[],[]⟩:Rec)=⟨a,prev,b,3,Ae,next,k,op,c,root,e,l,m⟩:=by
 constructor
 ·intro h
  have f:=Ga h;have j:=f.change (Or.inr (Or.inl rfl));obtain⟨g1,g2,g3⟩:=f.noTree (fun h=>by cases h);obtain⟨d,g,i⟩:=f.noLists (fun h=>by cases h);simp only at d g i g1 g2 g3;subst d g i g1 g2 g3;exact⟨f.nums,⟨j,f.next (Or.inl rfl)⟩,rfl⟩
 ·rintro⟨⟨j,n,d⟩,⟨⟨g,i⟩,o⟩,p⟩
  rw[← p];exact Bx.clr _ _ _ _ _ _ j n d g i o
theorem sM (a prev b Ae next g c root:Int)(op:Op)(e:Key)(i:List Bc)(j:List Bv):
 Bx ⟨a,prev,b,4,Ae,next,g,op,c,root,e,i,j⟩↔N3 a prev b∧num next∧(⟨a,prev,b,4,0,next,0,Jo,0,0,Cg,[],[]⟩:Rec)=⟨a,prev,b,4,Ae,next,g,op,c,root,e,i,j⟩:=by
 constructor
 ·intro h
  have f:=Ga h;obtain⟨i1,i2⟩:=f.bare (fun h=>by rcases h with h|h|h<;>cases h);obtain⟨g1,g2,g3⟩:=f.noTree (fun h=>by cases h);obtain⟨d,k,l⟩:=f.noLists (fun h=>by cases h);simp only at d k l g1 g2 g3 i1 i2;subst d k l g1 g2 g3 i1 i2;exact⟨f.nums,f.next (Or.inr rfl),rfl⟩
 ·rintro⟨⟨m,n,d⟩,o,p⟩
  rw[← p];exact Bx.nest _ _ _ _ m n d o
theorem sO (a prev b Ae next l c root:Int)(op:Op)(e:Key)(m:List Bc)(n:List Bv):
 Bx ⟨a,prev,b,8,Ae,next,l,op,c,root,e,m,n⟩↔N3 a prev b∧(pg Ae∧Iz op)∧(⟨a,prev,b,8,Ae,0,0,op,0,0,Cg,[],[]⟩:Rec)=⟨a,prev,b,8,Ae,next,l,op,c,root,e,m,n⟩:=by
 constructor
 ·intro h
  have f:=Ga h;have j:=f.change (Or.inr (Or.inr rfl));have k:next=0:=f.noNext (fun h=>by rcases h with h|h<;>cases h);obtain⟨g1,g2,g3⟩:=f.noTree (fun h=>by cases h);obtain⟨d,g,i⟩:=f.noLists (fun h=>by cases h);simp only at d g i g1 g2 g3;subst k d g i g1 g2 g3;exact⟨f.nums,j,rfl⟩
 ·rintro⟨⟨j,k,d⟩,⟨g,i⟩,o⟩
  rw[← o];exact Bx.image _ _ _ _ _ j k d g i
theorem sP (a prev b Ae next j c root:Int)(op:Op)(e:Key)(g:List Bc)(i:List Bv):
 Bx ⟨a,prev,b,9,Ae,next,j,op,c,root,e,g,i⟩↔N3 a prev b∧(((num j∧g.length≤1000∧i.length≤2000)∧∀ t∈g,Jj t)∧∀ d∈i,Fk d)∧(⟨a,prev,b,9,0,0,j,Jo,0,0,Cg,g,i⟩:Rec)=⟨a,prev,b,9,Ae,next,j,op,c,root,e,g,i⟩:=by
 constructor
 ·intro h
  have f:=Ga h;obtain⟨i1,i2⟩:=f.bare (fun h=>by rcases h with h|h|h<;>cases h);have k:next=0:=f.noNext (fun h=>by rcases h with h|h<;>cases h);obtain⟨g1,g2,g3⟩:=f.noTree (fun h=>by cases h);obtain⟨l,m,n,o,p⟩:=f.lists rfl;simp only at g1 g2 g3 i1 i2;subst k g1 g2 g3 i1 i2;exact⟨f.nums,⟨⟨⟨l,m,n⟩,o⟩,p⟩,rfl⟩
 ·rintro⟨⟨q,k,r⟩,⟨⟨⟨l,m,n⟩,o⟩,p⟩,s⟩
  rw[← s];exact Bx.check _ _ _ _ _ _ q k r l ⟨m,n,o,p⟩
theorem Z7 (kind:Int)(hk:kind=1∨kind=5∨kind=6∨kind=7)(a prev b Ae next i c root:Int)(op:Op)(e:Key)(j:List Bc)(k:List Bv):
 Bx ⟨a,prev,b,kind,Ae,next,i,op,c,root,e,j,k⟩↔N3 a prev b∧(⟨a,prev,b,kind,0,0,0,Jo,0,0,Cg,[],[]⟩:Rec)=⟨a,prev,b,kind,Ae,next,i,op,c,root,e,j,k⟩:=by
 constructor
 ·intro h
  have f:=Ga h;obtain⟨i1,i2⟩:=f.bare (fun h=>by unfold E5 at h;simp only at h;omega);have g:next=0:=f.noNext (fun h=>by unfold hasNext at h;simp only at h;omega);obtain⟨g1,g2,g3⟩:=f.noTree (fun h=>by simp only at h;omega);obtain⟨d,l,m⟩:=f.noLists (fun h=>by simp only at h;omega);simp only at d l m g1 g2 g3 i1 i2;subst g d l m g1 g2 g3 i1 i2;exact⟨f.nums,rfl⟩
 ·rintro⟨⟨n,g,d⟩,o⟩
  rw[← o];exact Bx.small _ _ _ _ hk n g d
theorem dB {r:Rec}(h:¬ (1≤r.kind∧r.kind≤9)):¬ Bx r:=fun a=>h (Ga a).kind
end Rc
namespace Go.Proofs.YtpogpkonojhakaaGreatDoor
open Go.RowKit
end Go.Proofs.YtpogpkonojhakaaGreatDoor
