import Derived.Test.YtmfkhdhnbkambaaGreatDoorHw00
import Derived.Test.YtmfkhdhnbkambaaGreatDoorHw04
import Derived.BigRegion
import Derived.Test.YtmfkhdhnbkambaaGreatDoorHw01
set_option maxRecDepth 100000
set_option maxHeartbeats 16000000
set_option linter.unusedSimpArgs false
namespace Go.Proofs.YtmfkhdhnbkambaaGreatDoor
open Go.RowKit
def Dq:Array Value:=((List.range 10).flatMap fun k=>[Value.bool (k==2||k==3||k==8),.bool (k==2),.bool (k==3||k==4),.bool (k==9),.bool (k != 0)]).toArray
theorem Sf:(Tryz.prog.info? 265).map (·.size)=some Dq.size:=by kernel_rfl
theorem iU (w:World):
 Cr 282 #[] w (.agg Dq):=by
 go_enter Tryz.func282,Tryz.ntmps282
 go_wp2_with(with_reducible refine Kh rfl 265 (.tmp 0) (.tmp 10) rfl Dq _ _ rfl Kr Kr Sf Kr ?_)
 exact bodyPost_ret (v:=.agg Dq) (Wb rfl _ _ rfl (Cf (heap_alloc_new w _) zC rfl Sf)) rfl ⟨rfl,Ac _ _⟩
abbrev Gt (a b c d e:Bool):Value:=.agg #[a,b,c,d,e]
def Y6 (k:Int):Value:=.tuple #[Gt (k==2||k==3||k==8) (k==2) (k==3||k==4) (k==9) (decide (1≤k∧k≤9)),.bool (decide (1≤k∧k≤9))]
theorem sA {k:Int}(h:¬ (0≤k∧k≤9)):Y6 k= .tuple #[Gt false false false false false,false]:=by
 have a:(k==2)=false:=by simp;omega
 have b:(k==3)=false:=by simp;omega
 have c:(k==4)=false:=by simp;omega
 have d:(k==8)=false:=by simp;omega
 have e:(k==9)=false:=by simp;omega
 have f:decide (1≤k∧k≤9)=false:=decide_eq_false (by omega);unfold Y6;rw[a,b,c,d,e,f]
 rfl
theorem Y7 (W:World):(Instr.index 265 (.agg Dq) (.int .i64 ((0:Nat):Int))).run Tryz.prog W= .ok (.agg (Dq.extract (0*5) (0*5+5))) W:=by kernel_rfl
theorem Y8 (W:World):(Instr.index 265 (.agg Dq) (.int .i64 ((1:Nat):Int))).run Tryz.prog W= .ok (.agg (Dq.extract (1*5) (1*5+5))) W:=by kernel_rfl
theorem Y9 (W:World):(Instr.index 265 (.agg Dq) (.int .i64 ((2:Nat):Int))).run Tryz.prog W= .ok (.agg (Dq.extract (2*5) (2*5+5))) W:=by kernel_rfl
theorem Za (W:World):(Instr.index 265 (.agg Dq) (.int .i64 ((3:Nat):Int))).run Tryz.prog W= .ok (.agg (Dq.extract (3*5) (3*5+5))) W:=by kernel_rfl
theorem Zb (W:World):(Instr.index 265 (.agg Dq) (.int .i64 ((4:Nat):Int))).run Tryz.prog W= .ok (.agg (Dq.extract (4*5) (4*5+5))) W:=by kernel_rfl
theorem Zc (W:World):(Instr.index 265 (.agg Dq) (.int .i64 ((5:Nat):Int))).run Tryz.prog W= .ok (.agg (Dq.extract (5*5) (5*5+5))) W:=by kernel_rfl
theorem Zd (W:World):(Instr.index 265 (.agg Dq) (.int .i64 ((6:Nat):Int))).run Tryz.prog W= .ok (.agg (Dq.extract (6*5) (6*5+5))) W:=by kernel_rfl
theorem Ze (W:World):(Instr.index 265 (.agg Dq) (.int .i64 ((7:Nat):Int))).run Tryz.prog W= .ok (.agg (Dq.extract (7*5) (7*5+5))) W:=by kernel_rfl
theorem Zf (W:World):(Instr.index 265 (.agg Dq) (.int .i64 ((8:Nat):Int))).run Tryz.prog W= .ok (.agg (Dq.extract (8*5) (8*5+5))) W:=by kernel_rfl
theorem Zg (W:World):(Instr.index 265 (.agg Dq) (.int .i64 ((9:Nat):Int))).run Tryz.prog W= .ok (.agg (Dq.extract (9*5) (9*5+5))) W:=by kernel_rfl
theorem cH (k:Nat)(hk:k<10)(W:World):(Instr.index 265 (.agg Dq) (.int .i64 (k:Int))).run Tryz.prog W= .ok (.agg (Dq.extract (k*5) (k*5+5))) W:=by
 have hk:k=0∨k=1∨k=2∨k=3∨k=4∨k=5∨k=6∨k=7∨k=8∨k=9:=by omega
 rcases hk with rfl|rfl|rfl|rfl|rfl|rfl|rfl|rfl|rfl|rfl
 ·exact Y7 W
 ·exact Y8 W
 ·exact Y9 W
 ·exact Za W
 ·exact Zb W
 ·exact Zc W
 ·exact Zd W
 ·exact Ze W
 ·exact Zf W
 ·exact Zg W
theorem Nx (k:Nat)(a b c d e:Bool)(hk:k<10)(h:(Dq.extract (k*5) (k*5+5))=#[.bool a,.bool b,.bool c,.bool d,.bool e])(w:World):
 Cr 245 #[.int .i64 (k:Int)] w (.tuple #[Gt a b c d e,e]):=by
 have g:=cH k hk;rw[h]at g;clear h;have B:((k:Int)<0)=False:=by simp
 have q:(k:Int)≤9:=by omega
 generalize p:Dq=F at g;clear hk;go_enter Tryz.func245,Tryz.ntmps245
 go_upto_region 4 with((go_at_call 282;(with_reducible refine(iU _).mono ?_);rintro x j ⟨rfl,l⟩;rw[p];have m:=Hq l;clear l))
 have r:j.heap.size≠w.heap.size:=by have:=m.out.size;simp at this;omega
 have n:w.heap.size<j.heap.size:=by have:=m.out.size;simp at this;omega
 have f:=Hq (show(j.alloc (.cells #[a,b,c,d,e] 228)).heap[w.heap.size]? =some (.cells #[false,false,false,false,false] 228 (0,0))from by
  rw[Below.heap_alloc _ _ _ n];exact Bv m.out)
 have i:=Hq (heap_alloc_new j (.cells #[a,b,c,d,e] 228));have HV:=Hq (Aj (o:=.cells #[a,b,c,d,e] 228) (Ag (Ac _ _) m.out));generalize j.alloc (.cells #[a,b,c,d,e] 228)=V at f i HV ⊢;have c0:=Aa i.out 0;have s:=Aa i.out 1;have c2:=Aa i.out 2;have c3:=Aa i.out 3;have c4:=Aa i.out 4;have t:=Aa f.out 0;have u:=Aa f.out 1;have y:=Aa f.out 2;have z:=Aa f.out 3;have A:=Aa f.out 4;have z0:=Ap f.out 0;have C:=Ap f.out 1;have z2:=Ap f.out 2;have z3:=Ap f.out 3;have z4:=Ap f.out 4
 simp at c0 s c2 c3 c4 t u y z A
 clear g p
 go_region
 all_goals
  go_wp2_with fail;refine bodyPost_ret (v:=.tuple #[Gt a b c d e,e]) (by simp[results,Tryz.results245,go_sem, *]) rfl ⟨rfl,(((((HV.out.setCell (Nat.le_refl _) _).setCell (Nat.le_refl _) _).setCell (Nat.le_refl _) _).setCell (Nat.le_refl _) _).setCell (Nat.le_refl _) _).drew⟩
theorem Hj (k:Int)(w:World):
 Cr 245 #[k] w (Y6 k):=by
 by_cases h:0≤k∧k≤9
 ·obtain⟨n,rfl⟩:=Int.eq_ofNat_of_zero_le h.1
  have hk:n=0∨n=1∨n=2∨n=3∨n=4∨n=5∨n=6∨n=7∨n=8∨n=9:=by omega
  rcases hk with rfl|rfl|rfl|rfl|rfl|rfl|rfl|rfl|rfl|rfl
  ·exact Nx 0 _ _ _ _ _ (by omega) Kr w
  ·exact Nx 1 _ _ _ _ _ (by omega) Kr w
  ·exact Nx 2 _ _ _ _ _ (by omega) Kr w
  ·exact Nx 3 _ _ _ _ _ (by omega) Kr w
  ·exact Nx 4 _ _ _ _ _ (by omega) Kr w
  ·exact Nx 5 _ _ _ _ _ (by omega) Kr w
  ·exact Nx 6 _ _ _ _ _ (by omega) Kr w
  ·exact Nx 7 _ _ _ _ _ (by omega) Kr w
  ·exact Nx 8 _ _ _ _ _ (by omega) Kr w
  ·exact Nx 9 _ _ _ _ _ (by omega) Kr w
 ·rw[sA h]
  by_cases a:k<0
  ·clear h
   go_enter Tryz.func245,Tryz.ntmps245;go_wp2_with fail;exact bodyPost_ret (v:=.tuple #[Gt false false false false false,false]) (by simp[results,Tryz.results245,go_sem]) rfl ⟨rfl,Ac _ _⟩
  ·have b:0≤k:=by omega
   have c:9<k:=(by omega);clear h a;go_enter Tryz.func245,Tryz.ntmps245;go_wp2_with fail;exact bodyPost_ret (v:=.tuple #[Gt false false false false false,false]) (by simp[results,Tryz.results245,go_sem]) rfl ⟨rfl,Ac _ _⟩
theorem cI (o:Rc.Op)(w:World):
 Cr 248 #[oD o] w (.bool (decide (Rc.Ix o))):=by
 obtain⟨k,s,o,n⟩:=o
 by_cases t:1≤k
 rotate_left
 ·have g0:k<1:=by omega
  clear t;rw[show decide (Rc.Ix ⟨k,s,o,n⟩)=false from decide_eq_false (fun h=>by obtain⟨g,j,f,i,l⟩:=h;simp only at g j f i l;omega)];go_enter Tryz.func248,Tryz.ntmps248;go_wp2_with fail;go_ret;exact⟨by simp[*],Ac _ _⟩
 by_cases g:k≤7
 rotate_left
 ·have g1:7<k:=by omega
  clear g;rw[show decide (Rc.Ix ⟨k,s,o,n⟩)=false from decide_eq_false (fun h=>by obtain⟨g,j,f,i,l⟩:=h;simp only at g j f i l;omega)];go_enter Tryz.func248,Tryz.ntmps248;go_wp2_with fail;go_ret;exact⟨by simp[*],Ac _ _⟩
 cases m:decide (Rc.sl s)with
 |false=>
  rw[show decide (Rc.Ix ⟨k,s,o,n⟩)=false from decide_eq_false (fun h=>by obtain⟨g,j,f,i,l⟩:=h;simp only at g j f i l;exact of_decide_eq_false m f)];have p:=Hq m;clear m;go_enter Tryz.func248,Tryz.ntmps248
  go_wp2_with(first|(go_at_call 284;(with_reducible refine(Nw s _ _ ?_).mono ?_);(first|with_reducible exact heap_alloc_new _ _|with_reducible exact Fb _ _ _);rintro e q ⟨rfl,a⟩;rw[p.out];have b:=Et (heap_alloc_new w _) a;have c:=Aa b 2;have d:=Aa b 3;clear b;simp at c d))
  go_ret;exact⟨by simp[*],Ag (Aj (Ac _ _)) a⟩
 |true=>
 have p:=Hq m;have r:=Hq (of_decide_eq_true m);clear m
 by_cases f:(o.size:Int)≤512
 rotate_left
 ·have g3:512<(o.size:Int):=by omega
  clear f;rw[show decide (Rc.Ix ⟨k,s,o,n⟩)=false from decide_eq_false (fun h=>by obtain⟨g,j,f,i,l⟩:=h;simp only at g j f i l;omega)];go_enter Tryz.func248,Tryz.ntmps248
  go_wp2_with(first|(go_at_call 284;(with_reducible refine(Nw s _ _ ?_).mono ?_);(first|with_reducible exact heap_alloc_new _ _|with_reducible exact Fb _ _ _);rintro e q ⟨rfl,a⟩;rw[p.out];have b:=Et (heap_alloc_new w _) a;have c:=Aa b 2;have d:=Aa b 3;clear b;simp at c d))
  go_ret;exact⟨by simp[*],Ag (Aj (Ac _ _)) a⟩
 by_cases i:(n.size:Int)≤512
 rotate_left
 ·have g4:512<(n.size:Int):=by omega
  clear i;rw[show decide (Rc.Ix ⟨k,s,o,n⟩)=false from decide_eq_false (fun h=>by obtain⟨g,j,f,i,l⟩:=h;simp only at g j f i l;omega)];go_enter Tryz.func248,Tryz.ntmps248
  go_wp2_with(first|(go_at_call 284;(with_reducible refine(Nw s _ _ ?_).mono ?_);(first|with_reducible exact heap_alloc_new _ _|with_reducible exact Fb _ _ _);rintro e q ⟨rfl,a⟩;rw[p.out];have b:=Et (heap_alloc_new w _) a;have c:=Aa b 2;have d:=Aa b 3;clear b;simp at c d))
  go_ret;exact⟨by simp[*],Ag (Aj (Ac _ _)) a⟩
 rw[show decide (Rc.Ix ⟨k,s,o,n⟩)=true from decide_eq_true ⟨by assumption,by assumption,r.out,by show o.size≤512;omega,by show n.size≤512;omega⟩];go_enter Tryz.func248,Tryz.ntmps248
 go_wp2_with(first|(go_at_call 284;(with_reducible refine(Nw s _ _ ?_).mono ?_);(first|with_reducible exact heap_alloc_new _ _|with_reducible exact Fb _ _ _);rintro e q ⟨rfl,a⟩;rw[p.out];have b:=Et (heap_alloc_new w _) a;have c:=Aa b 2;have d:=Aa b 3;clear b;simp at c d))
 go_ret;exact⟨by simp[*],Ag (Aj (Ac _ _)) a⟩
theorem oI (r:Rc.Rec)(T D:Value)(w:World):
 Cr 249 #[D9 r T D] w (.bool (decide (Rc.Fp r))):=by
 obtain⟨p,prev,q,kind,Ad,next,num,⟨ok,os,A,on⟩,j,root,⟨l,k,es⟩,B,C⟩:=r;have G:=Hq (fun W=>M4 ⟨l,k,es⟩ ⟨⟨#[]⟩,0,0⟩ W)
 by_cases z:j=1
 ·subst z
  by_cases F:root=0
  ·subst F
   have H:=G.out;have M:=Hq (show decide (Rc.Fp ⟨p,prev,q,kind,Ad,next,num,⟨ok,os,A,on⟩,1,0,⟨l,k,es⟩,B,C⟩)=decide ((⟨l,k,es⟩:Rc.Key)=⟨⟨#[]⟩,0,0⟩)from decide_eq_decide.2 ⟨fun h=>by
    rcases h with⟨_,_,I⟩|⟨h1,_⟩
    ·exact I
    ·simp only at h1;omega,fun h=>.inl ⟨rfl,rfl,h⟩⟩)
   rw[M.out];generalize decide ((⟨l,k,es⟩:Rc.Key)=⟨⟨#[]⟩,0,0⟩)=b at H ⊢;go_enter Tryz.func249,Tryz.ntmps249;go_wp2_with fail;go_ret;exact⟨by simp,Ac _ _⟩
  ·have R:(root==0)=false:=by simp[F]
   rw[show decide (Rc.Fp ⟨p,prev,q,kind,Ad,next,num,⟨ok,os,A,on⟩,1,root,⟨l,k,es⟩,B,C⟩)=false from decide_eq_false (fun h=>by
    rcases h with⟨_,I,_⟩|⟨h1,_⟩
    ·exact F I
    ·simp only at h1;omega)]
   clear F;go_enter Tryz.func249,Tryz.ntmps249;go_wp2_with fail;go_ret;exact⟨by simp,Ac _ _⟩
 ·have N:(j==1)=false:=by simp[z]
  have m:=Hq (show ∀ (h:¬ ((j=2∨j=3)∧Rc.pg root∧Rc.pg k∧Rc.sl es∧l.size≤100)),decide (Rc.Fp ⟨p,prev,q,kind,Ad,next,num,⟨ok,os,A,on⟩,j,root,⟨l,k,es⟩,B,C⟩)=false from fun h=>decide_eq_false (fun O=>by
   rcases O with⟨h1,_⟩|h1
   ·exact z h1
   ·exact h h1))
  by_cases hk:j=2∨j=3
  rotate_left
  ·rw[m.out (fun h=>hk h.1)]
   have P:(j==2)=false:=(by simp;omega);have Q:(j==3)=false:=(by simp;omega);clear hk z;go_enter Tryz.func249,Tryz.ntmps249;go_wp2_with fail;go_ret;exact⟨by simp,Ac _ _⟩
  rcases hk with rfl|rfl
  ·clear z
   cases n:decide (Rc.pg root∧Rc.pg k)with
   |false=>
    rw[m.out (fun h=>of_decide_eq_false n ⟨h.2.1,h.2.2.1⟩)];have s:=Hq n;clear n;go_enter Tryz.func249,Tryz.ntmps249
    go_wp2_with(first|(go_at_call 247;(with_reducible refine(Mh root k _ _ ?_).mono ?_);(first|with_reducible exact heap_alloc_new _ _|with_reducible exact Fb _ _ _);rintro e x ⟨rfl,a⟩;rw[s.out]))
    go_ret;exact⟨by simp,Ag (Aj (Ac _ _)) a⟩
   |true=>
    have s:=Hq n;have t:=Hq (of_decide_eq_true n);clear n
    cases o:decide (Rc.sl es)with
    |false=>
     rw[m.out (fun h=>of_decide_eq_false o h.2.2.2.1)];have v:=Hq o;clear o;go_enter Tryz.func249,Tryz.ntmps249
     go_wp2_with(first|(go_at_call 247;(with_reducible refine(Mh root k _ _ ?_).mono ?_);(first|with_reducible exact heap_alloc_new _ _|with_reducible exact Fb _ _ _);rintro e x ⟨rfl,a⟩;rw[s.out];have d:=Et (heap_alloc_new w _) a;have f:=Aa d 15;have g:=Aa d 13;have u:=Hq d;clear d;simp at f g)|(go_at_call 284;(with_reducible refine(Nw es _ _ ?_).mono ?_);(first|with_reducible exact heap_alloc_new _ _|with_reducible exact Fb _ _ _);rintro e E ⟨rfl,c⟩;rw[v.out];have i:=Aa (Et u.out c) 13;simp at i))
     go_ret;exact⟨by simp,Ag (Aj (Ag (Aj (Ac _ _)) a)) c⟩
    |true=>
     have v:=Hq o;have y:=Hq (of_decide_eq_true o);clear o
     by_cases J:(l.size:Int)≤100
     ·have K:=Hq (show decide (Rc.Fp ⟨p,prev,q,kind,Ad,next,num,⟨ok,os,A,on⟩,2,root,⟨l,k,es⟩,B,C⟩)=true from decide_eq_true (.inr ⟨by simp,t.out.1,t.out.2,y.out,by show l.size≤100;omega⟩))
      rw[K.out];go_enter Tryz.func249,Tryz.ntmps249
      go_wp2_with(first|(go_at_call 247;(with_reducible refine(Mh root k _ _ ?_).mono ?_);(first|with_reducible exact heap_alloc_new _ _|with_reducible exact Fb _ _ _);rintro e x ⟨rfl,a⟩;rw[s.out];have d:=Et (heap_alloc_new w _) a;have f:=Aa d 15;have g:=Aa d 13;have u:=Hq d;clear d;simp at f g)|(go_at_call 284;(with_reducible refine(Nw es _ _ ?_).mono ?_);(first|with_reducible exact heap_alloc_new _ _|with_reducible exact Fb _ _ _);rintro e E ⟨rfl,c⟩;rw[v.out];have i:=Aa (Et u.out c) 13;simp at i))
      go_ret;exact⟨by simp[*],Ag (Aj (Ag (Aj (Ac _ _)) a)) c⟩
     ·rw[m.out (fun h=>by have:=h.2.2.2.2;omega)]
      have L:100<(l.size:Int):=(by omega);clear J;go_enter Tryz.func249,Tryz.ntmps249
      go_wp2_with(first|(go_at_call 247;(with_reducible refine(Mh root k _ _ ?_).mono ?_);(first|with_reducible exact heap_alloc_new _ _|with_reducible exact Fb _ _ _);rintro e x ⟨rfl,a⟩;rw[s.out];have d:=Et (heap_alloc_new w _) a;have f:=Aa d 15;have g:=Aa d 13;have u:=Hq d;clear d;simp at f g)|(go_at_call 284;(with_reducible refine(Nw es _ _ ?_).mono ?_);(first|with_reducible exact heap_alloc_new _ _|with_reducible exact Fb _ _ _);rintro e E ⟨rfl,c⟩;rw[v.out];have i:=Aa (Et u.out c) 13;simp at i))
      go_ret;exact⟨by simp[*],Ag (Aj (Ag (Aj (Ac _ _)) a)) c⟩
  ·clear z
   cases n:decide (Rc.pg root∧Rc.pg k)with
   |false=>
    rw[m.out (fun h=>of_decide_eq_false n ⟨h.2.1,h.2.2.1⟩)];have s:=Hq n;clear n;go_enter Tryz.func249,Tryz.ntmps249
    go_wp2_with(first|(go_at_call 247;(with_reducible refine(Mh root k _ _ ?_).mono ?_);(first|with_reducible exact heap_alloc_new _ _|with_reducible exact Fb _ _ _);rintro e x ⟨rfl,a⟩;rw[s.out]))
    go_ret;exact⟨by simp,Ag (Aj (Ac _ _)) a⟩
   |true=>
    have s:=Hq n;have t:=Hq (of_decide_eq_true n);clear n
    cases o:decide (Rc.sl es)with
    |false=>
     rw[m.out (fun h=>of_decide_eq_false o h.2.2.2.1)];have v:=Hq o;clear o;go_enter Tryz.func249,Tryz.ntmps249
     go_wp2_with(first|(go_at_call 247;(with_reducible refine(Mh root k _ _ ?_).mono ?_);(first|with_reducible exact heap_alloc_new _ _|with_reducible exact Fb _ _ _);rintro e x ⟨rfl,a⟩;rw[s.out];have d:=Et (heap_alloc_new w _) a;have f:=Aa d 15;have g:=Aa d 13;have u:=Hq d;clear d;simp at f g)|(go_at_call 284;(with_reducible refine(Nw es _ _ ?_).mono ?_);(first|with_reducible exact heap_alloc_new _ _|with_reducible exact Fb _ _ _);rintro e E ⟨rfl,c⟩;rw[v.out];have i:=Aa (Et u.out c) 13;simp at i))
     go_ret;exact⟨by simp,Ag (Aj (Ag (Aj (Ac _ _)) a)) c⟩
    |true=>
     have v:=Hq o;have y:=Hq (of_decide_eq_true o);clear o
     by_cases J:(l.size:Int)≤100
     ·have K:=Hq (show decide (Rc.Fp ⟨p,prev,q,kind,Ad,next,num,⟨ok,os,A,on⟩,3,root,⟨l,k,es⟩,B,C⟩)=true from decide_eq_true (.inr ⟨by simp,t.out.1,t.out.2,y.out,by show l.size≤100;omega⟩))
      rw[K.out];go_enter Tryz.func249,Tryz.ntmps249
      go_wp2_with(first|(go_at_call 247;(with_reducible refine(Mh root k _ _ ?_).mono ?_);(first|with_reducible exact heap_alloc_new _ _|with_reducible exact Fb _ _ _);rintro e x ⟨rfl,a⟩;rw[s.out];have d:=Et (heap_alloc_new w _) a;have f:=Aa d 15;have g:=Aa d 13;have u:=Hq d;clear d;simp at f g)|(go_at_call 284;(with_reducible refine(Nw es _ _ ?_).mono ?_);(first|with_reducible exact heap_alloc_new _ _|with_reducible exact Fb _ _ _);rintro e E ⟨rfl,c⟩;rw[v.out];have i:=Aa (Et u.out c) 13;simp at i))
      go_ret;exact⟨by simp[*],Ag (Aj (Ag (Aj (Ac _ _)) a)) c⟩
     ·rw[m.out (fun h=>by have:=h.2.2.2.2;omega)]
      have L:100<(l.size:Int):=(by omega);clear J;go_enter Tryz.func249,Tryz.ntmps249
      go_wp2_with(first|(go_at_call 247;(with_reducible refine(Mh root k _ _ ?_).mono ?_);(first|with_reducible exact heap_alloc_new _ _|with_reducible exact Fb _ _ _);rintro e x ⟨rfl,a⟩;rw[s.out];have d:=Et (heap_alloc_new w _) a;have f:=Aa d 15;have g:=Aa d 13;have u:=Hq d;clear d;simp at f g)|(go_at_call 284;(with_reducible refine(Nw es _ _ ?_).mono ?_);(first|with_reducible exact heap_alloc_new _ _|with_reducible exact Fb _ _ _);rintro e E ⟨rfl,c⟩;rw[v.out];have i:=Aa (Et u.out c) 13;simp at i))
      go_ret;exact⟨by simp[*],Ag (Aj (Ag (Aj (Ac _ _)) a)) c⟩
end Go.Proofs.YtmfkhdhnbkambaaGreatDoor
namespace Rc
section
open Classical
noncomputable def D0 (r:Rec):Bool:=decide (Bu r)
theorem M6 {r:Rec}{b:Bool}(h:Bu r↔b=true):D0 r=b:=by
 unfold D0
 cases b with
 |true=>exact decide_eq_true (h.2 rfl)
 |false=>exact decide_eq_false (fun a=>by have:=h.1 a;cases this)
theorem C4 {r:Rec}(h:¬ Bu r):D0 r=false:=by unfold D0;exact decide_eq_false h
theorem Fx {r:Rec}(h:Bu r):D0 r=true:=by unfold D0;exact decide_eq_true h
theorem Sg {r:Rec}:D0 r=true↔Bu r:=by unfold D0;exact decide_eq_true_iff
end
end Rc
namespace Go.Proofs.YtmfkhdhnbkambaaGreatDoor
open Go.RowKit
structure E8 (w:World) (a f b:Nat) (R F X:Array Value) (u:World):Prop where
 br:u.heap[a]? =some (.cells R 49 (0,0))
 bf:u.heap[f]? =some (.cells F 228 (0,0))
 bx:u.heap[b]? =some (.cells X 49 (0,0))
 ab:a<b∧f<b
 low:w.heap.size≤a
 below:Bw w u
theorem E8.step {w u v:World}{a f b:Nat}{R F X:Array Value}(h:E8 w a f b R F X u)(c:Bw u v):E8 w a f b R F X v:=
 ⟨Af h.br c,Af h.bf c,Af h.bx c,h.ab,h.low,Ag h.below c⟩
theorem E8.set {w u:World}{a f b:Nat}{R F X:Array Value}(h:E8 w a f b R F X u)(i:Nat)(v:Value):E8 w a f b R F (X.setIfInBounds i v) (u.setCell ⟨b,i,none⟩ v):=
 ⟨by rw[Below.heap_setCell _ _ _ _ (by have:=h.ab;show a≠b;omega)];exact h.br,by rw[Below.heap_setCell _ _ _ _ (by have:=h.ab;show f≠b;omega)];exact h.bf,Cp i h.bx v,h.ab,h.low,h.below.setCell (by have:=h.ab;have:=h.low;show _≤b;omega) v⟩
theorem E8.drew {w u:World}{a f b:Nat}{R F X:Array Value}(h:E8 w a f b R F X u):E8 w a f b R F X u.drew:=⟨h.br,h.bf,h.bx,h.ab,h.low,h.below.drew⟩
theorem I5 {w w1 w2:World}{R F X:Array Value}{o:Obj}(a:Below (w.alloc (.cells R 49)).heap.size (w.alloc (.cells R 49)) w1)
 (b:Below ((w1.alloc (.cells F 228)).alloc o).heap.size ((w1.alloc (.cells F 228)).alloc o) w2):E8 w w.heap.size w1.heap.size w2.heap.size R F X (w2.alloc (.cells X 49)):=by
 have f:Bw w w1:=Ag (Ac _ _) a;have e:Bw w1 w2:=Ag (Aj (Ac _ _)) b;have c:=a.size;have d:=b.size
 simp at c d
 refine⟨?_,?_,heap_alloc_new w2 _,⟨by omega,by omega⟩,Nat.le_refl _,Aj (Ag f e)⟩
 ·rw[Below.heap_alloc _ _ _ (by omega)];exact Af (Bv a) e
 ·rw[Below.heap_alloc _ _ _ (by omega)];exact Af (Qo _ _ _) b
end Go.Proofs.YtmfkhdhnbkambaaGreatDoor
namespace Rc
abbrev N3 (a b c:Int):Prop:=num a∧num b∧num c
theorem sB (a prev b Ad next j c root:Int)(op:Op)(e:Key)(k:List Be)(l:List Bx):
 Bu ⟨a,prev,b,2,Ad,next,j,op,c,root,e,k,l⟩↔N3 a prev b∧((pg Ad∧Ix op)∧Fp ⟨a,prev,b,2,Ad,next,j,op,c,root,e,k,l⟩)∧(⟨a,prev,b,2,Ad,0,0,op,c,root,e,[],[]⟩:Rec)=⟨a,prev,b,2,Ad,next,j,op,c,root,e,k,l⟩:=by
 constructor
 ·intro h
  have f:=F9 h;have m:=f.change (Or.inl rfl);have n:next=0:=f.noNext (fun h=>by rcases h with h|h<;>cases h);obtain⟨d,g,i⟩:=f.noLists (fun h=>by cases h);simp only at d g i;subst n d g i;exact⟨f.nums,⟨m,f.tree rfl⟩,rfl⟩
 ·rintro⟨⟨m,n,d⟩,⟨⟨g,i⟩,o⟩,p⟩
  rw[← p];exact Bu.change _ _ _ _ _ _ _ _ m n d g i o
theorem sC (a prev b Ad next k c root:Int)(op:Op)(e:Key)(l:List Be)(m:List Bx):
 Bu ⟨a,prev,b,3,Ad,next,k,op,c,root,e,l,m⟩↔N3 a prev b∧((pg Ad∧Ix op)∧num next)∧(⟨a,prev,b,3,Ad,next,0,op,0,0,Ce,[],[]⟩:Rec)=⟨a,prev,b,3,Ad,next,k,op,c,root,e,l,m⟩:=by
 constructor
 ·intro h
  have f:=F9 h;have j:=f.change (Or.inr (Or.inl rfl));obtain⟨g1,g2,g3⟩:=f.noTree (fun h=>by cases h);obtain⟨d,g,i⟩:=f.noLists (fun h=>by cases h);simp only at d g i g1 g2 g3;subst d g i g1 g2 g3;exact⟨f.nums,⟨j,f.next (Or.inl rfl)⟩,rfl⟩
 ·rintro⟨⟨j,n,d⟩,⟨⟨g,i⟩,o⟩,p⟩
  rw[← p];exact Bu.clr _ _ _ _ _ _ j n d g i o
theorem sD (a prev b Ad next g c root:Int)(op:Op)(e:Key)(i:List Be)(j:List Bx):
 Bu ⟨a,prev,b,4,Ad,next,g,op,c,root,e,i,j⟩↔N3 a prev b∧num next∧(⟨a,prev,b,4,0,next,0,Jo,0,0,Ce,[],[]⟩:Rec)=⟨a,prev,b,4,Ad,next,g,op,c,root,e,i,j⟩:=by
 constructor
 ·intro h
  have f:=F9 h;obtain⟨i1,i2⟩:=f.bare (fun h=>by rcases h with h|h|h<;>cases h);obtain⟨g1,g2,g3⟩:=f.noTree (fun h=>by cases h);obtain⟨d,k,l⟩:=f.noLists (fun h=>by cases h);simp only at d k l g1 g2 g3 i1 i2;subst d k l g1 g2 g3 i1 i2;exact⟨f.nums,f.next (Or.inr rfl),rfl⟩
 ·rintro⟨⟨m,n,d⟩,o,p⟩
  rw[← p];exact Bu.nest _ _ _ _ m n d o
theorem sE (a prev b Ad next l c root:Int)(op:Op)(e:Key)(m:List Be)(n:List Bx):
 Bu ⟨a,prev,b,8,Ad,next,l,op,c,root,e,m,n⟩↔N3 a prev b∧(pg Ad∧Ix op)∧(⟨a,prev,b,8,Ad,0,0,op,0,0,Ce,[],[]⟩:Rec)=⟨a,prev,b,8,Ad,next,l,op,c,root,e,m,n⟩:=by
 constructor
 ·intro h
  have f:=F9 h;have j:=f.change (Or.inr (Or.inr rfl));have k:next=0:=f.noNext (fun h=>by rcases h with h|h<;>cases h);obtain⟨g1,g2,g3⟩:=f.noTree (fun h=>by cases h);obtain⟨d,g,i⟩:=f.noLists (fun h=>by cases h);simp only at d g i g1 g2 g3;subst k d g i g1 g2 g3;exact⟨f.nums,j,rfl⟩
 ·rintro⟨⟨j,k,d⟩,⟨g,i⟩,o⟩
  rw[← o];exact Bu.image _ _ _ _ _ j k d g i
theorem sF (a prev b Ad next j c root:Int)(op:Op)(e:Key)(g:List Be)(i:List Bx):
 Bu ⟨a,prev,b,9,Ad,next,j,op,c,root,e,g,i⟩↔N3 a prev b∧(((num j∧g.length≤1000∧i.length≤2000)∧∀ t∈g,Ji t)∧∀ d∈i,Fj d)∧(⟨a,prev,b,9,0,0,j,Jo,0,0,Ce,g,i⟩:Rec)=⟨a,prev,b,9,Ad,next,j,op,c,root,e,g,i⟩:=by
 constructor
 ·intro h
  have f:=F9 h;obtain⟨i1,i2⟩:=f.bare (fun h=>by rcases h with h|h|h<;>cases h);have k:next=0:=f.noNext (fun h=>by rcases h with h|h<;>cases h);obtain⟨g1,g2,g3⟩:=f.noTree (fun h=>by cases h);obtain⟨l,m,n,o,p⟩:=f.lists rfl;simp only at g1 g2 g3 i1 i2;subst k g1 g2 g3 i1 i2;exact⟨f.nums,⟨⟨⟨l,m,n⟩,o⟩,p⟩,rfl⟩
 ·rintro⟨⟨q,k,r⟩,⟨⟨⟨l,m,n⟩,o⟩,p⟩,s⟩
  rw[← s];exact Bu.check _ _ _ _ _ _ q k r l ⟨m,n,o,p⟩
theorem Zh (kind:Int)(hk:kind=1∨kind=5∨kind=6∨kind=7)(a prev b Ad next i c root:Int)(op:Op)(e:Key)(j:List Be)(k:List Bx):
 Bu ⟨a,prev,b,kind,Ad,next,i,op,c,root,e,j,k⟩↔N3 a prev b∧(⟨a,prev,b,kind,0,0,0,Jo,0,0,Ce,[],[]⟩:Rec)=⟨a,prev,b,kind,Ad,next,i,op,c,root,e,j,k⟩:=by
 constructor
 ·intro h
  have f:=F9 h;obtain⟨i1,i2⟩:=f.bare (fun h=>by unfold E4 at h;simp only at h;omega);have g:next=0:=f.noNext (fun h=>by unfold hasNext at h;simp only at h;omega);obtain⟨g1,g2,g3⟩:=f.noTree (fun h=>by simp only at h;omega);obtain⟨d,l,m⟩:=f.noLists (fun h=>by simp only at h;omega);simp only at d l m g1 g2 g3 i1 i2;subst g d l m g1 g2 g3 i1 i2;exact⟨f.nums,rfl⟩
 ·rintro⟨⟨n,g,d⟩,o⟩
  rw[← o];exact Bu.small _ _ _ _ hk n g d
theorem cJ {r:Rec}(h:¬ (1≤r.kind∧r.kind≤9)):¬ Bu r:=fun a=>h (F9 a).kind
end Rc
namespace Go.Proofs.YtmfkhdhnbkambaaGreatDoor
open Go.RowKit
theorem Ws (a prev b Ad next p ok os f root j es:Int)(i on k:ByteArray)(n:List Rc.Be)(o:List Rc.Bx)(A B:Option Addr)(c d:Nat)(w:World)(hr:Ig w ⟨a,prev,b,2,Ad,next,p,⟨ok,os,i,on⟩,f,root,⟨k,j,es⟩,n,o⟩ A c B d):
 Cr 206 #[.agg (Cn a prev b 2 Ad next p ok os i on f root k j es (.slice A n.length c) (.slice B o.length d))] w (.bool (Rc.D0 ⟨a,prev,b,2,Ad,next,p,⟨ok,os,i,on⟩,f,root,⟨k,j,es⟩,n,o⟩)):=by
 have z:=Hq (fun W=>Hj 2 W);rw[show Y6 2= .tuple #[Gt true true false false true,true]from rfl]at z;have t:=Hq (fun W g h=>Le a prev b W g h);obtain⟨Q,hQ⟩:=ex (Rc.D0 ⟨a,prev,b,2,Ad,next,p,⟨ok,os,i,on⟩,f,root,⟨k,j,es⟩,n,o⟩);rw[← hQ];have HQ:=Hq hQ;have C:=hr.small;simp only at C;have ag:=C.1;have ah:=C.2;have a7:=Hq hr;clear hQ hr C;have P:=Hq (Rc.sB a prev b Ad next p f root ⟨ok,os,i,on⟩ ⟨k,j,es⟩ n o)
 cases N:decide (Rc.num a∧Rc.num prev∧Rc.num b)with
 |false=>
  rw[N]at t;have HF:=Hq (HQ.out.trans (Rc.C4 fun h=>of_decide_eq_false N (P.out.1 h).1));clear N P;go_enter Tryz.func206,Tryz.ntmps206
  go_wp2_with(first
   |(go_at_call 245;(with_reducible refine(z.out _).mono ?_);rintro e D ⟨rfl,l⟩;have u:=Aa (Bv l);have a8:w.heap.size<D.heap.size:=(by have:=l.size;simp at this;omega);have q:=Hq l;clear l)
   |(go_at_call 246;(with_reducible refine(t.out _ _ ?_).mono ?_);(with_reducible exact Fb _ _ _);rintro e x ⟨rfl,m⟩;have S:=Aa (Af (Bv q.out) (Ag (Aj (Ac _ _)) m));have aa:D.heap.size+1<x.heap.size:=(by have:=m.size;simp at this;omega);have E:=Hq m;clear m)
   |with_reducible refine sN (Cn a prev b 2 0 0 0 0 0 ⟨#[]⟩ ⟨#[]⟩ 0 0 ⟨#[]⟩ 0 0 (.slice none 0 0) (.slice none 0 0)) ?_)
  go_ret;exact⟨by rw[HF.out];rfl,Ag (Ag (Ac _ _) q.out) (Ag (Aj (Ac _ _)) E.out)⟩
 |true=>
  rw[N]at t;have HN:=Hq (of_decide_eq_true N);clear N;go_enter Tryz.func206,Tryz.ntmps206
  go_upto_region 5 with(first
   |(go_at_call 245;(with_reducible refine(z.out _).mono ?_);rintro e D ⟨rfl,l⟩;have u:=Aa (Bv l);have a8:w.heap.size<D.heap.size:=(by have:=l.size;simp at this;omega);have q:=Hq l;clear l)
   |(go_at_call 246;(with_reducible refine(t.out _ _ ?_).mono ?_);(with_reducible exact Fb _ _ _);rintro e x ⟨rfl,m⟩;have S:=Aa (Af (Bv q.out) (Ag (Aj (Ac _ _)) m));have aa:D.heap.size+1<x.heap.size:=(by have:=m.size;simp at this;omega);have E:=Hq m;clear m)
   |with_reducible refine sN (Cn a prev b 2 0 0 0 0 0 ⟨#[]⟩ ⟨#[]⟩ 0 0 ⟨#[]⟩ 0 0 (.slice none 0 0) (.slice none 0 0)) ?_)
  have I:=Hq (I5 (R:=(Cn a prev b 2 Ad next p ok os i on f root k j es (.slice A n.length c) (.slice B o.length d))) (F:=#[true,true,false,false,true]) (X:=(Cn a prev b 2 0 0 0 0 0 ⟨#[]⟩ ⟨#[]⟩ 0 0 ⟨#[]⟩ 0 0 (.slice none 0 0) (.slice none 0 0))) q.out E.out);clear u S t z q E;obtain⟨V,hV⟩:=ex (x.alloc (.cells (Cn a prev b 2 0 0 0 0 0 ⟨#[]⟩ ⟨#[]⟩ 0 0 ⟨#[]⟩ 0 0 (.slice none 0 0) (.slice none 0 0)) 49));rw[← hV]at I ⊢;clear hV;have u:=Aa I.out.br;have H:=Aa I.out.bf
  go_upto_region 6 with(fail)
  go_cut [4] (fun s J=>s= .bool (decide (Rc.pg Ad)&&decide (Rc.Ix ⟨ok,os,i,on⟩))∧E8 w w.heap.size D.heap.size x.heap.size (Cn a prev b 2 Ad next p ok os i on f root k j es (.slice A n.length c) (.slice B o.length d)) #[true,true,false,false,true] (Cn a prev b 2 0 0 0 0 0 ⟨#[]⟩ ⟨#[]⟩ 0 0 ⟨#[]⟩ 0 0 (.slice none 0 0) (.slice none 0 0)) J)
  case first=>
   cases hp:decide (Rc.pg Ad)with
   |false=>
    have T:=Hq hp;clear hp
    go_wp2_with(first|(go_at_call 247;(with_reducible refine(Oc Ad _ _ ?_).mono ?_);(with_reducible exact heap_alloc_new _ _);rintro e w3 ⟨rfl,G⟩;rw[T.out]))
    go_meet
    case rel=>exact⟨by simp[T.out],I.out.step (Ag (Ac _ _) G)⟩
   |true=>
    have T:=Hq hp;clear hp;generalize U:decide (Rc.Ix ⟨ok,os,i,on⟩)=qo;have HO:=Hq U;clear U
    go_wp2_with(first|(go_at_call 247;(with_reducible refine(Oc Ad _ _ ?_).mono ?_);(with_reducible exact heap_alloc_new _ _);rintro e w3 ⟨rfl,G⟩;rw[T.out];have ai:=Aa (I.out.step (Ag (Ac _ _) G)).br)|(go_at_call 248;(with_reducible refine(cI ⟨ok,os,i,on⟩ _).mono ?_);rintro e w4 ⟨rfl,ad⟩;rw[HO.out]))
    go_meet
    case rel=>exact⟨by simp[T.out,HO.out],(I.out.step (Ag (Ac _ _) G)).step ad⟩
  case rest=>
  obtain⟨W1,rfl⟩:=ex wc;obtain⟨rfl,Y⟩:=hcut;have H1:=Hq Y;clear u H Y I;have u:=Aa H1.out.br;have H:=Aa H1.out.bf;have K:=Aa H1.out.bx;have L:=Ap H1.out.bx;have ae:w.heap.size≠x.heap.size:=by have:=H1.out.ab;omega
  go_upto_region 7 with(fail)
  go_cut [] (fun J=>E8 w w.heap.size D.heap.size x.heap.size (Cn a prev b 2 Ad next p ok os i on f root k j es (.slice A n.length c) (.slice B o.length d)) #[true,true,false,false,true] (Cn a prev b 2 Ad 0 0 ok os i on 0 0 ⟨#[]⟩ 0 0 (.slice none 0 0) (.slice none 0 0)) J)
  case first=>
   go_region
   all_goals
    go_wp2_with fail;go_meet
    case rel=>
     first
      |(have h:=(((((H1.out.set 4 (.int .i64 Ad)).set 7 (.int .i64 ok)).set 8 (.int .i64 os)).set 9 (.string i)).set 10 (.string on)).drew;simpa using h)
      |(have h:=(((((H1.out.set 7 (.int .i64 ok)).set 8 (.int .i64 os)).set 9 (.string i)).set 10 (.string on)).set 4 (.int .i64 Ad)).drew;simpa using h)
  case rest=>
  obtain⟨W2,rfl⟩:=ex wc;have O:=Hq hcut;clear u H K L hcut H1;have u:=Aa O.out.br;have H:=Aa O.out.bf
  go_upto_region 9 with(fail)
  go_cut [4] (fun s J=>s= .bool ((decide (Rc.pg Ad)&&decide (Rc.Ix ⟨ok,os,i,on⟩))&&decide (Rc.Fp ⟨a,prev,b,2,Ad,next,p,⟨ok,os,i,on⟩,f,root,⟨k,j,es⟩,n,o⟩))∧E8 w w.heap.size D.heap.size x.heap.size (Cn a prev b 2 Ad next p ok os i on f root k j es (.slice A n.length c) (.slice B o.length d)) #[true,true,false,false,true] (Cn a prev b 2 Ad 0 0 ok os i on 0 0 ⟨#[]⟩ 0 0 (.slice none 0 0) (.slice none 0 0)) J)
  case first=>
   generalize v:(decide (Rc.pg Ad)&&decide (Rc.Ix ⟨ok,os,i,on⟩))=qa;have Z:=Hq v;clear v
   cases qa with
   |false=>
    go_wp2_with fail;go_meet
    case rel=>exact⟨by simp[Z.out],O.out⟩
   |true=>
    generalize a1:decide (Rc.Fp ⟨a,prev,b,2,Ad,next,p,⟨ok,os,i,on⟩,f,root,⟨k,j,es⟩,n,o⟩)=qt;have HT:=Hq a1;clear a1
    go_wp2_with(first|with_reducible refine lL O.out.br C5 ?_|(go_at_call 249;(with_reducible refine(oI ⟨a,prev,b,2,Ad,next,p,⟨ok,os,i,on⟩,f,root,⟨k,j,es⟩,n,o⟩ (.slice A n.length c) (.slice B o.length d) _).mono ?_);rintro e w5 ⟨rfl,af⟩;rw[HT.out]))
    go_meet
    case rel=>exact⟨by simp[Z.out,HT.out],O.out.step af⟩
  case rest=>
  obtain⟨W3,rfl⟩:=ex wc;obtain⟨rfl,a6⟩:=hcut;have r:=Hq a6;clear u H a6 O;have u:=Aa r.out.br;have H:=Aa r.out.bf;have K:=Aa r.out.bx;have L:=Ap r.out.bx;have ae:w.heap.size≠x.heap.size:=by have:=r.out.ab;omega
  go_upto_region 10 with(fail)
  go_cut [] (fun J=>E8 w w.heap.size D.heap.size x.heap.size (Cn a prev b 2 Ad next p ok os i on f root k j es (.slice A n.length c) (.slice B o.length d)) #[true,true,false,false,true] (Cn a prev b 2 Ad 0 0 ok os i on f root k j es (.slice none 0 0) (.slice none 0 0)) J)
  case first=>
   go_region
   all_goals
    go_wp2_with fail;go_meet
    case rel=>
     first
      |(have h:=(((((r.out.set 11 (.int .i64 f)).set 12 (.int .i64 root)).set 13 (.string k)).set 14 (.int .i64 j)).set 15 (.int .i64 es)).drew;simpa using h)
      |(have h:=(((((r.out.set 11 (.int .i64 f)).set 13 (.string k)).set 14 (.int .i64 j)).set 15 (.int .i64 es)).set 12 (.int .i64 root)).drew;simpa using h)
      |(have h:=(((((r.out.set 12 (.int .i64 root)).set 11 (.int .i64 f)).set 13 (.string k)).set 14 (.int .i64 j)).set 15 (.int .i64 es)).drew;simpa using h)
      |(have h:=(((((r.out.set 12 (.int .i64 root)).set 13 (.string k)).set 14 (.int .i64 j)).set 15 (.int .i64 es)).set 11 (.int .i64 f)).drew;simpa using h)
      |(have h:=(((((r.out.set 13 (.string k)).set 14 (.int .i64 j)).set 15 (.int .i64 es)).set 11 (.int .i64 f)).set 12 (.int .i64 root)).drew;simpa using h)
      |(have h:=(((((r.out.set 13 (.string k)).set 14 (.int .i64 j)).set 15 (.int .i64 es)).set 12 (.int .i64 root)).set 11 (.int .i64 f)).drew;simpa using h)
  case rest=>
  obtain⟨W4,rfl⟩:=ex wc;have y:=Hq hcut;clear u H K L hcut r;have u:=Aa y.out.br;have H:=Aa y.out.bf
  go_upto_region 19 with(fail)
  generalize v:((decide (Rc.pg Ad)&&decide (Rc.Ix ⟨ok,os,i,on⟩))&&decide (Rc.Fp ⟨a,prev,b,2,Ad,next,p,⟨ok,os,i,on⟩,f,root,⟨k,j,es⟩,n,o⟩))=qa;have Z:=Hq v;clear v
  cases qa with
  |false=>
   go_wp2_with fail;go_ret;refine⟨?_,y.out.below⟩;have HF:=HQ.out.trans (Rc.C4 fun h=>by
    have h2:=(P.out.1 h).2.1;have h3:=Z.out;simp only[Bool.and_eq_false_iff,decide_eq_false_iff_not]at h3
    grind)
   rw[HF]
   rfl
  |true=>
   have HS:=Hq (Ko ⟨a,prev,b,2,Ad,0,0,⟨ok,os,i,on⟩,f,root,⟨k,j,es⟩,[],[]⟩ ⟨a,prev,b,2,Ad,next,p,⟨ok,os,i,on⟩,f,root,⟨k,j,es⟩,n,o⟩ none A none B 0 c 0 d W4 ⟨(Reads.none_ _ _ _ _),(Reads.none_ _ _ _ _),⟨by simp,by simp⟩⟩ (a7.out.below y.out.below));dsimp only[D9,D3,List.length_nil]at HS
   cases he:decide ((⟨a,prev,b,2,Ad,0,0,⟨ok,os,i,on⟩,f,root,⟨k,j,es⟩,[],[]⟩:Rc.Rec)=⟨a,prev,b,2,Ad,next,p,⟨ok,os,i,on⟩,f,root,⟨k,j,es⟩,n,o⟩)with
   |false=>
    have HE:=Hq he;clear he
    go_wp2_with(first|with_reducible refine lL y.out.bx C5 ?_|with_reducible refine lL y.out.br C5 ?_|(go_at_call 254;(with_reducible refine HS.out.mono ?_);rintro e w9 ⟨rfl,M⟩;rw[HE.out]))
    go_ret;refine⟨?_,Ag y.out.below M⟩;rw[HQ.out.trans (Rc.C4 fun h=>of_decide_eq_false HE.out (P.out.1 h).2.2)]
    rfl
   |true=>
    have HE:=Hq he;clear he
    go_wp2_with(first|with_reducible refine lL y.out.bx C5 ?_|with_reducible refine lL y.out.br C5 ?_|(go_at_call 254;(with_reducible refine HS.out.mono ?_);rintro e w9 ⟨rfl,M⟩;rw[HE.out]))
    go_ret;refine⟨?_,Ag y.out.below M⟩;rw[HQ.out.trans (Rc.Fx (P.out.2 ⟨HN.out,by have h3:=Z.out;simpa only[Bool.and_eq_true,decide_eq_true_eq]using h3,of_decide_eq_true HE.out⟩))]
    rfl
theorem iV (a prev b Ad next m ok os f root n es:Int)(i on o:ByteArray)(p:List Rc.Be)(q:List Rc.Bx)(A B:Option Addr)(c d:Nat)(w:World)(hr:Ig w ⟨a,prev,b,3,Ad,next,m,⟨ok,os,i,on⟩,f,root,⟨o,n,es⟩,p,q⟩ A c B d):
 Cr 206 #[.agg (Cn a prev b 3 Ad next m ok os i on f root o n es (.slice A p.length c) (.slice B q.length d))] w (.bool (Rc.D0 ⟨a,prev,b,3,Ad,next,m,⟨ok,os,i,on⟩,f,root,⟨o,n,es⟩,p,q⟩)):=by
 have y:=Hq (fun W=>Hj 3 W);rw[show Y6 3= .tuple #[Gt true false true false true,true]from rfl]at y;have r:=Hq (fun W g h=>Le a prev b W g h);obtain⟨Q,hQ⟩:=ex (Rc.D0 ⟨a,prev,b,3,Ad,next,m,⟨ok,os,i,on⟩,f,root,⟨o,n,es⟩,p,q⟩);rw[← hQ];have HQ:=Hq hQ;have z:=hr.small;simp only at z;have ag:=z.1;have ah:=z.2;have a7:=Hq hr;clear hQ hr z;have N:=Hq (Rc.sC a prev b Ad next m f root ⟨ok,os,i,on⟩ ⟨o,n,es⟩ p q)
 cases M:decide (Rc.num a∧Rc.num prev∧Rc.num b)with
 |false=>
  rw[M]at r;have HF:=Hq (HQ.out.trans (Rc.C4 fun h=>of_decide_eq_false M (N.out.1 h).1));clear M N;go_enter Tryz.func206,Tryz.ntmps206
  go_wp2_with(first
   |(go_at_call 245;(with_reducible refine(y.out _).mono ?_);rintro e C ⟨rfl,j⟩;have t:=Aa (Bv j);have a8:w.heap.size<C.heap.size:=(by have:=j.size;simp at this;omega);have l:=Hq j;clear j)
   |(go_at_call 246;(with_reducible refine(r.out _ _ ?_).mono ?_);(with_reducible exact Fb _ _ _);rintro e x ⟨rfl,k⟩;have O:=Aa (Af (Bv l.out) (Ag (Aj (Ac _ _)) k));have aa:C.heap.size+1<x.heap.size:=(by have:=k.size;simp at this;omega);have D:=Hq k;clear k)
   |with_reducible refine sN (Cn a prev b 3 0 0 0 0 0 ⟨#[]⟩ ⟨#[]⟩ 0 0 ⟨#[]⟩ 0 0 (.slice none 0 0) (.slice none 0 0)) ?_)
  go_ret;exact⟨by rw[HF.out];rfl,Ag (Ag (Ac _ _) l.out) (Ag (Aj (Ac _ _)) D.out)⟩
 |true=>
  rw[M]at r;have HN:=Hq (of_decide_eq_true M);clear M;go_enter Tryz.func206,Tryz.ntmps206
  go_upto_region 5 with(first
   |(go_at_call 245;(with_reducible refine(y.out _).mono ?_);rintro e C ⟨rfl,j⟩;have t:=Aa (Bv j);have a8:w.heap.size<C.heap.size:=(by have:=j.size;simp at this;omega);have l:=Hq j;clear j)
   |(go_at_call 246;(with_reducible refine(r.out _ _ ?_).mono ?_);(with_reducible exact Fb _ _ _);rintro e x ⟨rfl,k⟩;have O:=Aa (Af (Bv l.out) (Ag (Aj (Ac _ _)) k));have aa:C.heap.size+1<x.heap.size:=(by have:=k.size;simp at this;omega);have D:=Hq k;clear k)
   |with_reducible refine sN (Cn a prev b 3 0 0 0 0 0 ⟨#[]⟩ ⟨#[]⟩ 0 0 ⟨#[]⟩ 0 0 (.slice none 0 0) (.slice none 0 0)) ?_)
  have H:=Hq (I5 (R:=(Cn a prev b 3 Ad next m ok os i on f root o n es (.slice A p.length c) (.slice B q.length d))) (F:=#[true,false,true,false,true]) (X:=(Cn a prev b 3 0 0 0 0 0 ⟨#[]⟩ ⟨#[]⟩ 0 0 ⟨#[]⟩ 0 0 (.slice none 0 0) (.slice none 0 0))) l.out D.out);clear t O r y l D;obtain⟨V,hV⟩:=ex (x.alloc (.cells (Cn a prev b 3 0 0 0 0 0 ⟨#[]⟩ ⟨#[]⟩ 0 0 ⟨#[]⟩ 0 0 (.slice none 0 0) (.slice none 0 0)) 49));rw[← hV]at H ⊢;clear hV;have t:=Aa H.out.br;have G:=Aa H.out.bf
  go_upto_region 6 with(fail)
  go_cut [4] (fun s P=>s= .bool (decide (Rc.pg Ad)&&decide (Rc.Ix ⟨ok,os,i,on⟩))∧E8 w w.heap.size C.heap.size x.heap.size (Cn a prev b 3 Ad next m ok os i on f root o n es (.slice A p.length c) (.slice B q.length d)) #[true,false,true,false,true] (Cn a prev b 3 0 0 0 0 0 ⟨#[]⟩ ⟨#[]⟩ 0 0 ⟨#[]⟩ 0 0 (.slice none 0 0) (.slice none 0 0)) P)
  case first=>
   cases hp:decide (Rc.pg Ad)with
   |false=>
    have S:=Hq hp;clear hp
    go_wp2_with(first|(go_at_call 247;(with_reducible refine(Oc Ad _ _ ?_).mono ?_);(with_reducible exact heap_alloc_new _ _);rintro e w3 ⟨rfl,E⟩;rw[S.out]))
    go_meet
    case rel=>exact⟨by simp[S.out],H.out.step (Ag (Ac _ _) E)⟩
   |true=>
    have S:=Hq hp;clear hp;generalize T:decide (Rc.Ix ⟨ok,os,i,on⟩)=qo;have HO:=Hq T;clear T
    go_wp2_with(first|(go_at_call 247;(with_reducible refine(Oc Ad _ _ ?_).mono ?_);(with_reducible exact heap_alloc_new _ _);rintro e w3 ⟨rfl,E⟩;rw[S.out];have ai:=Aa (H.out.step (Ag (Ac _ _) E)).br)|(go_at_call 248;(with_reducible refine(cI ⟨ok,os,i,on⟩ _).mono ?_);rintro e w4 ⟨rfl,ad⟩;rw[HO.out]))
    go_meet
    case rel=>exact⟨by simp[S.out,HO.out],(H.out.step (Ag (Ac _ _) E)).step ad⟩
  case rest=>
  obtain⟨W1,rfl⟩:=ex wc;obtain⟨rfl,U⟩:=hcut;have H1:=Hq U;clear t G U H;have t:=Aa H1.out.br;have G:=Aa H1.out.bf;have I:=Aa H1.out.bx;have J:=Ap H1.out.bx;have ae:w.heap.size≠x.heap.size:=by have:=H1.out.ab;omega
  go_upto_region 7 with(fail)
  go_cut [] (fun P=>E8 w w.heap.size C.heap.size x.heap.size (Cn a prev b 3 Ad next m ok os i on f root o n es (.slice A p.length c) (.slice B q.length d)) #[true,false,true,false,true] (Cn a prev b 3 Ad 0 0 ok os i on 0 0 ⟨#[]⟩ 0 0 (.slice none 0 0) (.slice none 0 0)) P)
  case first=>
   go_region
   all_goals
    go_wp2_with fail;go_meet
    case rel=>
     first
      |(have h:=(((((H1.out.set 4 (.int .i64 Ad)).set 7 (.int .i64 ok)).set 8 (.int .i64 os)).set 9 (.string i)).set 10 (.string on)).drew;simpa using h)
      |(have h:=(((((H1.out.set 7 (.int .i64 ok)).set 8 (.int .i64 os)).set 9 (.string i)).set 10 (.string on)).set 4 (.int .i64 Ad)).drew;simpa using h)
  case rest=>
  obtain⟨W2,rfl⟩:=ex wc;have Y:=Hq hcut;clear t G I J hcut H1;have t:=Aa Y.out.br;have G:=Aa Y.out.bf
  go_upto_region 12 with(fail)
  go_cut [4] (fun s P=>s= .bool ((decide (Rc.pg Ad)&&decide (Rc.Ix ⟨ok,os,i,on⟩))&&decide (Rc.num next))∧E8 w w.heap.size C.heap.size x.heap.size (Cn a prev b 3 Ad next m ok os i on f root o n es (.slice A p.length c) (.slice B q.length d)) #[true,false,true,false,true] (Cn a prev b 3 Ad 0 0 ok os i on 0 0 ⟨#[]⟩ 0 0 (.slice none 0 0) (.slice none 0 0)) P)
  case first=>
   generalize u:(decide (Rc.pg Ad)&&decide (Rc.Ix ⟨ok,os,i,on⟩))=qa;have Z:=Hq u;clear u
   cases qa with
   |false=>
    go_wp2_with fail;go_meet
    case rel=>exact⟨by simp[Z.out],Y.out⟩
   |true=>
    generalize a1:decide (Rc.num next)=qt;have HT:=Hq a1;clear a1
    go_wp2_with(first|(go_at_call 246;(with_reducible refine(Ld next _ _ ?_).mono ?_);(with_reducible exact heap_alloc_new _ _);rintro e w5 ⟨rfl,af⟩;rw[HT.out]))
    go_meet
    case rel=>exact⟨by simp[Z.out,HT.out],Y.out.step (Ag (Ac _ _) af)⟩
  case rest=>
  obtain⟨W3,rfl⟩:=ex wc;obtain⟨rfl,a6⟩:=hcut;have K:=Hq a6;clear t G a6 Y;have t:=Aa K.out.br;have G:=Aa K.out.bf;have I:=Aa K.out.bx;have J:=Ap K.out.bx;have ae:w.heap.size≠x.heap.size:=by have:=K.out.ab;omega
  go_upto_region 14 with(fail)
  have h:=K.out.set 5 (.int .i64 next);have v:Hid (E8 w w.heap.size C.heap.size x.heap.size (Cn a prev b 3 Ad next m ok os i on f root o n es (.slice A p.length c) (.slice B q.length d)) #[true,false,true,false,true] (Cn a prev b 3 Ad next 0 ok os i on 0 0 ⟨#[]⟩ 0 0 (.slice none 0 0) (.slice none 0 0)) _):=Hq (by simpa using h);clear h t G I J K;generalize World.setCell _ _ _=W4 at v ⊢;have t:=Aa v.out.br;have G:=Aa v.out.bf
  go_upto_region 19 with(fail)
  generalize u:((decide (Rc.pg Ad)&&decide (Rc.Ix ⟨ok,os,i,on⟩))&&decide (Rc.num next))=qa;have Z:=Hq u;clear u
  cases qa with
  |false=>
   go_wp2_with fail;go_ret;refine⟨?_,v.out.below⟩;have HF:=HQ.out.trans (Rc.C4 fun h=>by
    have h2:=(N.out.1 h).2.1;have h3:=Z.out;simp only[Bool.and_eq_false_iff,decide_eq_false_iff_not]at h3
    grind)
   rw[HF]
   rfl
  |true=>
   have HS:=Hq (Ko ⟨a,prev,b,3,Ad,next,0,⟨ok,os,i,on⟩,0,0,⟨⟨#[]⟩,0,0⟩,[],[]⟩ ⟨a,prev,b,3,Ad,next,m,⟨ok,os,i,on⟩,f,root,⟨o,n,es⟩,p,q⟩ none A none B 0 c 0 d W4 ⟨(Reads.none_ _ _ _ _),(Reads.none_ _ _ _ _),⟨by simp,by simp⟩⟩ (a7.out.below v.out.below));dsimp only[D9,D3,List.length_nil]at HS
   cases he:decide ((⟨a,prev,b,3,Ad,next,0,⟨ok,os,i,on⟩,0,0,⟨⟨#[]⟩,0,0⟩,[],[]⟩:Rc.Rec)=⟨a,prev,b,3,Ad,next,m,⟨ok,os,i,on⟩,f,root,⟨o,n,es⟩,p,q⟩)with
   |false=>
    have HE:=Hq he;clear he
    go_wp2_with(first|with_reducible refine lL v.out.bx C5 ?_|with_reducible refine lL v.out.br C5 ?_|(go_at_call 254;(with_reducible refine HS.out.mono ?_);rintro e w9 ⟨rfl,L⟩;rw[HE.out]))
    go_ret;refine⟨?_,Ag v.out.below L⟩;rw[HQ.out.trans (Rc.C4 fun h=>of_decide_eq_false HE.out (N.out.1 h).2.2)]
    rfl
   |true=>
    have HE:=Hq he;clear he
    go_wp2_with(first|with_reducible refine lL v.out.bx C5 ?_|with_reducible refine lL v.out.br C5 ?_|(go_at_call 254;(with_reducible refine HS.out.mono ?_);rintro e w9 ⟨rfl,L⟩;rw[HE.out]))
    go_ret;refine⟨?_,Ag v.out.below L⟩;rw[HQ.out.trans (Rc.Fx (N.out.2 ⟨HN.out,by have h3:=Z.out;simpa only[Bool.and_eq_true,decide_eq_true_eq]using h3,of_decide_eq_true HE.out⟩))]
    rfl
theorem cK (a prev b Ad next n ok os f root o es:Int)(p on q:ByteArray)(r:List Rc.Be)(t:List Rc.Bx)(A B:Option Addr)(c d:Nat)(w:World)(S:Ig w ⟨a,prev,b,4,Ad,next,n,⟨ok,os,p,on⟩,f,root,⟨q,o,es⟩,r,t⟩ A c B d):
 Cr 206 #[.agg (Cn a prev b 4 Ad next n ok os p on f root q o es (.slice A r.length c) (.slice B t.length d))] w (.bool (Rc.D0 ⟨a,prev,b,4,Ad,next,n,⟨ok,os,p,on⟩,f,root,⟨q,o,es⟩,r,t⟩)):=by
 have u:=Hq (fun W=>Hj 4 W);rw[show Y6 4= .tuple #[Gt false false true false true,true]from rfl]at u;have l:=Hq (fun W g h=>Le a prev b W g h);obtain⟨Q,T⟩:=ex (Rc.D0 ⟨a,prev,b,4,Ad,next,n,⟨ok,os,p,on⟩,f,root,⟨q,o,es⟩,r,t⟩);rw[← T];have N:=Hq T;have v:=S.small;simp only at v;have aa:=v.1;have ad:=v.2;have U:=Hq S;clear T S v;have G:=Hq (Rc.sD a prev b Ad next n f root ⟨ok,os,p,on⟩ ⟨q,o,es⟩ r t)
 cases E:decide (Rc.num a∧Rc.num prev∧Rc.num b)with
 |false=>
  rw[E]at l;have Y:=Hq (N.out.trans (Rc.C4 fun h=>of_decide_eq_false E (G.out.1 h).1));clear E G;go_enter Tryz.func206,Tryz.ntmps206
  go_wp2_with(first
   |(go_at_call 245;(with_reducible refine(u.out _).mono ?_);rintro e y ⟨rfl,i⟩;have z:=Aa (Bv i);have Z:w.heap.size<y.heap.size:=(by have:=i.size;simp at this;omega);have k:=Hq i;clear i)
   |(go_at_call 246;(with_reducible refine(l.out _ _ ?_).mono ?_);(with_reducible exact Fb _ _ _);rintro e C ⟨rfl,j⟩;have H:=Aa (Af (Bv k.out) (Ag (Aj (Ac _ _)) j));have a1:y.heap.size+1<C.heap.size:=(by have:=j.size;simp at this;omega);have x:=Hq j;clear j)
   |with_reducible refine sN (Cn a prev b 4 0 0 0 0 0 ⟨#[]⟩ ⟨#[]⟩ 0 0 ⟨#[]⟩ 0 0 (.slice none 0 0) (.slice none 0 0)) ?_)
  go_ret;exact⟨by rw[Y.out];rfl,Ag (Ag (Ac _ _) k.out) (Ag (Aj (Ac _ _)) x.out)⟩
 |true=>
  rw[E]at l;have HN:=Hq (of_decide_eq_true E);clear E;go_enter Tryz.func206,Tryz.ntmps206
  go_upto_region 5 with(first
   |(go_at_call 245;(with_reducible refine(u.out _).mono ?_);rintro e y ⟨rfl,i⟩;have z:=Aa (Bv i);have Z:w.heap.size<y.heap.size:=(by have:=i.size;simp at this;omega);have k:=Hq i;clear i)
   |(go_at_call 246;(with_reducible refine(l.out _ _ ?_).mono ?_);(with_reducible exact Fb _ _ _);rintro e C ⟨rfl,j⟩;have H:=Aa (Af (Bv k.out) (Ag (Aj (Ac _ _)) j));have a1:y.heap.size+1<C.heap.size:=(by have:=j.size;simp at this;omega);have x:=Hq j;clear j)
   |with_reducible refine sN (Cn a prev b 4 0 0 0 0 0 ⟨#[]⟩ ⟨#[]⟩ 0 0 ⟨#[]⟩ 0 0 (.slice none 0 0) (.slice none 0 0)) ?_)
  have I:=Hq (I5 (R:=(Cn a prev b 4 Ad next n ok os p on f root q o es (.slice A r.length c) (.slice B t.length d))) (F:=#[false,false,true,false,true]) (X:=(Cn a prev b 4 0 0 0 0 0 ⟨#[]⟩ ⟨#[]⟩ 0 0 ⟨#[]⟩ 0 0 (.slice none 0 0) (.slice none 0 0))) k.out x.out);clear z H l u k x;obtain⟨V,hV⟩:=ex (C.alloc (.cells (Cn a prev b 4 0 0 0 0 0 ⟨#[]⟩ ⟨#[]⟩ 0 0 ⟨#[]⟩ 0 0 (.slice none 0 0) (.slice none 0 0)) 49));rw[← hV]at I ⊢;clear hV;have z:=Aa I.out.br;have O:=Aa I.out.bf
  go_upto_region 12 with(fail)
  go_cut [4] (fun s we=>s= .bool (decide (Rc.num next))∧E8 w w.heap.size y.heap.size C.heap.size (Cn a prev b 4 Ad next n ok os p on f root q o es (.slice A r.length c) (.slice B t.length d)) #[false,false,true,false,true] (Cn a prev b 4 0 0 0 0 0 ⟨#[]⟩ ⟨#[]⟩ 0 0 ⟨#[]⟩ 0 0 (.slice none 0 0) (.slice none 0 0)) we)
  case first=>
   generalize J:decide (Rc.num next)=qt;have HT:=Hq J;clear J
   go_wp2_with(first|(go_at_call 246;(with_reducible refine(Ld next _ _ ?_).mono ?_);(with_reducible exact heap_alloc_new _ _);rintro e w5 ⟨rfl,a6⟩;rw[HT.out]))
   go_meet
   case rel=>exact⟨by simp[HT.out],I.out.step (Ag (Ac _ _) a6)⟩
  case rest=>
  obtain⟨W1,rfl⟩:=ex wc;obtain⟨rfl,K⟩:=hcut;have H1:=Hq K;clear z O K I;have z:=Aa H1.out.br;have O:=Aa H1.out.bf;have a7:=Aa H1.out.bx;have a8:=Ap H1.out.bx;have ae:w.heap.size≠C.heap.size:=by have:=H1.out.ab;omega
  go_upto_region 14 with(fail)
  have h:=H1.out.set 5 (.int .i64 next);have m:Hid (E8 w w.heap.size y.heap.size C.heap.size (Cn a prev b 4 Ad next n ok os p on f root q o es (.slice A r.length c) (.slice B t.length d)) #[false,false,true,false,true] (Cn a prev b 4 0 next 0 0 0 ⟨#[]⟩ ⟨#[]⟩ 0 0 ⟨#[]⟩ 0 0 (.slice none 0 0) (.slice none 0 0)) _):=Hq (by simpa using h);clear h z O a7 a8 H1;generalize World.setCell _ _ _=W2 at m ⊢;have z:=Aa m.out.br;have O:=Aa m.out.bf
  go_upto_region 19 with(fail)
  generalize L:(decide (Rc.num next))=qa;have HA:=Hq L;clear L
  cases qa with
  |false=>
   go_wp2_with fail;go_ret;refine⟨?_,m.out.below⟩;have Y:=N.out.trans (Rc.C4 fun h=>by
    have h2:=(G.out.1 h).2.1;have h3:=HA.out;simp only[decide_eq_false_iff_not]at h3
    grind)
   rw[Y]
   rfl
  |true=>
   have HS:=Hq (Ko ⟨a,prev,b,4,0,next,0,⟨0,0,⟨#[]⟩,⟨#[]⟩⟩,0,0,⟨⟨#[]⟩,0,0⟩,[],[]⟩ ⟨a,prev,b,4,Ad,next,n,⟨ok,os,p,on⟩,f,root,⟨q,o,es⟩,r,t⟩ none A none B 0 c 0 d W2 ⟨(Reads.none_ _ _ _ _),(Reads.none_ _ _ _ _),⟨by simp,by simp⟩⟩ (U.out.below m.out.below));dsimp only[D9,D3,List.length_nil]at HS
   cases P:decide ((⟨a,prev,b,4,0,next,0,⟨0,0,⟨#[]⟩,⟨#[]⟩⟩,0,0,⟨⟨#[]⟩,0,0⟩,[],[]⟩:Rc.Rec)=⟨a,prev,b,4,Ad,next,n,⟨ok,os,p,on⟩,f,root,⟨q,o,es⟩,r,t⟩)with
   |false=>
    have M:=Hq P;clear P
    go_wp2_with(first|with_reducible refine lL m.out.bx C5 ?_|with_reducible refine lL m.out.br C5 ?_|(go_at_call 254;(with_reducible refine HS.out.mono ?_);rintro e w9 ⟨rfl,D⟩;rw[M.out]))
    go_ret;refine⟨?_,Ag m.out.below D⟩;rw[N.out.trans (Rc.C4 fun h=>of_decide_eq_false M.out (G.out.1 h).2.2)]
    rfl
   |true=>
    have M:=Hq P;clear P
    go_wp2_with(first|with_reducible refine lL m.out.bx C5 ?_|with_reducible refine lL m.out.br C5 ?_|(go_at_call 254;(with_reducible refine HS.out.mono ?_);rintro e w9 ⟨rfl,D⟩;rw[M.out]))
    go_ret;refine⟨?_,Ag m.out.below D⟩;rw[N.out.trans (Rc.Fx (G.out.2 ⟨HN.out,by have h3:=HA.out;simpa only[Bool.and_eq_true,decide_eq_true_eq]using h3,of_decide_eq_true M.out⟩))]
    rfl
theorem Zi (a prev b Ad next n ok os f root o es:Int)(i on p:ByteArray)(q:List Rc.Be)(r:List Rc.Bx)(A B:Option Addr)(c d:Nat)(w:World)(Y:Ig w ⟨a,prev,b,8,Ad,next,n,⟨ok,os,i,on⟩,f,root,⟨p,o,es⟩,q,r⟩ A c B d):
 Cr 206 #[.agg (Cn a prev b 8 Ad next n ok os i on f root p o es (.slice A q.length c) (.slice B r.length d))] w (.bool (Rc.D0 ⟨a,prev,b,8,Ad,next,n,⟨ok,os,i,on⟩,f,root,⟨p,o,es⟩,q,r⟩)):=by
 have u:=Hq (fun W=>Hj 8 W);rw[show Y6 8= .tuple #[Gt true false false false true,true]from rfl]at u;have m:=Hq (fun W g h=>Le a prev b W g h);obtain⟨Q,Z⟩:=ex (Rc.D0 ⟨a,prev,b,8,Ad,next,n,⟨ok,os,i,on⟩,f,root,⟨p,o,es⟩,q,r⟩);rw[← Z];have P:=Hq Z;have v:=Y.small;simp only at v;have ae:=v.1;have af:=v.2;have a1:=Hq Y;clear Z Y v;have I:=Hq (Rc.sE a prev b Ad next n f root ⟨ok,os,i,on⟩ ⟨p,o,es⟩ q r)
 cases H:decide (Rc.num a∧Rc.num prev∧Rc.num b)with
 |false=>
  rw[H]at m;have HF:=Hq (P.out.trans (Rc.C4 fun h=>of_decide_eq_false H (I.out.1 h).1));clear H I;go_enter Tryz.func206,Tryz.ntmps206
  go_wp2_with(first
   |(go_at_call 245;(with_reducible refine(u.out _).mono ?_);rintro e z ⟨rfl,j⟩;have C:=Aa (Bv j);have a6:w.heap.size<z.heap.size:=(by have:=j.size;simp at this;omega);have l:=Hq j;clear j)
   |(go_at_call 246;(with_reducible refine(m.out _ _ ?_).mono ?_);(with_reducible exact Fb _ _ _);rintro e D ⟨rfl,k⟩;have J:=Aa (Af (Bv l.out) (Ag (Aj (Ac _ _)) k));have a7:z.heap.size+1<D.heap.size:=(by have:=k.size;simp at this;omega);have x:=Hq k;clear k)
   |with_reducible refine sN (Cn a prev b 8 0 0 0 0 0 ⟨#[]⟩ ⟨#[]⟩ 0 0 ⟨#[]⟩ 0 0 (.slice none 0 0) (.slice none 0 0)) ?_)
  go_ret;exact⟨by rw[HF.out];rfl,Ag (Ag (Ac _ _) l.out) (Ag (Aj (Ac _ _)) x.out)⟩
 |true=>
  rw[H]at m;have HN:=Hq (of_decide_eq_true H);clear H;go_enter Tryz.func206,Tryz.ntmps206
  go_upto_region 5 with(first
   |(go_at_call 245;(with_reducible refine(u.out _).mono ?_);rintro e z ⟨rfl,j⟩;have C:=Aa (Bv j);have a6:w.heap.size<z.heap.size:=(by have:=j.size;simp at this;omega);have l:=Hq j;clear j)
   |(go_at_call 246;(with_reducible refine(m.out _ _ ?_).mono ?_);(with_reducible exact Fb _ _ _);rintro e D ⟨rfl,k⟩;have J:=Aa (Af (Bv l.out) (Ag (Aj (Ac _ _)) k));have a7:z.heap.size+1<D.heap.size:=(by have:=k.size;simp at this;omega);have x:=Hq k;clear k)
   |with_reducible refine sN (Cn a prev b 8 0 0 0 0 0 ⟨#[]⟩ ⟨#[]⟩ 0 0 ⟨#[]⟩ 0 0 (.slice none 0 0) (.slice none 0 0)) ?_)
  have E:=Hq (I5 (R:=(Cn a prev b 8 Ad next n ok os i on f root p o es (.slice A q.length c) (.slice B r.length d))) (F:=#[true,false,false,false,true]) (X:=(Cn a prev b 8 0 0 0 0 0 ⟨#[]⟩ ⟨#[]⟩ 0 0 ⟨#[]⟩ 0 0 (.slice none 0 0) (.slice none 0 0))) l.out x.out);clear C J m u l x;obtain⟨V,hV⟩:=ex (D.alloc (.cells (Cn a prev b 8 0 0 0 0 0 ⟨#[]⟩ ⟨#[]⟩ 0 0 ⟨#[]⟩ 0 0 (.slice none 0 0) (.slice none 0 0)) 49));rw[← hV]at E ⊢;clear hV;have C:=Aa E.out.br;have S:=Aa E.out.bf
  go_upto_region 6 with(fail)
  go_cut [4] (fun s we=>s= .bool (decide (Rc.pg Ad)&&decide (Rc.Ix ⟨ok,os,i,on⟩))∧E8 w w.heap.size z.heap.size D.heap.size (Cn a prev b 8 Ad next n ok os i on f root p o es (.slice A q.length c) (.slice B r.length d)) #[true,false,false,false,true] (Cn a prev b 8 0 0 0 0 0 ⟨#[]⟩ ⟨#[]⟩ 0 0 ⟨#[]⟩ 0 0 (.slice none 0 0) (.slice none 0 0)) we)
  case first=>
   cases T:decide (Rc.pg Ad)with
   |false=>
    have K:=Hq T;clear T
    go_wp2_with(first|(go_at_call 247;(with_reducible refine(Oc Ad _ _ ?_).mono ?_);(with_reducible exact heap_alloc_new _ _);rintro e w3 ⟨rfl,y⟩;rw[K.out]))
    go_meet
    case rel=>exact⟨by simp[K.out],E.out.step (Ag (Ac _ _) y)⟩
   |true=>
    have K:=Hq T;clear T;generalize L:decide (Rc.Ix ⟨ok,os,i,on⟩)=qo;have HO:=Hq L;clear L
    go_wp2_with(first|(go_at_call 247;(with_reducible refine(Oc Ad _ _ ?_).mono ?_);(with_reducible exact heap_alloc_new _ _);rintro e w3 ⟨rfl,y⟩;rw[K.out];have ag:=Aa (E.out.step (Ag (Ac _ _) y)).br)|(go_at_call 248;(with_reducible refine(cI ⟨ok,os,i,on⟩ _).mono ?_);rintro e w4 ⟨rfl,a8⟩;rw[HO.out]))
    go_meet
    case rel=>exact⟨by simp[K.out,HO.out],(E.out.step (Ag (Ac _ _) y)).step a8⟩
  case rest=>
  obtain⟨W1,rfl⟩:=ex wc;obtain⟨rfl,M⟩:=hcut;have H1:=Hq M;clear C S M E;have C:=Aa H1.out.br;have S:=Aa H1.out.bf;have aa:=Aa H1.out.bx;have ad:=Ap H1.out.bx;have ah:w.heap.size≠D.heap.size:=by have:=H1.out.ab;omega
  go_upto_region 7 with(fail)
  go_cut [] (fun we=>E8 w w.heap.size z.heap.size D.heap.size (Cn a prev b 8 Ad next n ok os i on f root p o es (.slice A q.length c) (.slice B r.length d)) #[true,false,false,false,true] (Cn a prev b 8 Ad 0 0 ok os i on 0 0 ⟨#[]⟩ 0 0 (.slice none 0 0) (.slice none 0 0)) we)
  case first=>
   go_region
   all_goals
    go_wp2_with fail;go_meet
    case rel=>
     first
      |(have h:=(((((H1.out.set 4 (.int .i64 Ad)).set 7 (.int .i64 ok)).set 8 (.int .i64 os)).set 9 (.string i)).set 10 (.string on)).drew;simpa using h)
      |(have h:=(((((H1.out.set 7 (.int .i64 ok)).set 8 (.int .i64 os)).set 9 (.string i)).set 10 (.string on)).set 4 (.int .i64 Ad)).drew;simpa using h)
  case rest=>
  obtain⟨W2,rfl⟩:=ex wc;have t:=Hq hcut;clear C S aa ad hcut H1;have C:=Aa t.out.br;have S:=Aa t.out.bf
  go_upto_region 19 with(fail)
  generalize N:(decide (Rc.pg Ad)&&decide (Rc.Ix ⟨ok,os,i,on⟩))=qa;have HA:=Hq N;clear N
  cases qa with
  |false=>
   go_wp2_with fail;go_ret;refine⟨?_,t.out.below⟩;have HF:=P.out.trans (Rc.C4 fun h=>by
    have h2:=(I.out.1 h).2.1;have h3:=HA.out;simp only[Bool.and_eq_false_iff,decide_eq_false_iff_not]at h3
    grind)
   rw[HF]
   rfl
  |true=>
   have HS:=Hq (Ko ⟨a,prev,b,8,Ad,0,0,⟨ok,os,i,on⟩,0,0,⟨⟨#[]⟩,0,0⟩,[],[]⟩ ⟨a,prev,b,8,Ad,next,n,⟨ok,os,i,on⟩,f,root,⟨p,o,es⟩,q,r⟩ none A none B 0 c 0 d W2 ⟨(Reads.none_ _ _ _ _),(Reads.none_ _ _ _ _),⟨by simp,by simp⟩⟩ (a1.out.below t.out.below));dsimp only[D9,D3,List.length_nil]at HS
   cases U:decide ((⟨a,prev,b,8,Ad,0,0,⟨ok,os,i,on⟩,0,0,⟨⟨#[]⟩,0,0⟩,[],[]⟩:Rc.Rec)=⟨a,prev,b,8,Ad,next,n,⟨ok,os,i,on⟩,f,root,⟨p,o,es⟩,q,r⟩)with
   |false=>
    have O:=Hq U;clear U
    go_wp2_with(first|with_reducible refine lL t.out.bx C5 ?_|with_reducible refine lL t.out.br C5 ?_|(go_at_call 254;(with_reducible refine HS.out.mono ?_);rintro e w9 ⟨rfl,G⟩;rw[O.out]))
    go_ret;refine⟨?_,Ag t.out.below G⟩;rw[P.out.trans (Rc.C4 fun h=>of_decide_eq_false O.out (I.out.1 h).2.2)]
    rfl
   |true=>
    have O:=Hq U;clear U
    go_wp2_with(first|with_reducible refine lL t.out.bx C5 ?_|with_reducible refine lL t.out.br C5 ?_|(go_at_call 254;(with_reducible refine HS.out.mono ?_);rintro e w9 ⟨rfl,G⟩;rw[O.out]))
    go_ret;refine⟨?_,Ag t.out.below G⟩;rw[P.out.trans (Rc.Fx (I.out.2 ⟨HN.out,by have h3:=HA.out;simpa only[Bool.and_eq_true,decide_eq_true_eq]using h3,of_decide_eq_true O.out⟩))]
    rfl
theorem Zj (a prev b Ad next j ok os l root u es:Int)(v on x:ByteArray)(f:List Rc.Be)(i:List Rc.Bx)(A B:Option Addr)(c d:Nat)(w:World)(hr:Ig w ⟨a,prev,b,9,Ad,next,j,⟨ok,os,v,on⟩,l,root,⟨x,u,es⟩,f,i⟩ A c B d):
 Cr 206 #[.agg (Cn a prev b 9 Ad next j ok os v on l root x u es (.slice A f.length c) (.slice B i.length d))] w (.bool (Rc.D0 ⟨a,prev,b,9,Ad,next,j,⟨ok,os,v,on⟩,l,root,⟨x,u,es⟩,f,i⟩)):=by
 have I:=Hq (fun W=>Hj 9 W);rw[show Y6 9= .tuple #[Gt false false false true true,true]from rfl]at I;have D:=Hq (fun W g h=>Le a prev b W g h);obtain⟨Q,hQ⟩:=ex (Rc.D0 ⟨a,prev,b,9,Ad,next,j,⟨ok,os,v,on⟩,l,root,⟨x,u,es⟩,f,i⟩);rw[← hQ];have HQ:=Hq hQ;have J:=hr.small;simp only at J;have a1:=J.1;have a6:=J.2;have E:=Hq hr;clear hQ hr J;have RI:=Hq (Rc.sF a prev b Ad next j l root ⟨ok,os,v,on⟩ ⟨x,u,es⟩ f i)
 cases Y:decide (Rc.num a∧Rc.num prev∧Rc.num b)with
 |false=>
  rw[Y]at D;have HF:=Hq (HQ.out.trans (Rc.C4 fun h=>of_decide_eq_false Y (RI.out.1 h).1));clear Y RI;go_enter Tryz.func206,Tryz.ntmps206
  go_wp2_with(first
   |(go_at_call 245;(with_reducible refine(I.out _).mono ?_);rintro e K ⟨rfl,n⟩;have G:=Aa (Bv n);have ae:w.heap.size<K.heap.size:=(by have:=n.size;simp at this;omega);have q:=Hq n;clear n)
   |(go_at_call 246;(with_reducible refine(D.out _ _ ?_).mono ?_);(with_reducible exact Fb _ _ _);rintro e L ⟨rfl,o⟩;have a7:=Aa (Af (Bv q.out) (Ag (Aj (Ac _ _)) o));have af:K.heap.size+1<L.heap.size:=(by have:=o.size;simp at this;omega);have M:=Hq o;clear o)
   |with_reducible refine sN (Cn a prev b 9 0 0 0 0 0 ⟨#[]⟩ ⟨#[]⟩ 0 0 ⟨#[]⟩ 0 0 (.slice none 0 0) (.slice none 0 0)) ?_)
  go_ret;exact⟨by rw[HF.out];rfl,Ag (Ag (Ac _ _) q.out) (Ag (Aj (Ac _ _)) M.out)⟩
 |true=>
  rw[Y]at D;have HN:=Hq (of_decide_eq_true Y);clear Y;go_enter Tryz.func206,Tryz.ntmps206
  go_upto_region 5 with(first
   |(go_at_call 245;(with_reducible refine(I.out _).mono ?_);rintro e K ⟨rfl,n⟩;have G:=Aa (Bv n);have ae:w.heap.size<K.heap.size:=(by have:=n.size;simp at this;omega);have q:=Hq n;clear n)
   |(go_at_call 246;(with_reducible refine(D.out _ _ ?_).mono ?_);(with_reducible exact Fb _ _ _);rintro e L ⟨rfl,o⟩;have a7:=Aa (Af (Bv q.out) (Ag (Aj (Ac _ _)) o));have af:K.heap.size+1<L.heap.size:=(by have:=o.size;simp at this;omega);have M:=Hq o;clear o)
   |with_reducible refine sN (Cn a prev b 9 0 0 0 0 0 ⟨#[]⟩ ⟨#[]⟩ 0 0 ⟨#[]⟩ 0 0 (.slice none 0 0) (.slice none 0 0)) ?_)
  have y:=Hq (I5 (R:=(Cn a prev b 9 Ad next j ok os v on l root x u es (.slice A f.length c) (.slice B i.length d))) (F:=#[false,false,false,true,true]) (X:=(Cn a prev b 9 0 0 0 0 0 ⟨#[]⟩ ⟨#[]⟩ 0 0 ⟨#[]⟩ 0 0 (.slice none 0 0) (.slice none 0 0))) q.out M.out);clear G a7 D I q M;obtain⟨V,hV⟩:=ex (L.alloc (.cells (Cn a prev b 9 0 0 0 0 0 ⟨#[]⟩ ⟨#[]⟩ 0 0 ⟨#[]⟩ 0 0 (.slice none 0 0) (.slice none 0 0)) 49));rw[← hV]at y ⊢;clear hV;have G:=Aa y.out.br;have O:=Aa y.out.bf
  go_upto_region 15 with(fail)
  go_cut [4] (fun s P=>s= .bool (decide (Rc.num j)&&(decide (f.length≤1000)&&decide (i.length≤2000)))∧E8 w w.heap.size K.heap.size L.heap.size (Cn a prev b 9 Ad next j ok os v on l root x u es (.slice A f.length c) (.slice B i.length d)) #[false,false,false,true,true] (Cn a prev b 9 0 0 0 0 0 ⟨#[]⟩ ⟨#[]⟩ 0 0 ⟨#[]⟩ 0 0 (.slice none 0 0) (.slice none 0 0)) P)
  case first=>
   cases m:decide (Rc.num j)with
   |false=>
    have r:=Hq m;clear m
    go_wp2_with(first|(go_at_call 246;(with_reducible refine(Ld j _ _ ?_).mono ?_);(with_reducible exact heap_alloc_new _ _);rintro e w5 ⟨rfl,k⟩;rw[r.out];have S:=Aa (y.out.step (Ag (Ac _ _) k)).br))
    go_meet
    case rel=>exact⟨by simp[r.out],y.out.step (Ag (Ac _ _) k)⟩
   |true=>
    have r:=Hq m;clear m
    by_cases h1:f.length≤1000
    ·have e1:decide ((f.length:Int)≤1000)=true:=decide_eq_true (by omega)
     have N:=Hq (decide_eq_true h1);have ag:(f.length:Int)≤1000:=(by omega);clear h1
     by_cases h2:i.length≤2000
     ·have e2:decide ((i.length:Int)≤2000)=true:=decide_eq_true (by omega)
      have T:=Hq (decide_eq_true h2);have ah:(i.length:Int)≤2000:=(by omega);clear h2
      go_wp2_with(first|(go_at_call 246;(with_reducible refine(Ld j _ _ ?_).mono ?_);(with_reducible exact heap_alloc_new _ _);rintro e w5 ⟨rfl,k⟩;rw[r.out];have S:=Aa (y.out.step (Ag (Ac _ _) k)).br))
      go_meet
      case rel=>exact⟨by simp[r.out,N.out,T.out],y.out.step (Ag (Ac _ _) k)⟩
     ·have e2:decide ((i.length:Int)≤2000)=false:=decide_eq_false (by omega)
      have T:=Hq (decide_eq_false h2);have ah:2000<(i.length:Int):=(by omega);clear h2
      go_wp2_with(first|(go_at_call 246;(with_reducible refine(Ld j _ _ ?_).mono ?_);(with_reducible exact heap_alloc_new _ _);rintro e w5 ⟨rfl,k⟩;rw[r.out];have S:=Aa (y.out.step (Ag (Ac _ _) k)).br))
      go_meet
      case rel=>exact⟨by simp[r.out,N.out,T.out],y.out.step (Ag (Ac _ _) k)⟩
    ·have e1:decide ((f.length:Int)≤1000)=false:=decide_eq_false (by omega)
     have N:=Hq (decide_eq_false h1);have ag:1000<(f.length:Int):=(by omega);clear h1
     go_wp2_with(first|(go_at_call 246;(with_reducible refine(Ld j _ _ ?_).mono ?_);(with_reducible exact heap_alloc_new _ _);rintro e w5 ⟨rfl,k⟩;rw[r.out];have S:=Aa (y.out.step (Ag (Ac _ _) k)).br))
     go_meet
     case rel=>exact⟨by simp[r.out,N.out],y.out.step (Ag (Ac _ _) k)⟩
  case rest=>
  obtain⟨W1,rfl⟩:=ex wc;obtain⟨rfl,a8⟩:=hcut;have H1:=Hq a8;clear G O a8 y;have G:=Aa H1.out.br;have O:=Aa H1.out.bf
  go_upto_region 16 with(fail)
  go_cut [4] (fun s P=>s= .bool ((decide (Rc.num j)&&(decide (f.length≤1000)&&decide (i.length≤2000)))&&decide (∀ t∈f,Rc.Ji t))∧E8 w w.heap.size K.heap.size L.heap.size (Cn a prev b 9 Ad next j ok os v on l root x u es (.slice A f.length c) (.slice B i.length d)) #[false,false,false,true,true] (Cn a prev b 9 0 0 0 0 0 ⟨#[]⟩ ⟨#[]⟩ 0 0 ⟨#[]⟩ 0 0 (.slice none 0 0) (.slice none 0 0)) P)
  case first=>
   generalize p:(decide (Rc.num j)&&(decide (f.length≤1000)&&decide (i.length≤2000)))=qa;have H:=Hq p;clear p
   cases qa with
   |false=>
    go_wp2_with fail;go_meet
    case rel=>exact⟨by simp[H.out],H1.out⟩
   |true=>
    have hlen:f.length≤1048576:=(by have:=(of_decide_eq_true (Bool.and_eq_true_iff.1 (Bool.and_eq_true_iff.1 H.out).2).1);omega);have HC:=Hq (Wq f hlen A c W1 (E.out.txns.below H1.out.below));generalize m:decide (∀ t∈f,Rc.Ji t)=qt at HC;have r:=Hq m;clear m
    go_wp2_with(first|(go_at_call 250;(with_reducible refine HC.out.mono ?_);rintro e w5 ⟨rfl,k⟩))
    go_meet
    case rel=>exact⟨by simp[H.out,r.out],H1.out.step k⟩
  case rest=>
  obtain⟨W2,rfl⟩:=ex wc;obtain⟨rfl,aa⟩:=hcut;have Z:=Hq aa;clear G O aa H1;have G:=Aa Z.out.br;have O:=Aa Z.out.bf
  go_upto_region 17 with(fail)
  go_cut [4] (fun s P=>s= .bool (((decide (Rc.num j)&&(decide (f.length≤1000)&&decide (i.length≤2000)))&&decide (∀ t∈f,Rc.Ji t))&&decide (∀ d∈i,Rc.Fj d))∧E8 w w.heap.size K.heap.size L.heap.size (Cn a prev b 9 Ad next j ok os v on l root x u es (.slice A f.length c) (.slice B i.length d)) #[false,false,false,true,true] (Cn a prev b 9 0 0 0 0 0 ⟨#[]⟩ ⟨#[]⟩ 0 0 ⟨#[]⟩ 0 0 (.slice none 0 0) (.slice none 0 0)) P)
  case first=>
   generalize p:((decide (Rc.num j)&&(decide (f.length≤1000)&&decide (i.length≤2000)))&&decide (∀ t∈f,Rc.Ji t))=qa;have H:=Hq p;clear p
   cases qa with
   |false=>
    go_wp2_with fail;go_meet
    case rel=>exact⟨by simp[H.out],Z.out⟩
   |true=>
    have hlen:i.length≤1048576:=(by have:=(of_decide_eq_true (Bool.and_eq_true_iff.1 (Bool.and_eq_true_iff.1 (Bool.and_eq_true_iff.1 H.out).1).2).2);omega);have HC:=Hq (Se i hlen B d W2 (E.out.dirty.below Z.out.below));generalize m:decide (∀ d∈i,Rc.Fj d)=qt at HC;have r:=Hq m;clear m
    go_wp2_with(first|(go_at_call 252;(with_reducible refine HC.out.mono ?_);rintro e w5 ⟨rfl,k⟩))
    go_meet
    case rel=>exact⟨by simp[H.out,r.out],Z.out.step k⟩
  case rest=>
  obtain⟨W3,rfl⟩:=ex wc;obtain⟨rfl,ad⟩:=hcut;have z:=Hq ad;clear G O ad Z;have G:=Aa z.out.br;have O:=Aa z.out.bf;have ai:=Aa z.out.bx;have aj:=Ap z.out.bx;have ak:w.heap.size≠L.heap.size:=by have:=z.out.ab;omega
  go_upto_region 18 with(fail)
  go_cut [] (fun P=>E8 w w.heap.size K.heap.size L.heap.size (Cn a prev b 9 Ad next j ok os v on l root x u es (.slice A f.length c) (.slice B i.length d)) #[false,false,false,true,true] (Cn a prev b 9 0 0 j 0 0 ⟨#[]⟩ ⟨#[]⟩ 0 0 ⟨#[]⟩ 0 0 (.slice A f.length c) (.slice B i.length d)) P)
  case first=>
   go_region
   all_goals
    go_wp2_with fail;go_meet
    case rel=>
     first
      |(have h:=(((z.out.set 6 (.int .i64 j)).set 16 (.slice A f.length c)).set 17 (.slice B i.length d)).drew;simpa using h)
      |(have h:=(((z.out.set 6 (.int .i64 j)).set 17 (.slice B i.length d)).set 16 (.slice A f.length c)).drew;simpa using h)
      |(have h:=(((z.out.set 16 (.slice A f.length c)).set 6 (.int .i64 j)).set 17 (.slice B i.length d)).drew;simpa using h)
      |(have h:=(((z.out.set 16 (.slice A f.length c)).set 17 (.slice B i.length d)).set 6 (.int .i64 j)).drew;simpa using h)
      |(have h:=(((z.out.set 17 (.slice B i.length d)).set 6 (.int .i64 j)).set 16 (.slice A f.length c)).drew;simpa using h)
      |(have h:=(((z.out.set 17 (.slice B i.length d)).set 16 (.slice A f.length c)).set 6 (.int .i64 j)).drew;simpa using h)
  case rest=>
  obtain⟨W4,rfl⟩:=ex wc;have C:=Hq hcut;clear G O ai aj hcut z;have G:=Aa C.out.br;have O:=Aa C.out.bf
  go_upto_region 19 with(fail)
  generalize p:(((decide (Rc.num j)&&(decide (f.length≤1000)&&decide (i.length≤2000)))&&decide (∀ t∈f,Rc.Ji t))&&decide (∀ d∈i,Rc.Fj d))=qa;have H:=Hq p;clear p
  cases qa with
  |false=>
   go_wp2_with fail;go_ret;refine⟨?_,C.out.below⟩;have HF:=HQ.out.trans (Rc.C4 fun h=>by
    have h2:=(RI.out.1 h).2.1;have h3:=H.out;simp only[Bool.and_eq_false_iff,decide_eq_false_iff_not]at h3
    grind)
   rw[HF]
   rfl
  |true=>
   have HS:=Hq (Ko ⟨a,prev,b,9,0,0,j,⟨0,0,⟨#[]⟩,⟨#[]⟩⟩,0,0,⟨⟨#[]⟩,0,0⟩,f,i⟩ ⟨a,prev,b,9,Ad,next,j,⟨ok,os,v,on⟩,l,root,⟨x,u,es⟩,f,i⟩ A A B B c c d d W4 ⟨(E.out.txns.below C.out.below),(E.out.dirty.below C.out.below),⟨a1,a6⟩⟩ (E.out.below C.out.below));dsimp only[D9,D3,List.length_nil]at HS
   cases he:decide ((⟨a,prev,b,9,0,0,j,⟨0,0,⟨#[]⟩,⟨#[]⟩⟩,0,0,⟨⟨#[]⟩,0,0⟩,f,i⟩:Rc.Rec)=⟨a,prev,b,9,Ad,next,j,⟨ok,os,v,on⟩,l,root,⟨x,u,es⟩,f,i⟩)with
   |false=>
    have HE:=Hq he;clear he
    go_wp2_with(first|with_reducible refine lL C.out.bx C5 ?_|with_reducible refine lL C.out.br C5 ?_|(go_at_call 254;(with_reducible refine HS.out.mono ?_);rintro e w9 ⟨rfl,U⟩;rw[HE.out]))
    go_ret;refine⟨?_,Ag C.out.below U⟩;rw[HQ.out.trans (Rc.C4 fun h=>of_decide_eq_false HE.out (RI.out.1 h).2.2)]
    rfl
   |true=>
    have HE:=Hq he;clear he
    go_wp2_with(first|with_reducible refine lL C.out.bx C5 ?_|with_reducible refine lL C.out.br C5 ?_|(go_at_call 254;(with_reducible refine HS.out.mono ?_);rintro e w9 ⟨rfl,U⟩;rw[HE.out]))
    go_ret;refine⟨?_,Ag C.out.below U⟩;rw[HQ.out.trans (Rc.Fx (RI.out.2 ⟨HN.out,by have h3:=H.out;simpa only[Bool.and_eq_true,decide_eq_true_eq]using h3,of_decide_eq_true HE.out⟩))]
    rfl
theorem cL (kind:Int)(hk:kind=1∨kind=5∨kind=6∨kind=7)(a prev b Ad next q ok os j root r es:Int)(s on t:ByteArray)(u:List Rc.Be)(v:List Rc.Bx)(A B:Option Addr)(c d:Nat)(w:World)(I:Ig w ⟨a,prev,b,kind,Ad,next,q,⟨ok,os,s,on⟩,j,root,⟨t,r,es⟩,u,v⟩ A c B d):
 Cr 206 #[.agg (Cn a prev b kind Ad next q ok os s on j root t r es (.slice A u.length c) (.slice B v.length d))] w (.bool (Rc.D0 ⟨a,prev,b,kind,Ad,next,q,⟨ok,os,s,on⟩,j,root,⟨t,r,es⟩,u,v⟩)):=by
 have n:=Hq (fun W=>Hj kind W);rw[show Y6 kind= .tuple #[Gt false false false false true,true]from by rcases hk with rfl|rfl|rfl|rfl<;>rfl]at n;have l:=Hq (fun W g h=>Le a prev b W g h);obtain⟨Q,J⟩:=ex (Rc.D0 ⟨a,prev,b,kind,Ad,next,q,⟨ok,os,s,on⟩,j,root,⟨t,r,es⟩,u,v⟩);rw[← J];have K:=Hq J;have o:=I.small;simp only at o;have S:=o.1;have T:=o.2;have L:=Hq I;clear J I o;have E:=Hq (Rc.Zh kind hk a prev b Ad next q j root ⟨ok,os,s,on⟩ ⟨t,r,es⟩ u v)
 cases y:decide (Rc.num a∧Rc.num prev∧Rc.num b)with
 |false=>
  rw[y]at l;have Y:=Hq (K.out.trans (Rc.C4 fun h=>of_decide_eq_false y (E.out.1 h).1));clear y E;go_enter Tryz.func206,Tryz.ntmps206
  go_wp2_with(first
   |(go_at_call 245;(with_reducible refine(n.out _).mono ?_);rintro e z ⟨rfl,f⟩;have M:=Aa (Bv f);have N:w.heap.size<z.heap.size:=(by have:=f.size;simp at this;omega);have k:=Hq f;clear f)
   |(go_at_call 246;(with_reducible refine(l.out _ _ ?_).mono ?_);(with_reducible exact Fb _ _ _);rintro e G ⟨rfl,i⟩;have C:=Aa (Af (Bv k.out) (Ag (Aj (Ac _ _)) i));have O:z.heap.size+1<G.heap.size:=(by have:=i.size;simp at this;omega);have p:=Hq i;clear i)
   |with_reducible refine sN (Cn a prev b kind 0 0 0 0 0 ⟨#[]⟩ ⟨#[]⟩ 0 0 ⟨#[]⟩ 0 0 (.slice none 0 0) (.slice none 0 0)) ?_)
  go_ret;exact⟨by rw[Y.out];rfl,Ag (Ag (Ac _ _) k.out) (Ag (Aj (Ac _ _)) p.out)⟩
 |true=>
  rw[y]at l;have Z:=Hq (of_decide_eq_true y);clear y;go_enter Tryz.func206,Tryz.ntmps206
  go_upto_region 5 with(first
   |(go_at_call 245;(with_reducible refine(n.out _).mono ?_);rintro e z ⟨rfl,f⟩;have M:=Aa (Bv f);have N:w.heap.size<z.heap.size:=(by have:=f.size;simp at this;omega);have k:=Hq f;clear f)
   |(go_at_call 246;(with_reducible refine(l.out _ _ ?_).mono ?_);(with_reducible exact Fb _ _ _);rintro e G ⟨rfl,i⟩;have C:=Aa (Af (Bv k.out) (Ag (Aj (Ac _ _)) i));have O:z.heap.size+1<G.heap.size:=(by have:=i.size;simp at this;omega);have p:=Hq i;clear i)
   |with_reducible refine sN (Cn a prev b kind 0 0 0 0 0 ⟨#[]⟩ ⟨#[]⟩ 0 0 ⟨#[]⟩ 0 0 (.slice none 0 0) (.slice none 0 0)) ?_)
  have m:=Hq (I5 (R:=(Cn a prev b kind Ad next q ok os s on j root t r es (.slice A u.length c) (.slice B v.length d))) (F:=#[false,false,false,false,true]) (X:=(Cn a prev b kind 0 0 0 0 0 ⟨#[]⟩ ⟨#[]⟩ 0 0 ⟨#[]⟩ 0 0 (.slice none 0 0) (.slice none 0 0))) k.out p.out);clear M C l n k p;obtain⟨V,U⟩:=ex (G.alloc (.cells (Cn a prev b kind 0 0 0 0 0 ⟨#[]⟩ ⟨#[]⟩ 0 0 ⟨#[]⟩ 0 0 (.slice none 0 0) (.slice none 0 0)) 49));rw[← U]at m ⊢;clear U;have M:=Aa m.out.br;have hF:=Aa m.out.bf
  go_upto_region 19 with(fail)
  have P:=Hq (Ko ⟨a,prev,b,kind,0,0,0,⟨0,0,⟨#[]⟩,⟨#[]⟩⟩,0,0,⟨⟨#[]⟩,0,0⟩,[],[]⟩ ⟨a,prev,b,kind,Ad,next,q,⟨ok,os,s,on⟩,j,root,⟨t,r,es⟩,u,v⟩ none A none B 0 c 0 d V ⟨(Reads.none_ _ _ _ _),(Reads.none_ _ _ _ _),⟨by simp,by simp⟩⟩ (L.out.below m.out.below));dsimp only[D9,D3,List.length_nil]at P
  cases H:decide ((⟨a,prev,b,kind,0,0,0,⟨0,0,⟨#[]⟩,⟨#[]⟩⟩,0,0,⟨⟨#[]⟩,0,0⟩,[],[]⟩:Rc.Rec)=⟨a,prev,b,kind,Ad,next,q,⟨ok,os,s,on⟩,j,root,⟨t,r,es⟩,u,v⟩)with
  |false=>
   have D:=Hq H;clear H
   go_wp2_with(first|with_reducible refine lL m.out.bx C5 ?_|with_reducible refine lL m.out.br C5 ?_|(go_at_call 254;(with_reducible refine P.out.mono ?_);rintro e w9 ⟨rfl,x⟩;rw[D.out]))
   go_ret;refine⟨?_,Ag m.out.below x⟩;rw[K.out.trans (Rc.C4 fun h=>of_decide_eq_false D.out (E.out.1 h).2)]
   rfl
  |true=>
   have D:=Hq H;clear H
   go_wp2_with(first|with_reducible refine lL m.out.bx C5 ?_|with_reducible refine lL m.out.br C5 ?_|(go_at_call 254;(with_reducible refine P.out.mono ?_);rintro e w9 ⟨rfl,x⟩;rw[D.out]))
   go_ret;refine⟨?_,Ag m.out.below x⟩;rw[K.out.trans (Rc.Fx (E.out.2 ⟨Z.out,of_decide_eq_true D.out⟩))]
   rfl
theorem iW (kind:Int)(hk:¬ (1≤kind∧kind≤9))(h prev i Ad next l ok os j root m es:Int)(n on o:ByteArray)(T D:Value)(w:World):
 Cr 206 #[.agg (Cn h prev i kind Ad next l ok os n on j root o m es (T) (D))] w (.bool false):=by
 have f:=Hq (fun W=>Hj kind W);have g:∃ a b c d,Y6 kind= .tuple #[Gt a b c d false,false]:=by
  unfold Y6;rw[decide_eq_false hk];exact⟨_,_,_,_,rfl⟩
 obtain⟨p,q,r,fd,g⟩:=g;rw[g]at f;clear g hk;go_enter Tryz.func206,Tryz.ntmps206
 go_wp2_with((go_at_call 245;(with_reducible refine(f.out _).mono ?_);rintro e s ⟨rfl,k⟩))
 go_ret;exact⟨rfl,Aj (Ag (Ac _ _) k)⟩
theorem cM (x:Rc.Rec)(A B:Option Addr)(c d:Nat)(w:World)(k:Ig w x A c B d):
 Cr 206 #[D9 x (.slice A x.txns.length c) (.slice B x.dirty.length d)] w (.bool (Rc.D0 x)):=by
 obtain⟨a,prev,b,kind,Ad,next,f,⟨ok,os,g,on⟩,e,root,⟨i,j,es⟩,l,m⟩:=x
 by_cases h:1≤kind∧kind≤9
 ·have h9:kind=2∨kind=3∨kind=4∨kind=8∨kind=9∨kind=1∨kind=5∨kind=6∨kind=7:=by omega
  rcases h9 with rfl|rfl|rfl|rfl|rfl|h9
  ·exact Ws a prev b Ad next f ok os e root j es g on i l m A B c d w k
  ·exact iV a prev b Ad next f ok os e root j es g on i l m A B c d w k
  ·exact cK a prev b Ad next f ok os e root j es g on i l m A B c d w k
  ·exact Zi a prev b Ad next f ok os e root j es g on i l m A B c d w k
  ·exact Zj a prev b Ad next f ok os e root j es g on i l m A B c d w k
  ·exact cL kind h9 a prev b Ad next f ok os e root j es g on i l m A B c d w k
 ·rw[Rc.C4 (Rc.cJ h)]
  exact iW kind h a prev b Ad next f ok os e root j es g on i _ _ w
def Hl (B b:Nat)(l:List UInt8)(w:World):Prop:=
 b<B∧∃ p v,w.heap[b]? =some (.cells #[p,v] 237 (0,0))∧(p= .pointer none∨p= .pointer (some ⟨b,0,none⟩))∧w.ownsRow B 5 1 v l.length (Lib.byteCells l)
def sG (o:Option Obj):Prop:=∃ cs t fr,o=some (.cells cs t fr)∧t≠5
structure C8 (B b:Nat) (w w':World):Prop where
 os:w'.os=w.os
 tape:w'.tape=w.tape
 output:w'.output=w.output
 size:w.heap.size≤w'.heap.size
 block:∀ k,k<w.heap.size→k≠b→k<B∨sG w.heap[k]?→w'.heap[k]? =w.heap[k]?
theorem C8.refl (B b:Nat)(w:World):C8 B b w w:=⟨rfl,rfl,rfl,Nat.le_refl _,fun _ _ _ _=>rfl⟩
theorem C8.trans {B b:Nat}{u v w:World}(h:C8 B b u v)(k:C8 B b v w):C8 B b u w:=
 ⟨k.os.trans h.os,k.tape.trans h.tape,k.output.trans h.output,Nat.le_trans h.size k.size,fun i a c d=>by
   have e:=h.block i a c d;exact(k.block i (Nat.lt_of_lt_of_le a h.size) c (by rw[e];exact d)).trans e⟩
theorem C8.Es {B b:Nat}{u v:World}(h:Bw u v):C8 B b u v:=
 ⟨h.os,h.tape,h.output,h.size,fun i a _ _=>h.block i a⟩
theorem C8.below {B b lo:Nat}{u v:World}(h:C8 B b u v)(a:lo≤B)(c:lo≤b)(d:lo≤u.heap.size):Below lo u v:=
 ⟨h.os,h.tape,h.output,h.size,fun i e=>h.block i (by omega) (by omega) (.inl (by omega))⟩
theorem C8.at_ {B b:Nat}{u v:World}(h:C8 B b u v){g:Nat}{cs:Array Value}{t:TypeId}{fr:Nat×Nat}(a:u.heap[g]? =some (.cells cs t fr))(c:g≠b)(d:t≠5):v.heap[g]? =some (.cells cs t fr):=
 (h.block g (Bt a) c (.inr ⟨cs,t,fr,a,d⟩)).trans a
theorem I6 {B b:Nat}{l:List UInt8}{w:World}(h:Hl B b l w):b<w.heap.size:=by
 obtain⟨_,p,v,a,_⟩:=h;exact Bt a
theorem Hl.below {B b:Nat}{l:List UInt8}{w w':World}(h:Hl B b l w)(e:Bw w w'):Hl B b l w':=by
 obtain⟨c,p,v,d,f,a⟩:=h;exact⟨c,p,v,Af d e,f,Bg a e⟩
theorem Hl.fresh (B b:Nat)(w:World)(a:b<B)(h:w.heap[b]? =some (.cells #[.pointer none,"s"] 237 (0,0))):Hl B b [] w:=
 ⟨a,_,_,h,.inl rfl,⟨rfl,.inl ⟨rfl,rfl⟩⟩⟩
theorem Pt (b:Nat)(w:World)(h:w.cell? ⟨b,0,none⟩=some (.pointer none))(c:w.shape? b=some (237,2))(g:w.frozen? ⟨b,0,none⟩=false):
 Cq 208 #[.pointer (some ⟨b,0,none⟩)] w fun e w'=>e= .returned (.tuple #[])∧w'=w.setCell ⟨b,0,none⟩ (.pointer (some ⟨b,0,none⟩)):=by
 obtain⟨j,f,d⟩:=Option.map_eq_some_iff.1 (show(Tryz.prog.info? 189).map (·.size)=some 2 by kernel_rfl);have a:liesAt Tryz.prog Tryz.prog.depth 237 (2/Tryz.prog.cellsOf 237) 0 189 1=true:=by kernel_rfl
 go_enter Tryz.func208,Tryz.ntmps208
 go_wp2
 rw[Lib.run_to_unsafe w ⟨b,0,none⟩ uI uJ f (by rw[d];decide) c (Nat.zero_lt_succ 1)];simp only[Result.andThen];rw[Oper.upon_value]
 go_wp2
 rw[run_callFunc_extern Tryz.func258 Kr Kr Kr (e:=Extern.AbiNoEscape.same) Kr];rw[Lib.run_noEscape];simp only[Result.andThen];rw[Oper.upon_value]
 go_wp2
 rw[Lib.run_from_unsafe w ⟨b,0,none⟩ uJ uI f c a];simp only[Result.andThen];rw[Oper.upon_value]
 go_wp2
 go_end0
 exact⟨rfl,rfl⟩
theorem setW (B b:Nat)(w:World)(i:Nat)(v:Value):C8 B b w (w.setCell ⟨b,i,none⟩ v):=
 ⟨rfl,rfl,rfl,by simp[World.setCell],fun k _ hk _=>Below.heap_setCell _ _ _ _ hk⟩
theorem Sh (B b:Nat)(l:List UInt8)(w:World)(h:Hl B b l w):
 Cq 208 #[.pointer (some ⟨b,0,none⟩)] w fun e w'=>e= .returned (.tuple #[])∧
  (b<B∧∃ v,w'.heap[b]? =some (.cells #[.pointer (some ⟨b,0,none⟩),v] 237 (0,0))∧w'.ownsRow B 5 1 v l.length (Lib.byteCells l))∧C8 B b w w':=by
 obtain⟨c,p,v,d,f,a⟩:=h;rcases f with rfl|rfl
 ·refine(Pt b w (by rw[Aa d];rfl) (by simp[World.shape?,d]) (by simp[World.frozen?,d])).mono ?_
  rintro e w' ⟨rfl,rfl⟩;exact⟨rfl,⟨c,v,heap_set w b 0 _ _ _ _ d,Q9 c a⟩,setW B b w 0 _⟩
 ·refine(L0 b w (by rw[Aa d];rfl)).mono ?_
  rintro e w' ⟨rfl,rfl⟩;exact⟨rfl,⟨c,v,d,a⟩,C8.refl _ _ _⟩
theorem Si (B b:Nat)(l:List UInt8)(s:ByteArray)(w:World)(h:Hl B b l w)(hlen:l.length+s.size≤140737488355328)(M:B≤w.heap.size):
 Cq 175 #[.pointer (some ⟨b,0,none⟩),s] w fun e w'=>e= .returned (.tuple #[s.size,.nilIface])∧Hl B b (l++s.data.toList) w'∧C8 B b w w':=by
 obtain⟨i0,N,r,x,y⟩:=info_parts Pj;have O:=Hq (Sh B b l w h);clear h;go_enter Tryz.func175,Tryz.ntmps175
 go_wp2_with(go_at_call 208;refine O.out.mono ?_)
 rintro e z ⟨rfl,⟨o,v,f,c⟩,j⟩;have P:=j.size;have T:z.cell? ⟨b,1,none⟩=some v:=by rw[Aa f];rfl
 go_wp2_with(at_builtin;refine Lib.wpList_append_own_string _ rfl _ _ 112 9 rfl B 5 i0 Hw bM N r x y _ _ _ rfl c s rfl ?c3 ?c4 ?c5 ?_)
 case c3=>unfold maxLen;omega
 case c4=>omega
 case c5=>omega
 intro Q w2 d a _;have A:b<z.heap.size:=Bt f;have C:v.ownBlock≠some b:=fun e=>by
  have:=(c.lt b e).1;omega
 have m:w2.heap[b]? =some (.cells #[.pointer (some ⟨b,0,none⟩),v] 237 (0,0)):=by
  rw[a.block b A (fun e=>C e.symm)];exact f
 have d1:w2.cell? ⟨b,1,none⟩=some v:=by rw[Aa m];rfl
 have f1:w2.frozen? ⟨b,1,none⟩=false:=by simp[World.frozen?,m]
 obtain⟨D,E,cap,rfl⟩:∃ D E cap,Q= .slice D E cap:=by
  rcases d.2 with⟨n,_⟩|⟨g,cap,cur,n,_⟩
  ·exact⟨_,_,_,n⟩
  ·exact⟨_,_,_,n⟩
 have p:C8 B b z w2:=⟨a.os,a.tape,a.output,a.size,fun k hk R K=>a.block k hk (fun e=>by
  have U:=(c.lt k e.symm).1;rcases K with K|⟨cs,t,V,F,S⟩
  ·omega
  ·rcases c.2 with⟨n,_⟩|⟨g,L,cur,n,_,q,_⟩
   ·rw[n]at e;simp[Value.ownBlock]at e
   ·rw[n]at e
    have G:g=k:=(by simpa[Value.ownBlock]using e.symm);subst G;rw[F]at q
    injection q with q
    injection q with _ H
    exact S H)⟩
 have I:=Hq (j.trans p);clear j p;go_wp2_with fail;go_ret2;refine⟨rfl,?_,I.out.trans (setW B b w2 1 _)⟩;have J:Lib.byteCells (l++s.data.toList)=Lib.byteCells l++Lib.strCells s:=by
  simp[Lib.byteCells,Lib.strCells]
 refine⟨o,_,_,heap_set w2 b 1 _ _ _ _ m,.inr rfl,?_⟩;have:=Q9 (i:=1) (u:=.slice D E cap) o d;rw[J,List.length_append,show s.data.toList.length=s.size by simp];exact this
theorem Zk (B b:Nat)(l:List UInt8)(w:World)(h:Hl B b l w)(o:l≠[]):
 Cq 176 #[.pointer (some ⟨b,0,none⟩)] w fun e w'=>e= .returned (.string ⟨l.toArray⟩)∧C8 B b w w':=by
 obtain⟨z,p,v,i,L,c⟩:=h;have q:l.length≠0:=by simpa using o
 obtain⟨g,cap,cur,rfl,A,a,s,m,d,f⟩:∃ g cap cur,v= .slice (some ⟨g,0,none⟩) l.length cap∧B≤g∧w.heap[g]? =some (.cells cur 5 (0,0))∧l.length≤cap∧cap≤maxLen∧cur.size=cap*1∧cur.toList.take (l.length*1)=Lib.byteCells l:=by
  rcases c.2 with⟨_,C⟩|⟨g,cap,cur,D,r⟩
  ·exact absurd C q
  ·exact⟨g,cap,cur,D,r⟩
 have M:w.drew.cell? ⟨b,1,none⟩=some (.slice (some ⟨g,0,none⟩) l.length cap):=by
  have:w.drew.heap[b]? =some (.cells #[p,.slice (some ⟨g,0,none⟩) l.length cap] 237 (0,0)):=i;rw[Aa this];rfl
 have E:(Builtin.unsafeSliceData_ #[112] 205 #[.slice (some ⟨g,0,none⟩) l.length cap]).run Tryz.prog w.drew= .ok (.pointer (some ⟨g,0,none⟩)) w.drew:=
  Lib.run_unsafeSliceData_row _ _ _ _ _ _ (by omega)
 have F:(Builtin.unsafeString_ #[205,3] 9 #[.pointer (some ⟨g,0,none⟩),l.length]).run Tryz.prog w.drew= .ok (.string ⟨l.toArray⟩) (w.drew.freeze ⟨g,0,none⟩ l.length):=by
  refine Lib.run_unsafeString_row w.drew 205 3 9 5 Ye Rq g cur.size (by have u:w.drew.heap[g]? =some (.cells cur 5 (0,0)):=a;simp[World.shape?,u]) l o (by omega) (by unfold maxLen at m;omega) ?_;intro j x G;have:=c.cells (g:=g) rfl j (.int .u8 x.toNat) (by simp[Lib.byteCells,G]);exact this
 have H:C8 B b w (w.drew.freeze ⟨g,0,none⟩ l.length):=by
  have n:=L5.freeze g (g+1) g l.length w (Nat.le_refl _) (Nat.lt_succ_self _);refine⟨n.os,n.tape,n.output,n.size,fun k hk I y=>n.block k hk ?_⟩;rcases Nat.lt_trichotomy k g with h|h|h
  ·exact .inl h
  ·subst h
   rcases y with y|⟨cs,t,N,d,J⟩
   ·omega
   ·rw[d]at a
    injection a with a
    injection a with _ K
    exact absurd K J
  ·exact .inr h
 clear c i f d m s a o;go_enter Tryz.func176,Tryz.ntmps176
 go_wp2
 go_region
 all_goals (go_wp2;go_ret;exact⟨rfl,H⟩)
theorem fO (n:Int)(size:Nat)(a:size≤8):(Oct.Bh n size).data.toList=Rc.p n size:=by
 unfold Oct.Bh;rw[if_neg (by omega)]
 simp[Rc.p]
theorem Ch (n:Int)(size:Nat):(Rc.p n size).length=size:=Oct.Bc _ _
theorem Oe (s:ByteArray):(Rc.t s).length=2+s.size:=by
 unfold Rc.t;rw[List.length_append,Ch]
 simp
theorem Zl (s:ByteArray)(h:s.size≤65535)(w:World):
 Cq 288 #[s] w fun e w'=>∃ x:ByteArray,e= .returned (.string x)∧x.data.toList=Rc.t s∧Bw w w':=by
 have f:=Hq (fun W=>Hp s.size 2 (by omega) (by omega) W);have c:min (s.size:Int) 65535=s.size:=by omega
 have hex:s.extract 0 s.size=s:=ByteArray.extract_zero_size;have g:(Oct.Bh (s.size:Int) 2).size=2:=Oct.Bn _ 2 (by omega);have d:(Oct.Bh (s.size:Int) 2).size+s.size≤281474976710656:=by omega
 have a:(Oct.Bh (s.size:Int) 2++s).data.toList=Rc.t s:=by
  have e:(Oct.Bh (s.size:Int) 2).data.toList=Rc.p s.size 2:=fO _ 2 (by omega);rw[ByteArray.data_append,Array.toList_append,e];rfl
 go_enter Tryz.func288,Tryz.ntmps288
 go_wp2_with((go_at_call 153;refine(f.out _).mono ?_;rintro e i ⟨rfl,b⟩))
 go_ret;exact⟨_,rfl,a,b⟩
theorem oJ (size:Nat)(b:size≤8)(xs:List Int)(k:Nat):((xs.take k).flatMap (fun n=>Rc.p n size)).length≤k*8:=by
 refine Nat.le_trans ?_ (Nat.mul_le_mul_right _ (show(xs.take k).length≤k by rw[List.length_take];omega));have c:∀ a:List Int,(∀ y∈a,((fun n=>Rc.p n size) y).length≤8)→(a.flatMap (fun n=>Rc.p n size)).length≤a.length*8:=by
  intro a
  induction a with
  |nil=>intro _;simp
  |cons y a ih=>
   intro h;rw[List.flatMap_cons,List.length_append,List.length_cons,Nat.succ_mul];have e:(Rc.p y size).length≤8:=h y (List.mem_cons_self ..)
   show(Rc.p y size).length+_≤_
   have f:=ih (fun z d=>h z (List.mem_cons_of_mem _ d));omega
 exact c _ (fun y g=>by show(Rc.p y size).length≤8;rw[Ch];exact b)
theorem Sj (B b g:Nat)(l:List UInt8)(size:Nat)(A:size≤8)(xs:List Int)(w:World)(h:Hl B b l w)(P:B≤w.heap.size)(J:w.heap[g]? =some (.cells (xs.map (Value.int .i64)).toArray 3 (0,0)))(C:g≠b)(hlen:l.length+xs.length*8≤140737488355328):
 Cq 255 #[.pointer (some ⟨b,0,none⟩),.int .i64 (size:Int),.slice (some ⟨g,0,none⟩) xs.length xs.length] w fun e w'=>e= .returned (.tuple #[])∧Hl B b (l++xs.flatMap (fun n=>Rc.p n size)) w'∧C8 B b w w':=by
 have L:=Hq h;have M:=Hq J;have D:=Hq (oJ size A xs);have N:=Hq (fun n W=>Hp n (size:Int) (by omega) (by omega) W);have E:=Hq (fun n=>fO n size A);have F:=Hq (fun n=>Oct.Bn n size A);clear h J;go_enter Tryz.func255,Tryz.ntmps255;go_wp2_with fail
 go_loopw [7,10] (fun _ i wr=>∃ k:Nat,k≤xs.length∧i= .int .i64 k∧Hl B b (l++(xs.take k).flatMap (fun n=>Rc.p n size)) wr∧C8 B b w wr) (fun _ i _=>xs.length-(intOf i).toNat)
 case atStart=>exact⟨0,Nat.zero_le _,rfl,by simpa using L.out,C8.refl _ _ _⟩
 case round=>
  obtain⟨k,hk,rfl,m,o⟩:=hrel;have q:=Hq m;have c:=Hq o;clear m o
  by_cases r:k<xs.length
  ·have O:wr.cell? ⟨g,k,none⟩=some (Value.int .i64 xs[k]):=by
    rw[Aa (c.out.at_ M.out C (by decide))]
    simp[r]
   have s:(xs.take (k+1)).flatMap (fun n=>Rc.p n size)=(xs.take k).flatMap (fun n=>Rc.p n size)++(fun n=>Rc.p n size) xs[k]:=by
    rw[List.take_add_one,List.flatMap_append,List.getElem?_eq_getElem r]
    simp
   have t:=Hq s;generalize xs[k]=x at O t;clear s;go_upto_region 3 with fail;refine G7 (S:=(fun _=>True)) (fun a=>?_) (by trivial);refine Qe 0 (some 14) (v:=?_) rfl ?_ (Qe 1 (some 15) (v:=?_) rfl ?_ (Qe 2 (some 16) (v:=?_) rfl ?_ (Qe 3 (some 17) (v:=?_) rfl ?_ (Qe 4 (some 18) (v:=?_) rfl ?_ ?_))))
   iterate 5 (rotate_left;focus(intro w G;(try dsimp only at G);go_simp;(try with_reducible rfl)))
   try simp only[Act.put,pS]
   refine Dg 5 fun K u=>?_
   go_simp
   refine(N.out x _).mono ?_;rintro e Q ⟨rfl,j⟩;have H:=Hq (q.out.below ((Below.refl _ wr).drew.trans j));have I:=Hq j.size;try go_simp
   refine Cw u (fun a=>?_) (by trivial);clear u K;refine Dg 6 fun K u=>?_
   go_simp
   refine(Si B b _ (Oct.Bh x (size:Int)) _ H.out (by have:=F.out x;have:=D.out k;rw[List.length_append];omega) (by have R:=c.out.size;have T:=I.out;have U:wr.drew.heap.size=wr.heap.size:=rfl;omega)).mono ?_;rintro e V ⟨rfl,d,f⟩;have y:=Hq d;have z:=Hq ((c.out.trans (C8.Es ((Below.refl _ wr).drew.trans j))).trans f);clear d f;try go_simp
   refine Cw u (fun a=>?_) (by trivial);clear u K;refine wpAnyH_done Kr ?_ _;clear a;go_wp2_with fail;go_roundw
   case rel=>exact⟨k+1,by omega,by go_num,by rw[t.out,← List.append_assoc];have h:=y.out;rw[E.out]at h;exact h,z.out⟩
   case measure=>simp[intOf];omega
  ·obtain rfl:k=xs.length:=by omega
   go_wp2_with fail
   first|go_end0|go_ret
   refine⟨rfl,?_,c.out⟩;have h:=q.out;rw[List.take_length]at h;exact h
theorem oK (xs:List ByteArray)(b:∀ s∈xs,s.size≤65535)(k:Nat):((xs.take k).flatMap Rc.t).length≤k*65537:=by
 refine Nat.le_trans ?_ (Nat.mul_le_mul_right _ (show(xs.take k).length≤k by rw[List.length_take];omega));have c:∀ a:List ByteArray,(∀ y∈a,(Rc.t y).length≤65537)→(a.flatMap Rc.t).length≤a.length*65537:=by
  intro a
  induction a with
  |nil=>intro _;simp
  |cons y a ih=>
   intro h;rw[List.flatMap_cons,List.length_append,List.length_cons,Nat.succ_mul];have f:(Rc.t y).length≤65537:=h y (List.mem_cons_self ..)
   show(Rc.t y).length+_≤_
   have g:=ih (fun z d=>h z (List.mem_cons_of_mem _ d));omega
 exact c _ (fun y e=>by rw[Oe];have:=b y (List.mem_of_mem_take e);omega)
theorem cN (B b g:Nat)(l:List UInt8)(xs:List ByteArray)(D:∀ s∈xs,s.size≤65535)(w:World)(h:Hl B b l w)(Y:B≤w.heap.size)(L:w.heap[g]? =some (.cells (xs.map Value.string).toArray 9 (0,0)))(E:g≠b)(hlen:l.length+xs.length*65537≤140737488355328):
 Cq 256 #[.pointer (some ⟨b,0,none⟩),.slice (some ⟨g,0,none⟩) xs.length xs.length] w fun e w'=>e= .returned (.tuple #[])∧Hl B b (l++xs.flatMap Rc.t) w'∧C8 B b w w':=by
 have O:=Hq h;have P:=Hq L;have F:=Hq (oK xs D);have Q:=Hq (fun s R W=>Zl s R W);have G:=Hq D;clear h L D;go_enter Tryz.func256,Tryz.ntmps256;go_wp2_with fail
 go_loopw [5,8] (fun _ i wr=>∃ k:Nat,k≤xs.length∧i= .int .i64 k∧Hl B b (l++(xs.take k).flatMap Rc.t) wr∧C8 B b w wr) (fun _ i _=>xs.length-(intOf i).toNat)
 case atStart=>exact⟨0,Nat.zero_le _,rfl,by simpa using O.out,C8.refl _ _ _⟩
 case round=>
  obtain⟨k,hk,rfl,o,p⟩:=hrel;have q:=Hq o;have c:=Hq p;clear o p
  by_cases j:k<xs.length
  ·have T:wr.cell? ⟨g,k,none⟩=some (Value.string xs[k]):=by
    rw[Aa (c.out.at_ P.out E (by decide))]
    simp[j]
   have r:(xs.take (k+1)).flatMap Rc.t=(xs.take k).flatMap Rc.t++Rc.t xs[k]:=by
    rw[List.take_add_one,List.flatMap_append,List.getElem?_eq_getElem j]
    simp
   have u:=Hq r;have m:=Hq (G.out _ (List.getElem_mem j));generalize xs[k]=x at T u m;clear r;go_upto_region 3 with fail;refine G7 (S:=(fun _=>True)) (fun a=>?_) (by trivial);refine Qe 0 (some 12) (v:=?_) rfl ?_ (Qe 1 (some 13) (v:=?_) rfl ?_ (Qe 2 (some 14) (v:=?_) rfl ?_ (Qe 3 (some 15) (v:=?_) rfl ?_ ?_)))
   iterate 4 (rotate_left;focus(intro w H;(try dsimp only at H);go_simp;(try with_reducible rfl)))
   try simp only[Act.put,pS]
   refine Dg 4 fun K z=>?_
   go_simp
   refine(Q.out x m.out _).mono ?_;rintro e Z ⟨y,rfl,M,n⟩;have I:=Hq (q.out.below ((Below.refl _ wr).drew.trans n));have N:=Hq M;have J:=Hq n.size;clear M;try go_simp
   refine Cw z (fun a=>?_) (by trivial);clear z K;refine Dg 5 fun K z=>?_
   go_simp
   refine(Si B b _ (y) _ I.out (by have U:=F.out k;have V:=Oe x;have X:y.size=(Rc.t x).length:=(by rw[← N.out];first|done|simp);have h4:=m.out;rw[List.length_append];omega) (by have U:=c.out.size;have V:=J.out;have X:wr.drew.heap.size=wr.heap.size:=rfl;omega)).mono ?_;rintro e w2 ⟨rfl,d,f⟩;have A:=Hq d;have C:=Hq ((c.out.trans (C8.Es ((Below.refl _ wr).drew.trans n))).trans f);clear d f;try go_simp
   refine Cw z (fun a=>?_) (by trivial);clear z K;refine wpAnyH_done Kr ?_ _;clear a;go_wp2_with fail;go_roundw
   case rel=>exact⟨k+1,by omega,by go_num,by rw[u.out,← List.append_assoc];have h:=A.out;rw[N.out]at h;exact h,C.out⟩
   case measure=>simp[intOf];omega
  ·obtain rfl:k=xs.length:=by omega
   go_wp2_with fail
   first|go_end0|go_ret
   refine⟨rfl,?_,c.out⟩;have h:=q.out;rw[List.take_length]at h;exact h
structure Wr (w:World) (a f b:Nat) (R F:Array Value) (l:List UInt8) (u:World):Prop where
 br:u.heap[a]? =some (.cells R 49 (0,0))
 bf:u.heap[f]? =some (.cells F 228 (0,0))
 wr:Hl (b+1) b l u
 ab:a<b∧f<b
 low:w.heap.size≤a
 below:Bw w u
theorem Wr.step {w u v:World}{a f b:Nat}{R F:Array Value}{l:List UInt8}(h:Wr w a f b R F l u)(c:Bw u v):Wr w a f b R F l v:=
 ⟨Af h.br c,Af h.bf c,h.wr.below c,h.ab,h.low,Ag h.below c⟩
theorem Wr.Uk {w u v:World}{a f b:Nat}{R F:Array Value}{l c:List UInt8}(h:Wr w a f b R F l u)(d:Hl (b+1) b c v)(hk:C8 (b+1) b u v):Wr w a f b R F c v:=
 ⟨hk.at_ h.br (by have:=h.ab;omega) (by decide),hk.at_ h.bf (by have:=h.ab;omega) (by decide),d,h.ab,h.low,h.below.trans (hk.below (by have:=h.ab;have:=h.low;omega) (by have:=h.ab;have:=h.low;omega) h.below.size)⟩
theorem Wr.size {w u:World}{a f b:Nat}{R F:Array Value}{l:List UInt8}(h:Wr w a f b R F l u):b+1≤u.heap.size:=I6 h.wr
theorem Wr.put {w u:World}{a f b:Nat}{R F:Array Value}{l:List UInt8}(h:Wr w a f b R F l u)(size:Nat)(d:size≤8)(xs:List Int)(hlen:l.length+xs.length*8≤140737488355328):
 Cq 255 #[.pointer (some ⟨b,0,none⟩),.int .i64 (size:Int),.slice (some ⟨u.heap.size,0,none⟩) xs.length xs.length] (u.alloc (.cells (xs.map (Value.int .i64)).toArray 3)) fun e w'=>e= .returned (.tuple #[])∧Wr w a f b R F (l++xs.flatMap (fun n=>Rc.p n size)) w':=by
 have c:=h.step (Ac u (.cells (xs.map (Value.int .i64)).toArray 3));refine(Sj (b+1) b u.heap.size l size d xs _ c.wr c.size (heap_alloc_new u _) (by have:=h.size;omega) hlen).mono ?_;rintro e w' ⟨rfl,g,i⟩;exact⟨rfl,c.Uk g i⟩
theorem Wr.Lf {w u:World}{a f b:Nat}{R F:Array Value}{l:List UInt8}(h:Wr w a f b R F l u)(size:Nat)(c:size≤8)(x:Int)(hlen:l.length+8≤140737488355328):
 Cq 255 #[.pointer (some ⟨b,0,none⟩),.int .i64 (size:Int),.slice (some ⟨u.heap.size,0,none⟩) 1 1] (u.alloc (.cells #[x] 3)) fun e w'=>e= .returned (.tuple #[])∧Wr w a f b R F (l++Rc.p x size) w':=by
 refine(h.put size c [x] (by simpa using hlen)).mono ?_;rintro e w' ⟨rfl,d⟩;exact⟨rfl,by simpa using d⟩
theorem Wr.yE {w u:World}{a f b:Nat}{R F:Array Value}{l:List UInt8}(h:Wr w a f b R F l u)(size:Nat)(c:size≤8)(x y:Int)(hlen:l.length+16≤140737488355328):
 Cq 255 #[.pointer (some ⟨b,0,none⟩),.int .i64 (size:Int),.slice (some ⟨u.heap.size,0,none⟩) 2 2] (u.alloc (.cells #[x,y] 3)) fun e w'=>e= .returned (.tuple #[])∧Wr w a f b R F (l++(Rc.p x size++Rc.p y size)) w':=by
 refine(h.put size c [x,y] (by simpa using hlen)).mono ?_;rintro e w' ⟨rfl,d⟩;exact⟨rfl,by simpa using d⟩
theorem Wr.iX {w u:World}{a f b:Nat}{R F:Array Value}{l:List UInt8}(h:Wr w a f b R F l u)(size:Nat)(c:size≤8)(x y z:Int)(hlen:l.length+24≤140737488355328):
 Cq 255 #[.pointer (some ⟨b,0,none⟩),.int .i64 (size:Int),.slice (some ⟨u.heap.size,0,none⟩) 3 3] (u.alloc (.cells #[x,y,z] 3)) fun e w'=>e= .returned (.tuple #[])∧Wr w a f b R F (l++(Rc.p x size++(Rc.p y size++Rc.p z size))) w':=by
 refine(h.put size c [x,y,z] (by simpa using hlen)).mono ?_;rintro e w' ⟨rfl,d⟩;exact⟨rfl,by simpa using d⟩
theorem Wr.texts {w u:World}{a f b:Nat}{R F:Array Value}{l:List UInt8}(h:Wr w a f b R F l u)(xs:List ByteArray)(d:∀ s∈xs,s.size≤65535)(hlen:l.length+xs.length*65537≤140737488355328):
 Cq 256 #[.pointer (some ⟨b,0,none⟩),.slice (some ⟨u.heap.size,0,none⟩) xs.length xs.length] (u.alloc (.cells (xs.map Value.string).toArray 9)) fun e w'=>e= .returned (.tuple #[])∧Wr w a f b R F (l++xs.flatMap Rc.t) w':=by
 have c:=h.step (Ac u (.cells (xs.map Value.string).toArray 9));refine(cN (b+1) b u.heap.size l xs d _ c.wr c.size (heap_alloc_new u _) (by have:=h.size;omega) hlen).mono ?_;rintro e w' ⟨rfl,g,i⟩;exact⟨rfl,c.Uk g i⟩
theorem Wr.wR {w u:World}{a f b:Nat}{R F:Array Value}{l:List UInt8}(h:Wr w a f b R F l u)(x:ByteArray)(c:x.size≤65535)(hlen:l.length+65537≤140737488355328):
 Cq 256 #[.pointer (some ⟨b,0,none⟩),.slice (some ⟨u.heap.size,0,none⟩) 1 1] (u.alloc (.cells #[x] 9)) fun e w'=>e= .returned (.tuple #[])∧Wr w a f b R F (l++Rc.t x) w':=by
 refine(h.texts [x] (by simpa using c) (by simpa using hlen)).mono ?_;rintro e w' ⟨rfl,d⟩;exact⟨rfl,by simpa using d⟩
theorem Wr.oL {w u:World}{a f b:Nat}{R F:Array Value}{l:List UInt8}(h:Wr w a f b R F l u)(x y:ByteArray)(c:x.size≤65535)(hy:y.size≤65535)(hlen:l.length+131074≤140737488355328):
 Cq 256 #[.pointer (some ⟨b,0,none⟩),.slice (some ⟨u.heap.size,0,none⟩) 2 2] (u.alloc (.cells #[x,y] 9)) fun e w'=>e= .returned (.tuple #[])∧Wr w a f b R F (l++(Rc.t x++Rc.t y)) w':=by
 refine(h.texts [x,y] (by simpa using⟨c,hy⟩) (by simpa using hlen)).mono ?_;rintro e w' ⟨rfl,d⟩;exact⟨rfl,by simpa using d⟩
theorem Wr.done {w u:World}{a f b:Nat}{R F:Array Value}{l:List UInt8}(h:Wr w a f b R F l u)(c:l≠[]):
 Cq 176 #[.pointer (some ⟨b,0,none⟩)] u fun e w'=>e= .returned (.string ⟨l.toArray⟩)∧Bw w w':=by
 refine(Zk (b+1) b l u h.wr c).mono ?_;rintro e w' ⟨rfl,hk⟩;exact⟨rfl,(h.Uk (h.wr) (C8.refl _ _ _)).below.trans (hk.below (by have:=h.ab;have:=h.low;omega) (by have:=h.ab;have:=h.low;omega) h.below.size)⟩
theorem Pu {w w1:World}{R F:Array Value}(a:Below (w.alloc (.cells R 49)).heap.size (w.alloc (.cells R 49)) w1):
 Wr w w.heap.size w1.heap.size (w1.heap.size+1) R F [] ((w1.alloc (.cells F 228)).alloc (.cells #[.pointer none,"s"] 237)):=by
 have c:Bw w w1:=Ag (Ac _ _) a;have b:=a.size
 simp at b
 refine⟨?_,Qo _ _ _,?_,⟨by omega,by omega⟩,Nat.le_refl _,Aj (Aj c)⟩
 ·exact Af (Bv a) (Aj (Ac _ _))
 ·refine Hl.fresh _ _ _ (Nat.lt_succ_self _) ?_
  have:=heap_alloc_new (w1.alloc (.cells F 228)) (.cells #[.pointer none,"s"] 237)
  simpa using this
theorem iY (kind:Int)(hk:kind=1∨kind=5∨kind=6∨kind=7)(a prev b Ad next i ok os c root j es:Int)(d on f:ByteArray)(o:List Rc.Be)(p:List Rc.Bx)(T D:Value)(_zo:d.size≤65535)(_zn:on.size≤65535)(_ze:f.size≤65535)(w:World):
 Cr 207 #[.agg (Cn a prev b kind Ad next i ok os d on c root f j es (T) (D))] w (.string ⟨(Rc.Di ⟨a,prev,b,kind,Ad,next,i,⟨ok,os,d,on⟩,c,root,⟨f,j,es⟩,o,p⟩).toArray⟩):=by
 have g:=Hq (fun W=>Hj kind W);rw[show Y6 kind= .tuple #[Gt false false false false true,true]from by rcases hk with rfl|rfl|rfl|rfl<;>rfl]at g;have k:=Hq (show Rc.Di ⟨a,prev,b,kind,Ad,next,i,⟨ok,os,d,on⟩,c,root,⟨f,j,es⟩,o,p⟩=Rc.Gf ⟨a,prev,b,kind,Ad,next,i,⟨ok,os,d,on⟩,c,root,⟨f,j,es⟩,o,p⟩++[]from by unfold Rc.Di;congr 1;unfold Rc.Gc;simp only;rw[if_neg (by omega),if_neg (by omega),if_neg (by omega),if_neg (by omega),if_neg (by omega)]);clear hk;generalize Rc.Di ⟨a,prev,b,kind,Ad,next,i,⟨ok,os,d,on⟩,c,root,⟨f,j,es⟩,o,p⟩=bb at k ⊢;go_enter Tryz.func207,Tryz.ntmps207
 go_upto_region 3 with((go_at_call 245;(with_reducible refine(g.out _).mono ?_);rintro e y ⟨rfl,l⟩))
 have m:=Hq (Pu (R:=(Cn a prev b kind Ad next i ok os d on c root f j es (T) (D))) (F:=#[false,false,false,false,true]) l);obtain⟨V,x⟩:=ex ((y.alloc (.cells #[false,false,false,false,true] 228)).alloc (.cells #[.pointer none,"s"] 237));rw[← x]at m ⊢;clear x;have q:=Aa m.out.br;have r:=Aa m.out.bf;clear l g
 go_upto_region 4 with((go_at_call 255;refine(m.out.Lf 1 (by omega) kind (by simp only[List.length_nil];omega)).mono ?_;rintro e v1 ⟨rfl,n⟩;have H1:=Hq n;clear n;have s:=Aa H1.out.br;have t:=Aa H1.out.bf))
 clear q r m
 go_upto_region 20 with((go_at_call 255;refine(H1.out.iX 6 (by omega) a prev b (by simp only[List.length_append,Ch,List.length_nil];omega)).mono ?_;rintro e v2 ⟨rfl,n⟩;have u:=Hq n;clear n;have z:=Aa u.out.br;have A:=Aa u.out.bf))
 clear s t H1
 go_wp2_with((go_at_call 176;refine(u.out.done (by intro h;have:=congrArg List.length h;simp only[List.length_append,Ch,List.length_nil]at this;omega)).mono ?_;rintro e B ⟨rfl,v⟩))
 go_ret;refine⟨?_,v⟩;rw[k.out]
 simp[Rc.Gf]
theorem iZ (a prev b Ad next i ok os c root j es:Int)(d on f:ByteArray)(m:List Rc.Be)(n:List Rc.Bx)(T D:Value)(_zo:d.size≤65535)(_zn:on.size≤65535)(_ze:f.size≤65535)(w:World):
 Cr 207 #[.agg (Cn a prev b 4 Ad next i ok os d on c root f j es (T) (D))] w (.string ⟨(Rc.Di ⟨a,prev,b,4,Ad,next,i,⟨ok,os,d,on⟩,c,root,⟨f,j,es⟩,m,n⟩).toArray⟩):=by
 have k:=Hq (fun W=>Hj 4 W);rw[show Y6 4= .tuple #[Gt false false true false true,true]from rfl]at k;have l:=Hq (show Rc.Di ⟨a,prev,b,4,Ad,next,i,⟨ok,os,d,on⟩,c,root,⟨f,j,es⟩,m,n⟩=Rc.Gf ⟨a,prev,b,4,Ad,next,i,⟨ok,os,d,on⟩,c,root,⟨f,j,es⟩,m,n⟩++Rc.Gc ⟨a,prev,b,4,Ad,next,i,⟨ok,os,d,on⟩,c,root,⟨f,j,es⟩,m,n⟩from rfl);rw[Rc.Wo rfl]at l;generalize Rc.Di ⟨a,prev,b,4,Ad,next,i,⟨ok,os,d,on⟩,c,root,⟨f,j,es⟩,m,n⟩=bb at l ⊢;go_enter Tryz.func207,Tryz.ntmps207
 go_upto_region 3 with((go_at_call 245;(with_reducible refine(k.out _).mono ?_);rintro e B ⟨rfl,o⟩))
 have p:=Hq (Pu (R:=(Cn a prev b 4 Ad next i ok os d on c root f j es (T) (D))) (F:=#[false,false,true,false,true]) o);obtain⟨V,A⟩:=ex ((B.alloc (.cells #[false,false,true,false,true] 228)).alloc (.cells #[.pointer none,"s"] 237));rw[← A]at p ⊢;clear A;have r:=Aa p.out.br;have s:=Aa p.out.bf;clear o k
 go_upto_region 4 with((go_at_call 255;refine(p.out.Lf 1 (by omega) 4 (by simp only[List.length_nil];omega)).mono ?_;rintro e v1 ⟨rfl,g⟩;have H1:=Hq g;clear g;have t:=Aa H1.out.br;have u:=Aa H1.out.bf))
 clear r s p
 go_upto_region 17 with((go_at_call 255;refine(H1.out.iX 6 (by omega) a prev b (by simp only[List.length_append,Ch,List.length_nil];omega)).mono ?_;rintro e v2 ⟨rfl,g⟩;have q:=Hq g;clear g;have v:=Aa q.out.br;have x:=Aa q.out.bf))
 clear t u H1
 go_upto_region 20 with((go_at_call 255;refine(q.out.Lf 6 (by omega) next (by simp only[List.length_append,Ch,List.length_nil];omega)).mono ?_;rintro e v3 ⟨rfl,g⟩;have y:=Hq g;clear g;have C:=Aa y.out.br;have E:=Aa y.out.bf))
 clear v x q
 go_wp2_with((go_at_call 176;refine(y.out.done (by intro h;have:=congrArg List.length h;simp only[List.length_append,Ch,List.length_nil]at this;omega)).mono ?_;rintro e G ⟨rfl,z⟩))
 go_ret;refine⟨?_,z⟩;rw[l.out]
 simp[Rc.Gf,List.append_assoc]
theorem cO (a prev b Ad next i ok os d root j es:Int)(f on g:ByteArray)(m:List Rc.Be)(n:List Rc.Bx)(T D:Value)(M:f.size≤65535)(N:on.size≤65535)(_ze:g.size≤65535)(w:World):
 Cr 207 #[.agg (Cn a prev b 8 Ad next i ok os f on d root g j es (T) (D))] w (.string ⟨(Rc.Di ⟨a,prev,b,8,Ad,next,i,⟨ok,os,f,on⟩,d,root,⟨g,j,es⟩,m,n⟩).toArray⟩):=by
 have k:=Hq (fun W=>Hj 8 W);rw[show Y6 8= .tuple #[Gt true false false false true,true]from rfl]at k;have l:=Hq (show Rc.Di ⟨a,prev,b,8,Ad,next,i,⟨ok,os,f,on⟩,d,root,⟨g,j,es⟩,m,n⟩=Rc.Gf ⟨a,prev,b,8,Ad,next,i,⟨ok,os,f,on⟩,d,root,⟨g,j,es⟩,m,n⟩++Rc.Gc ⟨a,prev,b,8,Ad,next,i,⟨ok,os,f,on⟩,d,root,⟨g,j,es⟩,m,n⟩from rfl);rw[Rc.Re rfl]at l;generalize Rc.Di ⟨a,prev,b,8,Ad,next,i,⟨ok,os,f,on⟩,d,root,⟨g,j,es⟩,m,n⟩=bb at l ⊢;go_enter Tryz.func207,Tryz.ntmps207
 go_upto_region 3 with((go_at_call 245;(with_reducible refine(k.out _).mono ?_);rintro e O ⟨rfl,o⟩))
 have p:=Hq (Pu (R:=(Cn a prev b 8 Ad next i ok os f on d root g j es (T) (D))) (F:=#[true,false,false,false,true]) o);obtain⟨V,L⟩:=ex ((O.alloc (.cells #[true,false,false,false,true] 228)).alloc (.cells #[.pointer none,"s"] 237));rw[← L]at p ⊢;clear L;have u:=Aa p.out.br;have v:=Aa p.out.bf;clear o k
 go_upto_region 4 with((go_at_call 255;refine(p.out.Lf 1 (by omega) 8 (by simp only[List.length_nil];omega)).mono ?_;rintro e v1 ⟨rfl,c⟩;have H1:=Hq c;clear c;have x:=Aa H1.out.br;have y:=Aa H1.out.bf))
 clear u v p
 go_upto_region 6 with((go_at_call 255;refine(H1.out.iX 6 (by omega) a prev b (by simp only[List.length_append,Ch,List.length_nil];omega)).mono ?_;rintro e v2 ⟨rfl,c⟩;have q:=Hq c;clear c;have z:=Aa q.out.br;have A:=Aa q.out.bf))
 clear x y H1
 go_upto_region 7 with((go_at_call 255;refine(q.out.Lf 3 (by omega) Ad (by simp only[List.length_append,Ch,List.length_nil];omega)).mono ?_;rintro e v3 ⟨rfl,c⟩;have r:=Hq c;clear c;have B:=Aa r.out.br;have C:=Aa r.out.bf))
 clear z A q
 go_upto_region 8 with((go_at_call 255;refine(r.out.Lf 1 (by omega) ok (by simp only[List.length_append,Ch,List.length_nil];omega)).mono ?_;rintro e v4 ⟨rfl,c⟩;have s:=Hq c;clear c;have E:=Aa s.out.br;have G:=Aa s.out.bf))
 clear B C r
 go_upto_region 9 with((go_at_call 255;refine(s.out.Lf 2 (by omega) os (by simp only[List.length_append,Ch,List.length_nil];omega)).mono ?_;rintro e v5 ⟨rfl,c⟩;have t:=Hq c;clear c;have H:=Aa t.out.br;have I:=Aa t.out.bf))
 clear E G s
 go_upto_region 20 with((go_at_call 256;refine(t.out.oL f on M N (by simp only[List.length_append,Ch,List.length_nil];omega)).mono ?_;rintro e v6 ⟨rfl,c⟩;have J:=Hq c;clear c;have P:=Aa J.out.br;have Q:=Aa J.out.bf))
 clear H I t
 go_wp2_with((go_at_call 176;refine(J.out.done (by intro h;have:=congrArg List.length h;simp only[List.length_append,Ch,List.length_nil]at this;omega)).mono ?_;rintro e S ⟨rfl,K⟩))
 go_ret;refine⟨?_,K⟩;rw[l.out]
 simp[Rc.Gf,Rc.M1,List.append_assoc]
theorem oM (b prev c Ad next i ok os d root j es:Int)(f on g:ByteArray)(m:List Rc.Be)(n:List Rc.Bx)(T D:Value)(P:f.size≤65535)(Q:on.size≤65535)(_ze:g.size≤65535)(w:World):
 Cr 207 #[.agg (Cn b prev c 3 Ad next i ok os f on d root g j es (T) (D))] w (.string ⟨(Rc.Di ⟨b,prev,c,3,Ad,next,i,⟨ok,os,f,on⟩,d,root,⟨g,j,es⟩,m,n⟩).toArray⟩):=by
 have k:=Hq (fun W=>Hj 3 W);rw[show Y6 3= .tuple #[Gt true false true false true,true]from rfl]at k;have l:=Hq (show Rc.Di ⟨b,prev,c,3,Ad,next,i,⟨ok,os,f,on⟩,d,root,⟨g,j,es⟩,m,n⟩=Rc.Gf ⟨b,prev,c,3,Ad,next,i,⟨ok,os,f,on⟩,d,root,⟨g,j,es⟩,m,n⟩++Rc.Gc ⟨b,prev,c,3,Ad,next,i,⟨ok,os,f,on⟩,d,root,⟨g,j,es⟩,m,n⟩from rfl);rw[Rc.Rd rfl]at l;generalize Rc.Di ⟨b,prev,c,3,Ad,next,i,⟨ok,os,f,on⟩,d,root,⟨g,j,es⟩,m,n⟩=bb at l ⊢;go_enter Tryz.func207,Tryz.ntmps207
 go_upto_region 3 with((go_at_call 245;(with_reducible refine(k.out _).mono ?_);rintro e S ⟨rfl,o⟩))
 have p:=Hq (Pu (R:=(Cn b prev c 3 Ad next i ok os f on d root g j es (T) (D))) (F:=#[true,false,true,false,true]) o);obtain⟨V,O⟩:=ex ((S.alloc (.cells #[true,false,true,false,true] 228)).alloc (.cells #[.pointer none,"s"] 237));rw[← O]at p ⊢;clear O;have v:=Aa p.out.br;have x:=Aa p.out.bf;clear o k
 go_upto_region 4 with((go_at_call 255;refine(p.out.Lf 1 (by omega) 3 (by simp only[List.length_nil];omega)).mono ?_;rintro e v1 ⟨rfl,a⟩;have H1:=Hq a;clear a;have y:=Aa H1.out.br;have z:=Aa H1.out.bf))
 clear v x p
 go_upto_region 6 with((go_at_call 255;refine(H1.out.iX 6 (by omega) b prev c (by simp only[List.length_append,Ch,List.length_nil];omega)).mono ?_;rintro e v2 ⟨rfl,a⟩;have q:=Hq a;clear a;have A:=Aa q.out.br;have B:=Aa q.out.bf))
 clear y z H1
 go_upto_region 7 with((go_at_call 255;refine(q.out.Lf 3 (by omega) Ad (by simp only[List.length_append,Ch,List.length_nil];omega)).mono ?_;rintro e v3 ⟨rfl,a⟩;have r:=Hq a;clear a;have C:=Aa r.out.br;have E:=Aa r.out.bf))
 clear A B q
 go_upto_region 8 with((go_at_call 255;refine(r.out.Lf 1 (by omega) ok (by simp only[List.length_append,Ch,List.length_nil];omega)).mono ?_;rintro e v4 ⟨rfl,a⟩;have s:=Hq a;clear a;have G:=Aa s.out.br;have H:=Aa s.out.bf))
 clear C E r
 go_upto_region 9 with((go_at_call 255;refine(s.out.Lf 2 (by omega) os (by simp only[List.length_append,Ch,List.length_nil];omega)).mono ?_;rintro e v5 ⟨rfl,a⟩;have t:=Hq a;clear a;have I:=Aa t.out.br;have J:=Aa t.out.bf))
 clear G H s
 go_upto_region 17 with((go_at_call 256;refine(t.out.oL f on P Q (by simp only[List.length_append,Ch,List.length_nil];omega)).mono ?_;rintro e v6 ⟨rfl,a⟩;have u:=Hq a;clear a;have K:=Aa u.out.br;have L:=Aa u.out.bf))
 clear I J t
 go_upto_region 20 with((go_at_call 255;refine(u.out.Lf 6 (by omega) next (by simp only[List.length_append,Ch,Oe,List.length_nil];omega)).mono ?_;rintro e Y ⟨rfl,a⟩;have M:=Hq a;clear a;have U:=Aa M.out.br;have X:=Aa M.out.bf))
 clear K L u
 go_wp2_with((go_at_call 176;refine(M.out.done (by intro h;have:=congrArg List.length h;simp only[List.length_append,Ch,List.length_nil]at this;omega)).mono ?_;rintro e Z ⟨rfl,N⟩))
 go_ret;refine⟨?_,N⟩;rw[l.out]
 simp[Rc.Gf,Rc.M1,List.append_assoc]
theorem Zm (c prev d Ad next k ok os b root j es:Int)(f on g:ByteArray)(o:List Rc.Be)(p:List Rc.Bx)(T D:Value)(zo:f.size≤65535)(zn:on.size≤65535)(ze:g.size≤65535)(w:World):
 Cr 207 #[.agg (Cn c prev d 2 Ad next k ok os f on b root g j es (T) (D))] w (.string ⟨(Rc.Di ⟨c,prev,d,2,Ad,next,k,⟨ok,os,f,on⟩,b,root,⟨g,j,es⟩,o,p⟩).toArray⟩):=by
 have l:=Hq (fun W=>Hj 2 W);rw[show Y6 2= .tuple #[Gt true true false false true,true]from rfl]at l;have i:=Hq (show Rc.Di ⟨c,prev,d,2,Ad,next,k,⟨ok,os,f,on⟩,b,root,⟨g,j,es⟩,o,p⟩=Rc.Gf ⟨c,prev,d,2,Ad,next,k,⟨ok,os,f,on⟩,b,root,⟨g,j,es⟩,o,p⟩++Rc.Gc ⟨c,prev,d,2,Ad,next,k,⟨ok,os,f,on⟩,b,root,⟨g,j,es⟩,o,p⟩from rfl);rw[Rc.O0 rfl]at i;generalize Rc.Di ⟨c,prev,d,2,Ad,next,k,⟨ok,os,f,on⟩,b,root,⟨g,j,es⟩,o,p⟩=bb at i ⊢;go_enter Tryz.func207,Tryz.ntmps207
 go_upto_region 3 with((go_at_call 245;(with_reducible refine(l.out _).mono ?_);rintro e w1 ⟨rfl,q⟩))
 have r:=Hq (Pu (R:=(Cn c prev d 2 Ad next k ok os f on b root g j es (T) (D))) (F:=#[true,true,false,false,true]) q);obtain⟨V,hV⟩:=ex ((w1.alloc (.cells #[true,true,false,false,true] 228)).alloc (.cells #[.pointer none,"s"] 237));rw[← hV]at r ⊢;clear hV;have C:=Aa r.out.br;have E:=Aa r.out.bf;clear q l
 go_upto_region 4 with((go_at_call 255;refine(r.out.Lf 1 (by omega) 2 (by simp only[List.length_nil];omega)).mono ?_;rintro e v1 ⟨rfl,a⟩;have H1:=Hq a;clear a;have G:=Aa H1.out.br;have H:=Aa H1.out.bf))
 clear C E r
 go_upto_region 6 with((go_at_call 255;refine(H1.out.iX 6 (by omega) c prev d (by simp only[List.length_append,Ch,List.length_nil];omega)).mono ?_;rintro e v2 ⟨rfl,a⟩;have t:=Hq a;clear a;have I:=Aa t.out.br;have J:=Aa t.out.bf))
 clear G H H1
 go_upto_region 7 with((go_at_call 255;refine(t.out.Lf 3 (by omega) Ad (by simp only[List.length_append,Ch,List.length_nil];omega)).mono ?_;rintro e v3 ⟨rfl,a⟩;have u:=Hq a;clear a;have K:=Aa u.out.br;have L:=Aa u.out.bf))
 clear I J t
 go_upto_region 8 with((go_at_call 255;refine(u.out.Lf 1 (by omega) ok (by simp only[List.length_append,Ch,List.length_nil];omega)).mono ?_;rintro e v4 ⟨rfl,a⟩;have v:=Hq a;clear a;have M:=Aa v.out.br;have N:=Aa v.out.bf))
 clear K L u
 go_upto_region 9 with((go_at_call 255;refine(v.out.Lf 2 (by omega) os (by simp only[List.length_append,Ch,List.length_nil];omega)).mono ?_;rintro e v5 ⟨rfl,a⟩;have x:=Hq a;clear a;have O:=Aa x.out.br;have P:=Aa x.out.bf))
 clear M N v
 go_upto_region 11 with((go_at_call 256;refine(x.out.oL f on zo zn (by simp only[List.length_append,Ch,List.length_nil];omega)).mono ?_;rintro e v6 ⟨rfl,a⟩;have y:=Hq a;clear a;have Q:=Aa y.out.br;have S:=Aa y.out.bf))
 clear O P x
 go_upto_region 12 with((go_at_call 255;refine(y.out.Lf 1 (by omega) b (by simp only[List.length_append,Ch,Oe,List.length_nil];omega)).mono ?_;rintro e v7 ⟨rfl,a⟩;have s:=Hq a;clear a;have U:=Aa s.out.br;have X:=Aa s.out.bf))
 clear Q S y
 by_cases z:b=1
 ·subst z
  go_upto_region 20 with fail
  go_wp2_with((go_at_call 176;refine(s.out.done (by intro h;have:=congrArg List.length h;simp only[List.length_append,Ch,List.length_nil]at this;omega)).mono ?_;rintro e w9 ⟨rfl,m⟩))
  go_ret;refine⟨?_,m⟩;rw[i.out]
  simp[Rc.Gf,Rc.M1,Rc.Nv,List.append_assoc]
 ·have ad:(b != 1)=true:=by simpa using z
  have HH:=Hq z;clear z;go_upto_region 13 with fail
  go_upto_region 14 with((go_at_call 255;refine(s.out.yE 3 (by omega) root j (by simp only[List.length_append,Ch,Oe,List.length_nil];omega)).mono ?_;rintro e v8 ⟨rfl,a⟩;have A:=Hq a;clear a;have Y:=Aa A.out.br;have Z:=Aa A.out.bf))
  clear U X s
  go_upto_region 15 with((go_at_call 255;refine(A.out.Lf 2 (by omega) es (by simp only[List.length_append,Ch,Oe,List.length_nil];omega)).mono ?_;rintro e v9 ⟨rfl,a⟩;have B:=Hq a;clear a;have a1:=Aa B.out.br;have a6:=Aa B.out.bf))
  clear Y Z A
  go_upto_region 20 with((go_at_call 256;refine(B.out.wR g ze (by simp only[List.length_append,Ch,Oe,List.length_nil];omega)).mono ?_;rintro e v10 ⟨rfl,a⟩;have n:=Hq a;clear a;have a8:=Aa n.out.br;have aa:=Aa n.out.bf))
  clear a1 a6 B
  go_wp2_with((go_at_call 176;refine(n.out.done (by intro h;have:=congrArg List.length h;simp only[List.length_append,Ch,List.length_nil]at this;omega)).mono ?_;rintro e w9 ⟨rfl,m⟩))
  go_ret;refine⟨?_,m⟩;rw[i.out];have a7:=HH.out
  simp[a7,Rc.Gf,Rc.M1,Rc.Nv,List.append_assoc]
theorem Sk {b:Nat}{l:List UInt8}{v:World}(h:Hl (b+1) b l v)(size:Nat)(a:size≤8)(x:Int)(hlen:l.length+8≤140737488355328):
 Cq 255 #[.pointer (some ⟨b,0,none⟩),.int .i64 (size:Int),.slice (some ⟨v.heap.size,0,none⟩) 1 1] (v.alloc (.cells #[x] 3)) fun e w'=>e= .returned (.tuple #[])∧Hl (b+1) b (l++Rc.p x size) w'∧C8 (b+1) b v w':=by
 have f:=I6 h;refine(Sj (b+1) b v.heap.size l size a [x] _ (h.below (Ac v _)) (by simp;omega) (heap_alloc_new v _) (by omega) (by simpa using hlen)).mono ?_;rintro e w' ⟨rfl,c,d⟩;exact⟨rfl,by simpa using c,(C8.Es (Ac v _)).trans d⟩
theorem wS {b:Nat}{l:List UInt8}{v:World}(h:Hl (b+1) b l v)(size:Nat)(a:size≤8)(x y z:Int)(hlen:l.length+24≤140737488355328):
 Cq 255 #[.pointer (some ⟨b,0,none⟩),.int .i64 (size:Int),.slice (some ⟨v.heap.size,0,none⟩) 3 3] (v.alloc (.cells #[x,y,z] 3)) fun e w'=>e= .returned (.tuple #[])∧Hl (b+1) b (l++(Rc.p x size++(Rc.p y size++Rc.p z size))) w'∧C8 (b+1) b v w':=by
 have f:=I6 h;refine(Sj (b+1) b v.heap.size l size a [x,y,z] _ (h.below (Ac v _)) (by simp;omega) (heap_alloc_new v _) (by omega) (by simpa using hlen)).mono ?_;rintro e w' ⟨rfl,c,d⟩;exact⟨rfl,by simpa using c,(C8.Es (Ac v _)).trans d⟩
theorem jA (t:Rc.Be):(Rc.Oz t).length=19:=by unfold Rc.Oz;simp only[List.length_append,Ch]
theorem Zn (t:Rc.Bx):(Rc.Hi t).length=9:=by unfold Rc.Hi;simp only[List.length_append,Ch]
theorem Zo (a:List Rc.Be):(a.flatMap Rc.Oz).length=a.length*19:=by
 induction a with
 |nil=>rfl
 |cons t a ih=>rw[List.flatMap_cons,List.length_append,jA,ih,List.length_cons];omega
theorem cP (a:List Rc.Bx):(a.flatMap Rc.Hi).length=a.length*9:=by
 induction a with
 |nil=>rfl
 |cons t a ih=>rw[List.flatMap_cons,List.length_append,Zn,ih,List.length_cons];omega
theorem U6 {α:Type}(f:α→List UInt8)(xs:List α){k:Nat}(hk:k<xs.length):(xs.take (k+1)).flatMap f=(xs.take k).flatMap f++f xs[k]:=by
 rw[List.take_add_one,List.flatMap_append,List.getElem?_eq_getElem hk]
 simp
theorem jB (b:Nat)(l:List UInt8)(y prev z kind Ad next M ok os C root ep es:Int)(oo on ek:ByteArray)(m:List Rc.Be)(q:List Rc.Bx)(A D:Option Addr)(c d:Nat)(u:World)(h:Hl (b+1) b l u)
 (hT:∀ v,C8 (b+1) b u v→Xx v A c m) (hD:∀ v,C8 (b+1) b u v→rZ v D d q) (hl:l.length≤1000000) (ht:m.length≤1048576) (hd:q.length≤1048576):
 Cq 257 #[.pointer (some ⟨b,0,none⟩),.agg (Cn y prev z kind Ad next M ok os oo on C root ek ep es (.slice A m.length c) (.slice D q.length d))] u fun e w'=>e= .returned (.tuple #[])∧Hl (b+1) b (l++(Rc.p M 6++(Rc.p m.length 2++(m.flatMap Rc.Oz++(Rc.p q.length 2++q.flatMap Rc.Hi))))) w'∧C8 (b+1) b u w':=by
 have aj:=I6 h;obtain⟨L1,N⟩:=ex (l++Rc.p M 6);obtain⟨L2,O⟩:=ex (L1++Rc.p m.length 2);obtain⟨L3,P⟩:=ex (L2++m.flatMap Rc.Oz);obtain⟨L4,Q⟩:=ex (L3++Rc.p q.length 2);have z1:L1.length=l.length+6:=by rw[N,List.length_append,Ch]
 have z2:L2.length=l.length+8:=by rw[O,List.length_append,Ch,z1]
 have z3:L3.length=l.length+8+m.length*19:=by rw[P,List.length_append,Zo,z2]
 have z4:L4.length=l.length+10+m.length*19:=by rw[Q,List.length_append,Ch,z3];omega
 have aa:=Hq (show l++(Rc.p M 6++(Rc.p m.length 2++(m.flatMap Rc.Oz++(Rc.p q.length 2++q.flatMap Rc.Hi))))=L4++q.flatMap Rc.Hi by rw[Q,P,O,N];simp only[List.append_assoc]);have ak:=Hq N;have al:=Hq O;have an:=Hq P;have ao:=Hq Q;have V:=Hq (And.intro z1 (And.intro z2 (And.intro z3 (And.intro z4 (And.intro hl (And.intro ht hd))))));have HT:=Hq hT;have HD:=Hq hD;have HW:=Hq h;clear N O P Q z1 z2 z3 z4 hT hD h;go_enter Tryz.func257,Tryz.ntmps257;go_upto_region 1 with fail;have W:=Hq (HW.out.below (Ac u (.cells (Cn y prev z kind Ad next M ok os oo on C root ek ep es (.slice A m.length c) (.slice D q.length d)) 49)));have X:=Hq (C8.Es (B:=b+1) (b:=b) (Ac u (.cells (Cn y prev z kind Ad next M ok os oo on C root ek ep es (.slice A m.length c) (.slice D q.length d)) 49)));have E:=Hq (heap_alloc_new u (.cells (Cn y prev z kind Ad next M ok os oo on C root ek ep es (.slice A m.length c) (.slice D q.length d)) 49));obtain⟨a,ha⟩:=ex u.heap.size;obtain⟨v0,ad⟩:=ex (u.alloc (.cells (Cn y prev z kind Ad next M ok os oo on C root ek ep es (.slice A m.length c) (.slice D q.length d)) 49));rw[← ad]at W X E ⊢;rw[← ha]at E ⊢;have R:a≠b:=by omega
 clear ad ha aj HW;have aq:=Aa E.out
 go_upto_region 2 with((go_at_call 255;refine(Sk W.out 6 (by omega) M (by have:=V.out;omega)).mono ?_;rintro e v1 ⟨rfl,n,hk⟩))
 rw[← ak.out]at n;have ae:=Hq n;have af:=Hq (X.out.trans hk);have Y:=Hq (hk.at_ E.out R (by decide));clear aq W X E n hk;have ar:=Aa Y.out
 go_upto_region 3 with((go_at_call 255;refine(Sk ae.out 2 (by omega) m.length (by have:=V.out;omega)).mono ?_;rintro e v2 ⟨rfl,n,hk⟩))
 rw[← al.out]at n;have ag:=Hq n;have Z:=Hq (af.out.trans hk);have a1:=Hq (hk.at_ Y.out R (by decide));clear ar ae af Y n hk;have au:=Aa a1.out;go_wp2_with fail;clear au
 go_loopw [23] (fun i wr=>∃ k:Nat,k≤m.length∧i= .int .i64 k∧Hl (b+1) b (L2++(m.take k).flatMap Rc.Oz) wr∧C8 (b+1) b v2 wr) (fun i _=>m.length-(intOf i).toNat)
 case atStart=>exact⟨0,Nat.zero_le _,rfl,by simpa using ag.out,C8.refl _ _ _⟩
 case round=>
  obtain⟨k,hk,rfl,F,G⟩:=hrel;have j:=Hq F;have o:=Hq G;clear F G
  by_cases H:k<m.length
  ·obtain⟨g,off,rfl,hc,a6,f⟩:=Bz Dr (HT.out wr (Z.out.trans o.out)) H
   have S:=f 0 _ rfl;have q1:=f 1 _ rfl;have q2:=f 2 _ rfl;have q3:=f 3 _ rfl;simp only[Nat.add_zero]at S;have w:=Hq (U6 Rc.Oz m H);have r:=Hq (Zo (m.take k));rw[List.length_take]at r;generalize m[k]=x at S q1 q2 q3 w;obtain⟨xt,xl,xn,xd⟩:=x;dsimp only at S q1 q2 q3;clear f
   go_upto_region 6 with((with_reducible refine sN #[xt,xl,xn,xd] ?_))
   have I:=Hq (heap_alloc_new wr (.cells #[xt,xl,xn,xd] 59));have s:=Hq (j.out.below (Ac wr (.cells #[xt,xl,xn,xd] 59)));have t:=Hq (o.out.trans (C8.Es (Ac wr (.cells #[xt,xl,xn,xd] 59))));have J:wr.heap.size≠b:=(by have:=I6 j.out;omega);obtain⟨xa,K⟩:=ex wr.heap.size;obtain⟨v3,L⟩:=ex (wr.alloc (.cells #[xt,xl,xn,xd] 59));rw[← L]at I s t ⊢;rw[← K]at I J ⊢;clear S q1 q2 q3 L K j o a6;have hX:=Aa I.out
   go_upto_region 7 with((go_at_call 255;refine(wS s.out 6 (by omega) xt xl xn (by have:=V.out;have:=r.out;rw[List.length_append];omega)).mono ?_;rintro e v4 ⟨rfl,n,hk⟩))
   have T:=Hq n;have U:=Hq (t.out.trans hk);have a7:=Hq (hk.at_ I.out J (by decide));clear hX s t I n hk;have av:=Aa a7.out
   cases xd with
   |true=>
    go_wp2_with((go_at_call 255;refine(Sk T.out 1 (by omega) 1 (by have:=V.out;have:=r.out;simp only[List.length_append,Ch];omega)).mono ?_;rintro e v5 ⟨rfl,n,hk⟩))
    go_roundw
    case rel=>exact⟨k+1,by omega,by go_num,by rw[w.out];simpa[Rc.Oz,List.append_assoc]using n,U.out.trans hk⟩
    case measure=>simp[intOf];omega
   |false=>
    go_wp2_with((go_at_call 255;refine(Sk T.out 1 (by omega) 0 (by have:=V.out;have:=r.out;simp only[List.length_append,Ch];omega)).mono ?_;rintro e v5 ⟨rfl,n,hk⟩))
    go_roundw
    case rel=>exact⟨k+1,by omega,by go_num,by rw[w.out];simpa[Rc.Oz,List.append_assoc]using n,U.out.trans hk⟩
    case measure=>simp[intOf];omega
  ·obtain rfl:k=m.length:=by omega
   obtain⟨v6,rfl⟩:=ex wr;rw[List.take_length,← an.out]at j;have ah:=Hq (Z.out.trans o.out);have a8:=Hq (o.out.at_ a1.out R (by decide));have aw:=Aa a8.out
   go_upto_region 13 with((go_at_call 255;refine(Sk j.out 2 (by omega) q.length (by have:=V.out;omega)).mono ?_;rintro e v7 ⟨rfl,n,hk⟩))
   rw[← ao.out]at n;have ax:=Hq n;have ai:=Hq (ah.out.trans hk);have ay:=Hq (hk.at_ a8.out R (by decide));clear aw j o ah a8 ag Z a1 n hk;have az:=Aa ay.out;go_wp2_with fail;clear az
   go_loopw [52] (fun i wr=>∃ k:Nat,k≤q.length∧i= .int .i64 k∧Hl (b+1) b (L4++(q.take k).flatMap Rc.Hi) wr∧C8 (b+1) b v7 wr) (fun i _=>q.length-(intOf i).toNat)
   case atStart=>exact⟨0,Nat.zero_le _,rfl,by simpa using ax.out,C8.refl _ _ _⟩
   case round=>
    obtain⟨k,hk,rfl,F,G⟩:=hrel;have j:=Hq F;have o:=Hq G;clear F G
    by_cases H:k<q.length
    ·obtain⟨g,off,rfl,hc,a6,f⟩:=Bz M5 (HD.out wr (ai.out.trans o.out)) H
     have S:=f 0 _ rfl;have q1:=f 1 _ rfl;simp only[Nat.add_zero]at S;have w:=Hq (U6 Rc.Hi q H);have r:=Hq (cP (q.take k));rw[List.length_take]at r;generalize q[k]=x at S q1 w;obtain⟨xp,xf⟩:=x;dsimp only at S q1;clear f
     go_upto_region 16 with((with_reducible refine sN #[xp,xf] ?_))
     have I:=Hq (heap_alloc_new wr (.cells #[xp,xf] 138));have s:=Hq (j.out.below (Ac wr (.cells #[xp,xf] 138)));have t:=Hq (o.out.trans (C8.Es (Ac wr (.cells #[xp,xf] 138))));have J:wr.heap.size≠b:=(by have:=I6 j.out;omega);obtain⟨xa,K⟩:=ex wr.heap.size;obtain⟨v3,L⟩:=ex (wr.alloc (.cells #[xp,xf] 138));rw[← L]at I s t ⊢;rw[← K]at I J ⊢;clear S q1 L K j o a6;have hX:=Aa I.out
     go_upto_region 17 with((go_at_call 255;refine(Sk s.out 3 (by omega) xp (by have:=V.out;have:=r.out;rw[List.length_append];omega)).mono ?_;rintro e v4 ⟨rfl,n,hk⟩))
     have T:=Hq n;have U:=Hq (t.out.trans hk);have a7:=Hq (hk.at_ I.out J (by decide));clear hX s t I n hk;have av:=Aa a7.out
     go_wp2_with((go_at_call 255;refine(Sk T.out 6 (by omega) xf (by have:=V.out;have:=r.out;simp only[List.length_append,Ch];omega)).mono ?_;rintro e v5 ⟨rfl,n,hk⟩))
     go_roundw
     case rel=>exact⟨k+1,by omega,by go_num,by rw[w.out];simpa[Rc.Hi,List.append_assoc]using n,U.out.trans hk⟩
     case measure=>simp[intOf];omega
    ·obtain rfl:k=q.length:=by omega
     rw[List.take_length,← aa.out]at j;have b0:=Hq (ai.out.trans o.out);go_wp2_with fail
     first|go_end0|go_ret
     exact⟨rfl,j.out,b0.out⟩
end Go.Proofs.YtmfkhdhnbkambaaGreatDoor
namespace Rc
theorem Zp {r:Rec}(h:Bu r):r.op.By.size≤65535∧r.op.new.size≤65535∧r.e.key.size≤65535∧r.txns.length≤1048576∧r.dirty.length≤1048576∧1≤r.kind∧r.kind≤9:=by
 have m:Jo.By.size=0:=rfl;have o:Jo.new.size=0:=rfl;have p:Ce.key.size=0:=rfl
 cases h with
 |small kind a prev b hk d f g=>
  unfold bare;refine⟨by show Jo.By.size≤_;omega,by show Jo.new.size≤_;omega,by show Ce.key.size≤_;omega,by simp,by simp,?_,?_⟩<;>simp only<;>omega
 |change a prev b Ad op how root e d f g j c k=>
  obtain⟨_,_,_,o1,l⟩:=c;have q:e.key.size≤65535:=by
   rcases k with⟨_,_,i⟩|⟨_,_,_,_,i⟩
   ·simp only at i;rw[i];omega
   ·simp only at i;omega
  exact⟨by simp only;omega,by simp only;omega,q,by simp,by simp,by simp only;omega,by simp only;omega⟩
 |clr a prev b Ad op next d f g j c k=>
  obtain⟨_,_,_,o1,l⟩:=c;exact⟨by simp only;omega,by simp only;omega,by show Ce.key.size≤_;omega,by simp,by simp,by simp only;omega,by simp only;omega⟩
 |nest a prev b next d f g k=>
  exact⟨by show Jo.By.size≤_;omega,by show Jo.new.size≤_;omega,by show Ce.key.size≤_;omega,by simp,by simp,by simp only;omega,by simp only;omega⟩
 |image a prev b Ad op d f g j c=>
  obtain⟨_,_,_,o1,l⟩:=c;exact⟨by simp only;omega,by simp only;omega,by show Ce.key.size≤_;omega,by simp,by simp,by simp only;omega,by simp only;omega⟩
 |check a prev b n ts ds d f g j c=>
  obtain⟨s,t,_,_⟩:=c;simp only at s t;exact⟨by show Jo.By.size≤_;omega,by show Jo.new.size≤_;omega,by show Ce.key.size≤_;omega,by simp only;omega,by simp only;omega,by simp only;omega,by simp only;omega⟩
end Rc
namespace Go.Proofs.YtmfkhdhnbkambaaGreatDoor
open Go.RowKit
theorem Wr.By {w u v:World}{a f b:Nat}{R F:Array Value}{l:List UInt8}(h:Wr w a f b R F l u)(hk:C8 (b+1) b u v):Bw w v:=
 h.below.trans (hk.below (by have:=h.ab;have:=h.low;omega) (by have:=h.ab;have:=h.low;omega) h.below.size)
theorem cQ (a prev b Ad next j ok os f root k es:Int)(l on m:ByteArray)(g:List Rc.Be)(i:List Rc.Bx)(A D:Option Addr)(c d:Nat)(K:g.length≤1048576)(L:i.length≤1048576)(w:World)(G:Xx w A c g)(H:rZ w D d i):
 Cr 207 #[.agg (Cn a prev b 9 Ad next j ok os l on f root m k es (.slice A g.length c) (.slice D i.length d))] w (.string ⟨(Rc.Di ⟨a,prev,b,9,Ad,next,j,⟨ok,os,l,on⟩,f,root,⟨m,k,es⟩,g,i⟩).toArray⟩):=by
 have o:=Hq (fun W=>Hj 9 W);rw[show Y6 9= .tuple #[Gt false false false true true,true]from rfl]at o;have p:=Hq (show Rc.Di ⟨a,prev,b,9,Ad,next,j,⟨ok,os,l,on⟩,f,root,⟨m,k,es⟩,g,i⟩=Rc.Gf ⟨a,prev,b,9,Ad,next,j,⟨ok,os,l,on⟩,f,root,⟨m,k,es⟩,g,i⟩++Rc.Gc ⟨a,prev,b,9,Ad,next,j,⟨ok,os,l,on⟩,f,root,⟨m,k,es⟩,g,i⟩from rfl);rw[Rc.fL rfl]at p;have M:=Hq G;have N:=Hq H;clear G H;generalize Rc.Di ⟨a,prev,b,9,Ad,next,j,⟨ok,os,l,on⟩,f,root,⟨m,k,es⟩,g,i⟩=bb at p ⊢;go_enter Tryz.func207,Tryz.ntmps207
 go_upto_region 3 with((go_at_call 245;(with_reducible refine(o.out _).mono ?_);rintro e O ⟨rfl,q⟩))
 have r:=Hq (Pu (R:=(Cn a prev b 9 Ad next j ok os l on f root m k es (.slice A g.length c) (.slice D i.length d))) (F:=#[false,false,false,true,true]) q);obtain⟨V,I⟩:=ex ((O.alloc (.cells #[false,false,false,true,true] 228)).alloc (.cells #[.pointer none,"s"] 237));rw[← I]at r ⊢;clear I;have u:=Aa r.out.br;have x:=Aa r.out.bf;clear q o
 go_upto_region 4 with((go_at_call 255;refine(r.out.Lf 1 (by omega) 9 (by simp only[List.length_nil];omega)).mono ?_;rintro e v1 ⟨rfl,s⟩;have H1:=Hq s;clear s;have y:=Aa H1.out.br;have z:=Aa H1.out.bf))
 clear u x r
 go_upto_region 19 with((go_at_call 255;refine(H1.out.iX 6 (by omega) a prev b (by simp only[List.length_append,Ch,List.length_nil];omega)).mono ?_;rintro e v2 ⟨rfl,s⟩;have n:=Hq s;clear s;have B:=Aa n.out.br;have C:=Aa n.out.bf))
 clear y z H1;have t:=Hq (jB _ _ a prev b 9 Ad next j ok os f root k es l on m g i A D c d v2 n.out.wr (fun v hk=>M.out.below (n.out.By hk)) (fun v hk=>N.out.below (n.out.By hk)) (by simp only[List.length_append,Ch,List.length_nil];omega) K L)
 go_upto_region 20 with(first
  |with_reducible refine lL n.out.br C5 ?_
  |(go_at_call 257;(with_reducible refine t.out.mono ?_);rintro e v3 ⟨rfl,J,hk⟩;have P:=Hq (n.out.Uk J hk);clear J hk))
 clear B C n t
 go_wp2_with((go_at_call 176;refine(P.out.done (by intro h;have:=congrArg List.length h;simp only[List.length_append,Ch,List.length_nil]at this;omega)).mono ?_;rintro e Q ⟨rfl,E⟩))
 go_ret;refine⟨?_,E⟩;rw[p.out]
 simp[Rc.Gf,Rc.Sa,List.append_assoc]
theorem oN (x:Rc.Rec)(n:Rc.Bu x)(A D:Option Addr)(c d:Nat)(w:World)(m:Ig w x A c D d):
 Cr 207 #[D9 x (.slice A x.txns.length c) (.slice D x.dirty.length d)] w (.string ⟨(Rc.Di x).toArray⟩):=by
 obtain⟨f,z2,z3,z4,z5,o,p⟩:=Rc.Zp n;obtain⟨a,prev,b,kind,Ad,next,g,⟨ok,os,h,on⟩,e,root,⟨i,j,es⟩,k,l⟩:=x;simp only at f z2 z3 z4 z5 o p;have h9:kind=2∨kind=3∨kind=4∨kind=8∨kind=9∨kind=1∨kind=5∨kind=6∨kind=7:=by omega
 rcases h9 with rfl|rfl|rfl|rfl|rfl|h9
 ·exact Zm a prev b Ad next g ok os e root j es h on i k l _ _ f z2 z3 w
 ·exact oM a prev b Ad next g ok os e root j es h on i k l _ _ f z2 z3 w
 ·exact iZ a prev b Ad next g ok os e root j es h on i k l _ _ f z2 z3 w
 ·exact cO a prev b Ad next g ok os e root j es h on i k l _ _ f z2 z3 w
 ·exact cQ a prev b Ad next g ok os e root j es h on i k l A D c d z4 z5 w m.txns m.dirty
 ·exact iY kind h9 a prev b Ad next g ok os e root j es h on i k l _ _ f z2 z3 w
end Go.Proofs.YtmfkhdhnbkambaaGreatDoor
