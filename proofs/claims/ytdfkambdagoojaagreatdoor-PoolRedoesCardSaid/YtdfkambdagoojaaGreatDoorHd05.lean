import Derived.Test.YtdfkambdagoojaaGreatDoorHd00
import Derived.Test.YtdfkambdagoojaaGreatDoorHd04
import Derived.BigRegion
import Derived.Test.YtdfkambdagoojaaGreatDoorHd01
set_option maxRecDepth 100000
set_option maxHeartbeats 16000000
set_option linter.unusedSimpArgs false
namespace Go.Proofs.YtdfkambdagoojaaGreatDoor
open Go.RowKit
def Ee:Array Value:=((List.range 10).flatMap fun k=>[Value.bool (k==2||k==3||k==8),.bool (k==2),.bool (k==3||k==4),.bool (k==9),.bool (k != 0)]).toArray
theorem Us:(Tryz.prog.info? 244).map (·.size)=some Ee.size:=by kernel_rfl
theorem lW (w:World):
 Cr 256 #[] w (.agg Ee):=by
 go_enter Tryz.func256,Tryz.ntmps256
 go_wp2_with(with_reducible refine L1 rfl 244 (.tmp 0) (.tmp 10) rfl Ee _ _ rfl Kr Kr Us Kr ?_)
 exact bodyPost_ret (v:=.agg Ee) (X8 rfl _ _ rfl (Ge (heap_alloc_new w _) Adg rfl Us)) rfl ⟨rfl,Ag _ _⟩
abbrev M6 (a b c d e:Bool):Value:=.agg #[a,b,c,d,e]
def uQ (k:Int):Value:=.tuple #[M6 (k==2||k==3||k==8) (k==2) (k==3||k==4) (k==9) (decide (1≤k∧k≤9)),.bool (decide (1≤k∧k≤9))]
theorem uR {k:Int}(h:¬ (0≤k∧k≤9)):uQ k= .tuple #[M6 false false false false false,false]:=by
 have a:(k==2)=false:=by simp;omega
 have b:(k==3)=false:=by simp;omega
 have c:(k==4)=false:=by simp;omega
 have d:(k==8)=false:=by simp;omega
 have e:(k==9)=false:=by simp;omega
 have f:decide (1≤k∧k≤9)=false:=decide_eq_false (by omega);unfold uQ;rw[a,b,c,d,e,f]
 rfl
theorem bH (W:World):(Instr.index 244 (.agg Ee) (.int .i64 ((0:Nat):Int))).run Tryz.prog W= .ok (.agg (Ee.extract (0*5) (0*5+5))) W:=by kernel_rfl
theorem bI (W:World):(Instr.index 244 (.agg Ee) (.int .i64 ((1:Nat):Int))).run Tryz.prog W= .ok (.agg (Ee.extract (1*5) (1*5+5))) W:=by kernel_rfl
theorem bJ (W:World):(Instr.index 244 (.agg Ee) (.int .i64 ((2:Nat):Int))).run Tryz.prog W= .ok (.agg (Ee.extract (2*5) (2*5+5))) W:=by kernel_rfl
theorem bK (W:World):(Instr.index 244 (.agg Ee) (.int .i64 ((3:Nat):Int))).run Tryz.prog W= .ok (.agg (Ee.extract (3*5) (3*5+5))) W:=by kernel_rfl
theorem bL (W:World):(Instr.index 244 (.agg Ee) (.int .i64 ((4:Nat):Int))).run Tryz.prog W= .ok (.agg (Ee.extract (4*5) (4*5+5))) W:=by kernel_rfl
theorem bM (W:World):(Instr.index 244 (.agg Ee) (.int .i64 ((5:Nat):Int))).run Tryz.prog W= .ok (.agg (Ee.extract (5*5) (5*5+5))) W:=by kernel_rfl
theorem bN (W:World):(Instr.index 244 (.agg Ee) (.int .i64 ((6:Nat):Int))).run Tryz.prog W= .ok (.agg (Ee.extract (6*5) (6*5+5))) W:=by kernel_rfl
theorem bO (W:World):(Instr.index 244 (.agg Ee) (.int .i64 ((7:Nat):Int))).run Tryz.prog W= .ok (.agg (Ee.extract (7*5) (7*5+5))) W:=by kernel_rfl
theorem bP (W:World):(Instr.index 244 (.agg Ee) (.int .i64 ((8:Nat):Int))).run Tryz.prog W= .ok (.agg (Ee.extract (8*5) (8*5+5))) W:=by kernel_rfl
theorem bQ (W:World):(Instr.index 244 (.agg Ee) (.int .i64 ((9:Nat):Int))).run Tryz.prog W= .ok (.agg (Ee.extract (9*5) (9*5+5))) W:=by kernel_rfl
theorem fD (k:Nat)(a:k<10)(W:World):(Instr.index 244 (.agg Ee) (.int .i64 (k:Int))).run Tryz.prog W= .ok (.agg (Ee.extract (k*5) (k*5+5))) W:=by
 have a:k=0∨k=1∨k=2∨k=3∨k=4∨k=5∨k=6∨k=7∨k=8∨k=9:=by omega
 rcases a with rfl|rfl|rfl|rfl|rfl|rfl|rfl|rfl|rfl|rfl
 ·exact bH W
 ·exact bI W
 ·exact bJ W
 ·exact bK W
 ·exact bL W
 ·exact bM W
 ·exact bN W
 ·exact bO W
 ·exact bP W
 ·exact bQ W
theorem Ov (k:Nat)(a b c d e:Bool)(p:k<10)(h:(Ee.extract (k*5) (k*5+5))=#[.bool a,.bool b,.bool c,.bool d,.bool e])(w:World):
 Cr 236 #[.int .i64 (k:Int)] w (.tuple #[M6 a b c d e,e]):=by
 have g:=fD k p;rw[h]at g;clear h;have B:((k:Int)<0)=False:=by simp
 have r:(k:Int)≤9:=by omega
 generalize hF:Ee=F at g;clear p;go_enter Tryz.func236,Tryz.ntmps236
 go_upto_region 4 with((go_at_call 256;(with_reducible refine(lW _).mono ?_);rintro x j ⟨rfl,l⟩;rw[hF];have m:=Hq l;clear l))
 have s:j.heap.size≠w.heap.size:=by have:=m.out.size;simp at this;omega
 have n:w.heap.size<j.heap.size:=by have:=m.out.size;simp at this;omega
 have f:=Hq (show(j.alloc (.cells #[a,b,c,d,e] 223)).heap[w.heap.size]? =some (.cells #[false,false,false,false,false] 223 (0,0))from by
  rw[Below.heap_alloc _ _ _ n];exact Cn m.out)
 have i:=Hq (heap_alloc_new j (.cells #[a,b,c,d,e] 223));have q:=Hq (Ak (o:=.cells #[a,b,c,d,e] 223) (Af (Ag _ _) m.out));generalize j.alloc (.cells #[a,b,c,d,e] 223)=V at f i q ⊢;have c0:=Aa i.out 0;have c1:=Aa i.out 1;have c2:=Aa i.out 2;have c3:=Aa i.out 3;have c4:=Aa i.out 4;have t:=Aa f.out 0;have u:=Aa f.out 1;have y:=Aa f.out 2;have z:=Aa f.out 3;have A:=Aa f.out 4;have z0:=Aj f.out 0;have C:=Aj f.out 1;have z2:=Aj f.out 2;have z3:=Aj f.out 3;have z4:=Aj f.out 4
 simp at c0 c1 c2 c3 c4 t u y z A
 clear g hF
 go_region
 all_goals
  go_wp2_with fail;refine bodyPost_ret (v:=.tuple #[M6 a b c d e,e]) (by simp[results,Tryz.results236,go_sem, *]) rfl ⟨rfl,(((((q.out.setCell (Nat.le_refl _) _).setCell (Nat.le_refl _) _).setCell (Nat.le_refl _) _).setCell (Nat.le_refl _) _).setCell (Nat.le_refl _) _).drew⟩
theorem Rk (k:Int)(w:World):
 Cr 236 #[k] w (uQ k):=by
 by_cases h:0≤k∧k≤9
 ·obtain⟨n,rfl⟩:=Int.eq_ofNat_of_zero_le h.1
  have a:n=0∨n=1∨n=2∨n=3∨n=4∨n=5∨n=6∨n=7∨n=8∨n=9:=by omega
  rcases a with rfl|rfl|rfl|rfl|rfl|rfl|rfl|rfl|rfl|rfl
  ·exact Ov 0 _ _ _ _ _ (by omega) Kr w
  ·exact Ov 1 _ _ _ _ _ (by omega) Kr w
  ·exact Ov 2 _ _ _ _ _ (by omega) Kr w
  ·exact Ov 3 _ _ _ _ _ (by omega) Kr w
  ·exact Ov 4 _ _ _ _ _ (by omega) Kr w
  ·exact Ov 5 _ _ _ _ _ (by omega) Kr w
  ·exact Ov 6 _ _ _ _ _ (by omega) Kr w
  ·exact Ov 7 _ _ _ _ _ (by omega) Kr w
  ·exact Ov 8 _ _ _ _ _ (by omega) Kr w
  ·exact Ov 9 _ _ _ _ _ (by omega) Kr w
 ·rw[uR h]
  by_cases b:k<0
  ·clear h
   go_enter Tryz.func236,Tryz.ntmps236;go_wp2_with fail;exact bodyPost_ret (v:=.tuple #[M6 false false false false false,false]) (by simp[results,Tryz.results236,go_sem]) rfl ⟨rfl,Ag _ _⟩
  ·have c:0≤k:=by omega
   have d:9<k:=(by omega);clear h b;go_enter Tryz.func236,Tryz.ntmps236;go_wp2_with fail;exact bodyPost_ret (v:=.tuple #[M6 false false false false false,false]) (by simp[results,Tryz.results236,go_sem]) rfl ⟨rfl,Ag _ _⟩
theorem fE (o:Rc.Op)(w:World):
 Cr 239 #[Ou o] w (.bool (decide (Rc.Jr o))):=by
 obtain⟨k,s,o,n⟩:=o
 by_cases t:1≤k
 rotate_left
 ·have g0:k<1:=by omega
  clear t;rw[show decide (Rc.Jr ⟨k,s,o,n⟩)=false from decide_eq_false (fun h=>by obtain⟨g,j,f,i,l⟩:=h;simp only at g j f i l;omega)];go_enter Tryz.func239,Tryz.ntmps239;go_wp2_with fail;go_ret;exact⟨by simp[*],Ag _ _⟩
 by_cases g:k≤7
 rotate_left
 ·have g1:7<k:=by omega
  clear g;rw[show decide (Rc.Jr ⟨k,s,o,n⟩)=false from decide_eq_false (fun h=>by obtain⟨g,j,f,i,l⟩:=h;simp only at g j f i l;omega)];go_enter Tryz.func239,Tryz.ntmps239;go_wp2_with fail;go_ret;exact⟨by simp[*],Ag _ _⟩
 cases m:decide (Rc.sl s)with
 |false=>
  rw[show decide (Rc.Jr ⟨k,s,o,n⟩)=false from decide_eq_false (fun h=>by obtain⟨g,j,f,i,l⟩:=h;simp only at g j f i l;exact of_decide_eq_false m f)];have p:=Hq m;clear m;go_enter Tryz.func239,Tryz.ntmps239
  go_wp2_with(first|(go_at_call 258;(with_reducible refine(Ot s _ _ ?_).mono ?_);(first|with_reducible exact heap_alloc_new _ _|with_reducible exact Gt _ _ _);rintro e q ⟨rfl,a⟩;rw[p.out];have b:=Fj (heap_alloc_new w _) a;have c:=Aa b 2;have d:=Aa b 3;clear b;simp at c d))
  go_ret;exact⟨by simp[*],Af (Ak (Ag _ _)) a⟩
 |true=>
 have p:=Hq m;have r:=Hq (of_decide_eq_true m);clear m
 by_cases f:(o.size:Int)≤512
 rotate_left
 ·have g3:512<(o.size:Int):=by omega
  clear f;rw[show decide (Rc.Jr ⟨k,s,o,n⟩)=false from decide_eq_false (fun h=>by obtain⟨g,j,f,i,l⟩:=h;simp only at g j f i l;omega)];go_enter Tryz.func239,Tryz.ntmps239
  go_wp2_with(first|(go_at_call 258;(with_reducible refine(Ot s _ _ ?_).mono ?_);(first|with_reducible exact heap_alloc_new _ _|with_reducible exact Gt _ _ _);rintro e q ⟨rfl,a⟩;rw[p.out];have b:=Fj (heap_alloc_new w _) a;have c:=Aa b 2;have d:=Aa b 3;clear b;simp at c d))
  go_ret;exact⟨by simp[*],Af (Ak (Ag _ _)) a⟩
 by_cases i:(n.size:Int)≤512
 rotate_left
 ·have g4:512<(n.size:Int):=by omega
  clear i;rw[show decide (Rc.Jr ⟨k,s,o,n⟩)=false from decide_eq_false (fun h=>by obtain⟨g,j,f,i,l⟩:=h;simp only at g j f i l;omega)];go_enter Tryz.func239,Tryz.ntmps239
  go_wp2_with(first|(go_at_call 258;(with_reducible refine(Ot s _ _ ?_).mono ?_);(first|with_reducible exact heap_alloc_new _ _|with_reducible exact Gt _ _ _);rintro e q ⟨rfl,a⟩;rw[p.out];have b:=Fj (heap_alloc_new w _) a;have c:=Aa b 2;have d:=Aa b 3;clear b;simp at c d))
  go_ret;exact⟨by simp[*],Af (Ak (Ag _ _)) a⟩
 rw[show decide (Rc.Jr ⟨k,s,o,n⟩)=true from decide_eq_true ⟨by assumption,by assumption,r.out,by show o.size≤512;omega,by show n.size≤512;omega⟩];go_enter Tryz.func239,Tryz.ntmps239
 go_wp2_with(first|(go_at_call 258;(with_reducible refine(Ot s _ _ ?_).mono ?_);(first|with_reducible exact heap_alloc_new _ _|with_reducible exact Gt _ _ _);rintro e q ⟨rfl,a⟩;rw[p.out];have b:=Fj (heap_alloc_new w _) a;have c:=Aa b 2;have d:=Aa b 3;clear b;simp at c d))
 go_ret;exact⟨by simp[*],Af (Ak (Ag _ _)) a⟩
theorem qM (r:Rc.Rec)(T D:Value)(w:World):
 Cr 240 #[Dp r T D] w (.bool (decide (Rc.F7 r))):=by
 obtain⟨p,prev,q,kind,Ab,next,num,⟨ok,os,B,on⟩,j,root,⟨l,k,es⟩,C,E⟩:=r;have H:=Hq (fun W=>Od ⟨l,k,es⟩ ⟨⟨#[]⟩,0,0⟩ W)
 by_cases A:j=1
 ·subst A
  by_cases G:root=0
  ·subst G
   have I:=H.out;have O:=Hq (show decide (Rc.F7 ⟨p,prev,q,kind,Ab,next,num,⟨ok,os,B,on⟩,1,0,⟨l,k,es⟩,C,E⟩)=decide ((⟨l,k,es⟩:Rc.Key)=⟨⟨#[]⟩,0,0⟩)from decide_eq_decide.2 ⟨fun h=>by
    rcases h with⟨_,_,J⟩|⟨x,_⟩
    ·exact J
    ·simp only at x;omega,fun h=>.inl ⟨rfl,rfl,h⟩⟩)
   rw[O.out];generalize decide ((⟨l,k,es⟩:Rc.Key)=⟨⟨#[]⟩,0,0⟩)=b at I ⊢;go_enter Tryz.func240,Tryz.ntmps240;go_wp2_with fail;go_ret;exact⟨by simp,Ag _ _⟩
  ·have U:(root==0)=false:=by simp[G]
   rw[show decide (Rc.F7 ⟨p,prev,q,kind,Ab,next,num,⟨ok,os,B,on⟩,1,root,⟨l,k,es⟩,C,E⟩)=false from decide_eq_false (fun h=>by
    rcases h with⟨_,J,_⟩|⟨x,_⟩
    ·exact G J
    ·simp only at x;omega)]
   clear G;go_enter Tryz.func240,Tryz.ntmps240;go_wp2_with fail;go_ret;exact⟨by simp,Ag _ _⟩
 ·have P:(j==1)=false:=by simp[A]
  have m:=Hq (show ∀ (h:¬ ((j=2∨j=3)∧Rc.pg root∧Rc.pg k∧Rc.sl es∧l.size≤100)),decide (Rc.F7 ⟨p,prev,q,kind,Ab,next,num,⟨ok,os,B,on⟩,j,root,⟨l,k,es⟩,C,E⟩)=false from fun h=>decide_eq_false (fun Q=>by
   rcases Q with⟨x,_⟩|x
   ·exact A x
   ·exact h x))
  by_cases K:j=2∨j=3
  rotate_left
  ·rw[m.out (fun h=>K h.1)]
   have R:(j==2)=false:=(by simp;omega);have S:(j==3)=false:=(by simp;omega);clear K A;go_enter Tryz.func240,Tryz.ntmps240;go_wp2_with fail;go_ret;exact⟨by simp,Ag _ _⟩
  rcases K with rfl|rfl
  ·clear A
   cases n:decide (Rc.pg root∧Rc.pg k)with
   |false=>
    rw[m.out (fun h=>of_decide_eq_false n ⟨h.2.1,h.2.2.1⟩)];have s:=Hq n;clear n;go_enter Tryz.func240,Tryz.ntmps240
    go_wp2_with(first|(go_at_call 238;(with_reducible refine(Nq root k _ _ ?_).mono ?_);(first|with_reducible exact heap_alloc_new _ _|with_reducible exact Gt _ _ _);rintro e y ⟨rfl,a⟩;rw[s.out]))
    go_ret;exact⟨by simp,Af (Ak (Ag _ _)) a⟩
   |true=>
    have s:=Hq n;have t:=Hq (of_decide_eq_true n);clear n
    cases o:decide (Rc.sl es)with
    |false=>
     rw[m.out (fun h=>of_decide_eq_false o h.2.2.2.1)];have v:=Hq o;clear o;go_enter Tryz.func240,Tryz.ntmps240
     go_wp2_with(first|(go_at_call 238;(with_reducible refine(Nq root k _ _ ?_).mono ?_);(first|with_reducible exact heap_alloc_new _ _|with_reducible exact Gt _ _ _);rintro e y ⟨rfl,a⟩;rw[s.out];have d:=Fj (heap_alloc_new w _) a;have f:=Aa d 15;have g:=Aa d 13;have u:=Hq d;clear d;simp at f g)|(go_at_call 258;(with_reducible refine(Ot es _ _ ?_).mono ?_);(first|with_reducible exact heap_alloc_new _ _|with_reducible exact Gt _ _ _);rintro e F ⟨rfl,c⟩;rw[v.out];have i:=Aa (Fj u.out c) 13;simp at i))
     go_ret;exact⟨by simp,Af (Ak (Af (Ak (Ag _ _)) a)) c⟩
    |true=>
     have v:=Hq o;have z:=Hq (of_decide_eq_true o);clear o
     by_cases L:(l.size:Int)≤100
     ·have M:=Hq (show decide (Rc.F7 ⟨p,prev,q,kind,Ab,next,num,⟨ok,os,B,on⟩,2,root,⟨l,k,es⟩,C,E⟩)=true from decide_eq_true (.inr ⟨by simp,t.out.1,t.out.2,z.out,by show l.size≤100;omega⟩))
      rw[M.out];go_enter Tryz.func240,Tryz.ntmps240
      go_wp2_with(first|(go_at_call 238;(with_reducible refine(Nq root k _ _ ?_).mono ?_);(first|with_reducible exact heap_alloc_new _ _|with_reducible exact Gt _ _ _);rintro e y ⟨rfl,a⟩;rw[s.out];have d:=Fj (heap_alloc_new w _) a;have f:=Aa d 15;have g:=Aa d 13;have u:=Hq d;clear d;simp at f g)|(go_at_call 258;(with_reducible refine(Ot es _ _ ?_).mono ?_);(first|with_reducible exact heap_alloc_new _ _|with_reducible exact Gt _ _ _);rintro e F ⟨rfl,c⟩;rw[v.out];have i:=Aa (Fj u.out c) 13;simp at i))
      go_ret;exact⟨by simp[*],Af (Ak (Af (Ak (Ag _ _)) a)) c⟩
     ·rw[m.out (fun h=>by have:=h.2.2.2.2;omega)]
      have N:100<(l.size:Int):=(by omega);clear L;go_enter Tryz.func240,Tryz.ntmps240
      go_wp2_with(first|(go_at_call 238;(with_reducible refine(Nq root k _ _ ?_).mono ?_);(first|with_reducible exact heap_alloc_new _ _|with_reducible exact Gt _ _ _);rintro e y ⟨rfl,a⟩;rw[s.out];have d:=Fj (heap_alloc_new w _) a;have f:=Aa d 15;have g:=Aa d 13;have u:=Hq d;clear d;simp at f g)|(go_at_call 258;(with_reducible refine(Ot es _ _ ?_).mono ?_);(first|with_reducible exact heap_alloc_new _ _|with_reducible exact Gt _ _ _);rintro e F ⟨rfl,c⟩;rw[v.out];have i:=Aa (Fj u.out c) 13;simp at i))
      go_ret;exact⟨by simp[*],Af (Ak (Af (Ak (Ag _ _)) a)) c⟩
  ·clear A
   cases n:decide (Rc.pg root∧Rc.pg k)with
   |false=>
    rw[m.out (fun h=>of_decide_eq_false n ⟨h.2.1,h.2.2.1⟩)];have s:=Hq n;clear n;go_enter Tryz.func240,Tryz.ntmps240
    go_wp2_with(first|(go_at_call 238;(with_reducible refine(Nq root k _ _ ?_).mono ?_);(first|with_reducible exact heap_alloc_new _ _|with_reducible exact Gt _ _ _);rintro e y ⟨rfl,a⟩;rw[s.out]))
    go_ret;exact⟨by simp,Af (Ak (Ag _ _)) a⟩
   |true=>
    have s:=Hq n;have t:=Hq (of_decide_eq_true n);clear n
    cases o:decide (Rc.sl es)with
    |false=>
     rw[m.out (fun h=>of_decide_eq_false o h.2.2.2.1)];have v:=Hq o;clear o;go_enter Tryz.func240,Tryz.ntmps240
     go_wp2_with(first|(go_at_call 238;(with_reducible refine(Nq root k _ _ ?_).mono ?_);(first|with_reducible exact heap_alloc_new _ _|with_reducible exact Gt _ _ _);rintro e y ⟨rfl,a⟩;rw[s.out];have d:=Fj (heap_alloc_new w _) a;have f:=Aa d 15;have g:=Aa d 13;have u:=Hq d;clear d;simp at f g)|(go_at_call 258;(with_reducible refine(Ot es _ _ ?_).mono ?_);(first|with_reducible exact heap_alloc_new _ _|with_reducible exact Gt _ _ _);rintro e F ⟨rfl,c⟩;rw[v.out];have i:=Aa (Fj u.out c) 13;simp at i))
     go_ret;exact⟨by simp,Af (Ak (Af (Ak (Ag _ _)) a)) c⟩
    |true=>
     have v:=Hq o;have z:=Hq (of_decide_eq_true o);clear o
     by_cases L:(l.size:Int)≤100
     ·have M:=Hq (show decide (Rc.F7 ⟨p,prev,q,kind,Ab,next,num,⟨ok,os,B,on⟩,3,root,⟨l,k,es⟩,C,E⟩)=true from decide_eq_true (.inr ⟨by simp,t.out.1,t.out.2,z.out,by show l.size≤100;omega⟩))
      rw[M.out];go_enter Tryz.func240,Tryz.ntmps240
      go_wp2_with(first|(go_at_call 238;(with_reducible refine(Nq root k _ _ ?_).mono ?_);(first|with_reducible exact heap_alloc_new _ _|with_reducible exact Gt _ _ _);rintro e y ⟨rfl,a⟩;rw[s.out];have d:=Fj (heap_alloc_new w _) a;have f:=Aa d 15;have g:=Aa d 13;have u:=Hq d;clear d;simp at f g)|(go_at_call 258;(with_reducible refine(Ot es _ _ ?_).mono ?_);(first|with_reducible exact heap_alloc_new _ _|with_reducible exact Gt _ _ _);rintro e F ⟨rfl,c⟩;rw[v.out];have i:=Aa (Fj u.out c) 13;simp at i))
      go_ret;exact⟨by simp[*],Af (Ak (Af (Ak (Ag _ _)) a)) c⟩
     ·rw[m.out (fun h=>by have:=h.2.2.2.2;omega)]
      have N:100<(l.size:Int):=(by omega);clear L;go_enter Tryz.func240,Tryz.ntmps240
      go_wp2_with(first|(go_at_call 238;(with_reducible refine(Nq root k _ _ ?_).mono ?_);(first|with_reducible exact heap_alloc_new _ _|with_reducible exact Gt _ _ _);rintro e y ⟨rfl,a⟩;rw[s.out];have d:=Fj (heap_alloc_new w _) a;have f:=Aa d 15;have g:=Aa d 13;have u:=Hq d;clear d;simp at f g)|(go_at_call 258;(with_reducible refine(Ot es _ _ ?_).mono ?_);(first|with_reducible exact heap_alloc_new _ _|with_reducible exact Gt _ _ _);rintro e F ⟨rfl,c⟩;rw[v.out];have i:=Aa (Fj u.out c) 13;simp at i))
      go_ret;exact⟨by simp[*],Af (Ak (Af (Ak (Ag _ _)) a)) c⟩
end Go.Proofs.YtdfkambdagoojaaGreatDoor
namespace Rc
section
open Classical
noncomputable def Et (r:Rec):Bool:=decide (Bz r)
theorem Gu {r:Rec}{b:Bool}(h:Bz r↔b=true):Et r=b:=by
 unfold Et
 cases b with
 |true=>exact decide_eq_true (h.2 rfl)
 |false=>exact decide_eq_false (fun a=>by have:=h.1 a;cases this)
theorem Fo {r:Rec}(h:¬ Bz r):Et r=false:=by unfold Et;exact decide_eq_false h
theorem I0 {r:Rec}(h:Bz r):Et r=true:=by unfold Et;exact decide_eq_true h
theorem Kn {r:Rec}:Et r=true↔Bz r:=by unfold Et;exact decide_eq_true_iff
end
end Rc
namespace Go.Proofs.YtdfkambdagoojaaGreatDoor
open Go.RowKit
structure Hn (w:World) (a f b:Nat) (R F X:Array Value) (u:World):Prop where
 br:u.heap[a]? =some (.cells R 47 (0,0))
 bf:u.heap[f]? =some (.cells F 223 (0,0))
 bx:u.heap[b]? =some (.cells X 47 (0,0))
 ab:a<b∧f<b
 low:w.heap.size≤a
 below:Bw w u
theorem Hn.step {w u v:World}{a f b:Nat}{R F X:Array Value}(h:Hn w a f b R F X u)(c:Bw u v):Hn w a f b R F X v:=
 ⟨Ae h.br c,Ae h.bf c,Ae h.bx c,h.ab,h.low,Af h.below c⟩
theorem Hn.set {w u:World}{a f b:Nat}{R F X:Array Value}(h:Hn w a f b R F X u)(i:Nat)(v:Value):Hn w a f b R F (X.setIfInBounds i v) (u.setCell ⟨b,i,none⟩ v):=
 ⟨by rw[Below.heap_setCell _ _ _ _ (by have:=h.ab;show a≠b;omega)];exact h.br,by rw[Below.heap_setCell _ _ _ _ (by have:=h.ab;show f≠b;omega)];exact h.bf,Cb i h.bx v,h.ab,h.low,h.below.setCell (by have:=h.ab;have:=h.low;show _≤b;omega) v⟩
theorem Hn.drew {w u:World}{a f b:Nat}{R F X:Array Value}(h:Hn w a f b R F X u):Hn w a f b R F X u.drew:=⟨h.br,h.bf,h.bx,h.ab,h.low,h.below.drew⟩
theorem Rl {w w1 w2:World}{R F X:Array Value}{o:Obj}(a:Below (w.alloc (.cells R 47)).heap.size (w.alloc (.cells R 47)) w1)
 (b:Below ((w1.alloc (.cells F 223)).alloc o).heap.size ((w1.alloc (.cells F 223)).alloc o) w2):Hn w w.heap.size w1.heap.size w2.heap.size R F X (w2.alloc (.cells X 47)):=by
 have f:Bw w w1:=Af (Ag _ _) a;have e:Bw w1 w2:=Af (Ak (Ag _ _)) b;have c:=a.size;have d:=b.size
 simp at c d
 refine⟨?_,?_,heap_alloc_new w2 _,⟨by omega,by omega⟩,Nat.le_refl _,Ak (Af f e)⟩
 ·rw[Below.heap_alloc _ _ _ (by omega)];exact Ae (Cn a) e
 ·rw[Below.heap_alloc _ _ _ (by omega)];exact Ae (Km _ _ _) b
end Go.Proofs.YtdfkambdagoojaaGreatDoor
namespace Rc
abbrev N3 (a b c:Int):Prop:=num a∧num b∧num c
theorem uS (a prev b Ab next j c root:Int)(op:Op)(e:Key)(k:List Cw)(l:List Cx):
 Bz ⟨a,prev,b,2,Ab,next,j,op,c,root,e,k,l⟩↔N3 a prev b∧((pg Ab∧Jr op)∧F7 ⟨a,prev,b,2,Ab,next,j,op,c,root,e,k,l⟩)∧(⟨a,prev,b,2,Ab,0,0,op,c,root,e,[],[]⟩:Rec)=⟨a,prev,b,2,Ab,next,j,op,c,root,e,k,l⟩:=by
 constructor
 ·intro h
  have f:=Hh h;have m:=f.change (Or.inl rfl);have n:next=0:=f.noNext (fun h=>by rcases h with h|h<;>cases h);obtain⟨d,g,i⟩:=f.noLists (fun h=>by cases h);simp only at d g i;subst n d g i;exact⟨f.nums,⟨m,f.tree rfl⟩,rfl⟩
 ·rintro⟨⟨m,n,d⟩,⟨⟨g,i⟩,o⟩,p⟩
  rw[← p];exact Bz.change _ _ _ _ _ _ _ _ m n d g i o
theorem uT (a prev b Ab next k c root:Int)(op:Op)(e:Key)(l:List Cw)(m:List Cx):
 Bz ⟨a,prev,b,3,Ab,next,k,op,c,root,e,l,m⟩↔N3 a prev b∧((pg Ab∧Jr op)∧num next)∧(⟨a,prev,b,3,Ab,next,0,op,0,0,D6,[],[]⟩:Rec)=⟨a,prev,b,3,Ab,next,k,op,c,root,e,l,m⟩:=by
 constructor
 ·intro h
  have f:=Hh h;have j:=f.change (Or.inr (Or.inl rfl));obtain⟨g1,g2,g3⟩:=f.noTree (fun h=>by cases h);obtain⟨d,g,i⟩:=f.noLists (fun h=>by cases h);simp only at d g i g1 g2 g3;subst d g i g1 g2 g3;exact⟨f.nums,⟨j,f.next (Or.inl rfl)⟩,rfl⟩
 ·rintro⟨⟨j,n,d⟩,⟨⟨g,i⟩,o⟩,p⟩
  rw[← p];exact Bz.clr _ _ _ _ _ _ j n d g i o
theorem uU (a prev b Ab next l c root:Int)(op:Op)(e:Key)(m:List Cw)(n:List Cx):
 Bz ⟨a,prev,b,8,Ab,next,l,op,c,root,e,m,n⟩↔N3 a prev b∧(pg Ab∧Jr op)∧(⟨a,prev,b,8,Ab,0,0,op,0,0,D6,[],[]⟩:Rec)=⟨a,prev,b,8,Ab,next,l,op,c,root,e,m,n⟩:=by
 constructor
 ·intro h
  have f:=Hh h;have j:=f.change (Or.inr (Or.inr rfl));have k:next=0:=f.noNext (fun h=>by rcases h with h|h<;>cases h);obtain⟨g1,g2,g3⟩:=f.noTree (fun h=>by cases h);obtain⟨d,g,i⟩:=f.noLists (fun h=>by cases h);simp only at d g i g1 g2 g3;subst k d g i g1 g2 g3;exact⟨f.nums,j,rfl⟩
 ·rintro⟨⟨j,k,d⟩,⟨g,i⟩,o⟩
  rw[← o];exact Bz.image _ _ _ _ _ j k d g i
end Rc
namespace Go.Proofs.YtdfkambdagoojaaGreatDoor
open Go.RowKit
theorem Ys (a prev b Ab next p ok os f root j es:Int)(i on k:ByteArray)(n:List Rc.Cw)(o:List Rc.Cx)(A B:Option Addr)(c d:Nat)(w:World)(hr:Hc w ⟨a,prev,b,2,Ab,next,p,⟨ok,os,i,on⟩,f,root,⟨k,j,es⟩,n,o⟩ A c B d):
 Cr 219 #[.agg (Bt a prev b 2 Ab next p ok os i on f root k j es (.slice A n.length c) (.slice B o.length d))] w (.bool (Rc.Et ⟨a,prev,b,2,Ab,next,p,⟨ok,os,i,on⟩,f,root,⟨k,j,es⟩,n,o⟩)):=by
 have z:=Hq (fun W=>Rk 2 W);rw[show uQ 2= .tuple #[M6 true true false false true,true]from rfl]at z;have t:=Hq (fun W g h=>Yq a prev b W g h);obtain⟨Q,hQ⟩:=ex (Rc.Et ⟨a,prev,b,2,Ab,next,p,⟨ok,os,i,on⟩,f,root,⟨k,j,es⟩,n,o⟩);rw[← hQ];have HQ:=Hq hQ;have C:=hr.small;simp only at C;have af:=C.1;have ag:=C.2;have a6:=Hq hr;clear hQ hr C;have O:=Hq (Rc.uS a prev b Ab next p f root ⟨ok,os,i,on⟩ ⟨k,j,es⟩ n o)
 cases M:decide (Rc.num a∧Rc.num prev∧Rc.num b)with
 |false=>
  rw[M]at t;have HF:=Hq (HQ.out.trans (Rc.Fo fun h=>of_decide_eq_false M (O.out.1 h).1));clear M O;go_enter Tryz.func219,Tryz.ntmps219
  go_wp2_with(first
   |(go_at_call 236;(with_reducible refine(z.out _).mono ?_);rintro e D ⟨rfl,l⟩;have u:=Aa (Cn l);have a7:w.heap.size<D.heap.size:=(by have:=l.size;simp at this;omega);have q:=Hq l;clear l)
   |(go_at_call 237;(with_reducible refine(t.out _ _ ?_).mono ?_);(with_reducible exact Gt _ _ _);rintro e x ⟨rfl,m⟩;have P:=Aa (Ae (Cn q.out) (Af (Ak (Ag _ _)) m));have a8:D.heap.size+1<x.heap.size:=(by have:=m.size;simp at this;omega);have E:=Hq m;clear m)
   |with_reducible refine sN (Bt a prev b 2 0 0 0 0 0 ⟨#[]⟩ ⟨#[]⟩ 0 0 ⟨#[]⟩ 0 0 (.slice none 0 0) (.slice none 0 0)) ?_)
  go_ret;exact⟨by rw[HF.out];rfl,Af (Af (Ag _ _) q.out) (Af (Ak (Ag _ _)) E.out)⟩
 |true=>
  rw[M]at t;have HN:=Hq (of_decide_eq_true M);clear M;go_enter Tryz.func219,Tryz.ntmps219
  go_upto_region 5 with(first
   |(go_at_call 236;(with_reducible refine(z.out _).mono ?_);rintro e D ⟨rfl,l⟩;have u:=Aa (Cn l);have a7:w.heap.size<D.heap.size:=(by have:=l.size;simp at this;omega);have q:=Hq l;clear l)
   |(go_at_call 237;(with_reducible refine(t.out _ _ ?_).mono ?_);(with_reducible exact Gt _ _ _);rintro e x ⟨rfl,m⟩;have P:=Aa (Ae (Cn q.out) (Af (Ak (Ag _ _)) m));have a8:D.heap.size+1<x.heap.size:=(by have:=m.size;simp at this;omega);have E:=Hq m;clear m)
   |with_reducible refine sN (Bt a prev b 2 0 0 0 0 0 ⟨#[]⟩ ⟨#[]⟩ 0 0 ⟨#[]⟩ 0 0 (.slice none 0 0) (.slice none 0 0)) ?_)
  have H:=Hq (Rl (R:=(Bt a prev b 2 Ab next p ok os i on f root k j es (.slice A n.length c) (.slice B o.length d))) (F:=#[true,true,false,false,true]) (X:=(Bt a prev b 2 0 0 0 0 0 ⟨#[]⟩ ⟨#[]⟩ 0 0 ⟨#[]⟩ 0 0 (.slice none 0 0) (.slice none 0 0))) q.out E.out);clear u P t z q E;obtain⟨V,hV⟩:=ex (x.alloc (.cells (Bt a prev b 2 0 0 0 0 0 ⟨#[]⟩ ⟨#[]⟩ 0 0 ⟨#[]⟩ 0 0 (.slice none 0 0) (.slice none 0 0)) 47));rw[← hV]at H ⊢;clear hV;have u:=Aa H.out.br;have hF:=Aa H.out.bf
  go_upto_region 6 with(fail)
  go_cut [4] (fun s I=>s= .bool (decide (Rc.pg Ab)&&decide (Rc.Jr ⟨ok,os,i,on⟩))∧Hn w w.heap.size D.heap.size x.heap.size (Bt a prev b 2 Ab next p ok os i on f root k j es (.slice A n.length c) (.slice B o.length d)) #[true,true,false,false,true] (Bt a prev b 2 0 0 0 0 0 ⟨#[]⟩ ⟨#[]⟩ 0 0 ⟨#[]⟩ 0 0 (.slice none 0 0) (.slice none 0 0)) I)
  case first=>
   cases hp:decide (Rc.pg Ab)with
   |false=>
    have S:=Hq hp;clear hp
    go_wp2_with(first|(go_at_call 238;(with_reducible refine(Rj Ab _ _ ?_).mono ?_);(with_reducible exact heap_alloc_new _ _);rintro e w3 ⟨rfl,G⟩;rw[S.out]))
    go_meet
    case rel=>exact⟨by simp[S.out],H.out.step (Af (Ag _ _) G)⟩
   |true=>
    have S:=Hq hp;clear hp;generalize T:decide (Rc.Jr ⟨ok,os,i,on⟩)=qo;have HO:=Hq T;clear T
    go_wp2_with(first|(go_at_call 238;(with_reducible refine(Rj Ab _ _ ?_).mono ?_);(with_reducible exact heap_alloc_new _ _);rintro e w3 ⟨rfl,G⟩;rw[S.out];have ah:=Aa (H.out.step (Af (Ag _ _) G)).br)|(go_at_call 239;(with_reducible refine(fE ⟨ok,os,i,on⟩ _).mono ?_);rintro e w4 ⟨rfl,aa⟩;rw[HO.out]))
    go_meet
    case rel=>exact⟨by simp[S.out,HO.out],(H.out.step (Af (Ag _ _) G)).step aa⟩
  case rest=>
  obtain⟨W1,rfl⟩:=ex wc;obtain⟨rfl,U⟩:=hcut;have H1:=Hq U;clear u hF U H;have u:=Aa H1.out.br;have hF:=Aa H1.out.bf;have J:=Aa H1.out.bx;have K:=Aj H1.out.bx;have ad:w.heap.size≠x.heap.size:=by have:=H1.out.ab;omega
  go_upto_region 7 with(fail)
  go_cut [] (fun I=>Hn w w.heap.size D.heap.size x.heap.size (Bt a prev b 2 Ab next p ok os i on f root k j es (.slice A n.length c) (.slice B o.length d)) #[true,true,false,false,true] (Bt a prev b 2 Ab 0 0 ok os i on 0 0 ⟨#[]⟩ 0 0 (.slice none 0 0) (.slice none 0 0)) I)
  case first=>
   go_region
   all_goals
    go_wp2_with fail;go_meet
    case rel=>
     first
      |(have h:=(((((H1.out.set 4 (.int .i64 Ab)).set 7 (.int .i64 ok)).set 8 (.int .i64 os)).set 9 (.string i)).set 10 (.string on)).drew;simpa using h)
      |(have h:=(((((H1.out.set 7 (.int .i64 ok)).set 8 (.int .i64 os)).set 9 (.string i)).set 10 (.string on)).set 4 (.int .i64 Ab)).drew;simpa using h)
  case rest=>
  obtain⟨W2,rfl⟩:=ex wc;have N:=Hq hcut;clear u hF J K hcut H1;have u:=Aa N.out.br;have hF:=Aa N.out.bf
  go_upto_region 9 with(fail)
  go_cut [4] (fun s I=>s= .bool ((decide (Rc.pg Ab)&&decide (Rc.Jr ⟨ok,os,i,on⟩))&&decide (Rc.F7 ⟨a,prev,b,2,Ab,next,p,⟨ok,os,i,on⟩,f,root,⟨k,j,es⟩,n,o⟩))∧Hn w w.heap.size D.heap.size x.heap.size (Bt a prev b 2 Ab next p ok os i on f root k j es (.slice A n.length c) (.slice B o.length d)) #[true,true,false,false,true] (Bt a prev b 2 Ab 0 0 ok os i on 0 0 ⟨#[]⟩ 0 0 (.slice none 0 0) (.slice none 0 0)) I)
  case first=>
   generalize v:(decide (Rc.pg Ab)&&decide (Rc.Jr ⟨ok,os,i,on⟩))=qa;have Y:=Hq v;clear v
   cases qa with
   |false=>
    go_wp2_with fail;go_meet
    case rel=>exact⟨by simp[Y.out],N.out⟩
   |true=>
    generalize Z:decide (Rc.F7 ⟨a,prev,b,2,Ab,next,p,⟨ok,os,i,on⟩,f,root,⟨k,j,es⟩,n,o⟩)=qt;have HT:=Hq Z;clear Z
    go_wp2_with(first|with_reducible refine lL N.out.br Ca ?_|(go_at_call 240;(with_reducible refine(qM ⟨a,prev,b,2,Ab,next,p,⟨ok,os,i,on⟩,f,root,⟨k,j,es⟩,n,o⟩ (.slice A n.length c) (.slice B o.length d) _).mono ?_);rintro e w5 ⟨rfl,ae⟩;rw[HT.out]))
    go_meet
    case rel=>exact⟨by simp[Y.out,HT.out],N.out.step ae⟩
  case rest=>
  obtain⟨W3,rfl⟩:=ex wc;obtain⟨rfl,a1⟩:=hcut;have r:=Hq a1;clear u hF a1 N;have u:=Aa r.out.br;have hF:=Aa r.out.bf;have J:=Aa r.out.bx;have K:=Aj r.out.bx;have ad:w.heap.size≠x.heap.size:=by have:=r.out.ab;omega
  go_upto_region 10 with(fail)
  go_cut [] (fun I=>Hn w w.heap.size D.heap.size x.heap.size (Bt a prev b 2 Ab next p ok os i on f root k j es (.slice A n.length c) (.slice B o.length d)) #[true,true,false,false,true] (Bt a prev b 2 Ab 0 0 ok os i on f root k j es (.slice none 0 0) (.slice none 0 0)) I)
  case first=>
   go_region
   all_goals
    go_wp2_with fail;go_meet
    case rel=>
     first
      |(have h:=(((((r.out.set 11 (.int .i64 f)).set 12 (.int .i64 root)).set 13 (.string k)).set 14 (.int .i64 j)).set 15 (.int .i64 es)).drew;simpa using h)
      |(have h:=(((((r.out.set 11 (.int .i64 f)).set 13 (.string k)).set 14 (.int .i64 j)).set 15 (.int .i64 es)).set 12 (.int .i64 root)).drew;simpa using h)
      |(have h:=(((((r.out.set 12 (.int .i64 root)).set 11 (.int .i64 f)).set 13 (.string k)).set 14 (.int .i64 j)).set 15 (.int .i64 es)).drew;simpa using h)
      |(have h:=(((((r.out.set 12 (.int .i64 root)).set 13 (.string k)).set 14 (.int .i64 j)).set 15 (.int .i64 es)).set 11 (.int .i64 f)).drew;simpa using h)
      |(have h:=(((((r.out.set 13 (.string k)).set 14 (.int .i64 j)).set 15 (.int .i64 es)).set 11 (.int .i64 f)).set 12 (.int .i64 root)).drew;simpa using h)
      |(have h:=(((((r.out.set 13 (.string k)).set 14 (.int .i64 j)).set 15 (.int .i64 es)).set 12 (.int .i64 root)).set 11 (.int .i64 f)).drew;simpa using h)
  case rest=>
  obtain⟨W4,rfl⟩:=ex wc;have y:=Hq hcut;clear u hF J K hcut r;have u:=Aa y.out.br;have hF:=Aa y.out.bf
  go_upto_region 19 with(fail)
  generalize v:((decide (Rc.pg Ab)&&decide (Rc.Jr ⟨ok,os,i,on⟩))&&decide (Rc.F7 ⟨a,prev,b,2,Ab,next,p,⟨ok,os,i,on⟩,f,root,⟨k,j,es⟩,n,o⟩))=qa;have Y:=Hq v;clear v
  cases qa with
  |false=>
   go_wp2_with fail;go_ret;refine⟨?_,y.out.below⟩;have HF:=HQ.out.trans (Rc.Fo fun h=>by
    have h2:=(O.out.1 h).2.1;have h3:=Y.out;simp only[Bool.and_eq_false_iff,decide_eq_false_iff_not]at h3
    grind)
   rw[HF]
   rfl
  |true=>
   have HS:=Hq (Ur ⟨a,prev,b,2,Ab,0,0,⟨ok,os,i,on⟩,f,root,⟨k,j,es⟩,[],[]⟩ ⟨a,prev,b,2,Ab,next,p,⟨ok,os,i,on⟩,f,root,⟨k,j,es⟩,n,o⟩ none A none B 0 c 0 d W4 ⟨(Reads.none_ _ _ _ _),(Reads.none_ _ _ _ _),⟨by simp,by simp⟩⟩ (a6.out.below y.out.below));dsimp only[Dp,Ec,List.length_nil]at HS
   cases he:decide ((⟨a,prev,b,2,Ab,0,0,⟨ok,os,i,on⟩,f,root,⟨k,j,es⟩,[],[]⟩:Rc.Rec)=⟨a,prev,b,2,Ab,next,p,⟨ok,os,i,on⟩,f,root,⟨k,j,es⟩,n,o⟩)with
   |false=>
    have HE:=Hq he;clear he
    go_wp2_with(first|with_reducible refine lL y.out.bx Ca ?_|with_reducible refine lL y.out.br Ca ?_|(go_at_call 245;(with_reducible refine HS.out.mono ?_);rintro e w9 ⟨rfl,L⟩;rw[HE.out]))
    go_ret;refine⟨?_,Af y.out.below L⟩;rw[HQ.out.trans (Rc.Fo fun h=>of_decide_eq_false HE.out (O.out.1 h).2.2)]
    rfl
   |true=>
    have HE:=Hq he;clear he
    go_wp2_with(first|with_reducible refine lL y.out.bx Ca ?_|with_reducible refine lL y.out.br Ca ?_|(go_at_call 245;(with_reducible refine HS.out.mono ?_);rintro e w9 ⟨rfl,L⟩;rw[HE.out]))
    go_ret;refine⟨?_,Af y.out.below L⟩;rw[HQ.out.trans (Rc.I0 (O.out.2 ⟨HN.out,by have h3:=Y.out;simpa only[Bool.and_eq_true,decide_eq_true_eq]using h3,of_decide_eq_true HE.out⟩))]
    rfl
theorem lX (a prev b Ab next m ok os f root n es:Int)(i on o:ByteArray)(p:List Rc.Cw)(q:List Rc.Cx)(A B:Option Addr)(c d:Nat)(w:World)(hr:Hc w ⟨a,prev,b,3,Ab,next,m,⟨ok,os,i,on⟩,f,root,⟨o,n,es⟩,p,q⟩ A c B d):
 Cr 219 #[.agg (Bt a prev b 3 Ab next m ok os i on f root o n es (.slice A p.length c) (.slice B q.length d))] w (.bool (Rc.Et ⟨a,prev,b,3,Ab,next,m,⟨ok,os,i,on⟩,f,root,⟨o,n,es⟩,p,q⟩)):=by
 have y:=Hq (fun W=>Rk 3 W);rw[show uQ 3= .tuple #[M6 true false true false true,true]from rfl]at y;have r:=Hq (fun W g h=>Yq a prev b W g h);obtain⟨Q,hQ⟩:=ex (Rc.Et ⟨a,prev,b,3,Ab,next,m,⟨ok,os,i,on⟩,f,root,⟨o,n,es⟩,p,q⟩);rw[← hQ];have HQ:=Hq hQ;have z:=hr.small;simp only at z;have af:=z.1;have ag:=z.2;have a6:=Hq hr;clear hQ hr z;have M:=Hq (Rc.uT a prev b Ab next m f root ⟨ok,os,i,on⟩ ⟨o,n,es⟩ p q)
 cases L:decide (Rc.num a∧Rc.num prev∧Rc.num b)with
 |false=>
  rw[L]at r;have HF:=Hq (HQ.out.trans (Rc.Fo fun h=>of_decide_eq_false L (M.out.1 h).1));clear L M;go_enter Tryz.func219,Tryz.ntmps219
  go_wp2_with(first
   |(go_at_call 236;(with_reducible refine(y.out _).mono ?_);rintro e C ⟨rfl,j⟩;have t:=Aa (Cn j);have a7:w.heap.size<C.heap.size:=(by have:=j.size;simp at this;omega);have l:=Hq j;clear j)
   |(go_at_call 237;(with_reducible refine(r.out _ _ ?_).mono ?_);(with_reducible exact Gt _ _ _);rintro e x ⟨rfl,k⟩;have N:=Aa (Ae (Cn l.out) (Af (Ak (Ag _ _)) k));have a8:C.heap.size+1<x.heap.size:=(by have:=k.size;simp at this;omega);have D:=Hq k;clear k)
   |with_reducible refine sN (Bt a prev b 3 0 0 0 0 0 ⟨#[]⟩ ⟨#[]⟩ 0 0 ⟨#[]⟩ 0 0 (.slice none 0 0) (.slice none 0 0)) ?_)
  go_ret;exact⟨by rw[HF.out];rfl,Af (Af (Ag _ _) l.out) (Af (Ak (Ag _ _)) D.out)⟩
 |true=>
  rw[L]at r;have HN:=Hq (of_decide_eq_true L);clear L;go_enter Tryz.func219,Tryz.ntmps219
  go_upto_region 5 with(first
   |(go_at_call 236;(with_reducible refine(y.out _).mono ?_);rintro e C ⟨rfl,j⟩;have t:=Aa (Cn j);have a7:w.heap.size<C.heap.size:=(by have:=j.size;simp at this;omega);have l:=Hq j;clear j)
   |(go_at_call 237;(with_reducible refine(r.out _ _ ?_).mono ?_);(with_reducible exact Gt _ _ _);rintro e x ⟨rfl,k⟩;have N:=Aa (Ae (Cn l.out) (Af (Ak (Ag _ _)) k));have a8:C.heap.size+1<x.heap.size:=(by have:=k.size;simp at this;omega);have D:=Hq k;clear k)
   |with_reducible refine sN (Bt a prev b 3 0 0 0 0 0 ⟨#[]⟩ ⟨#[]⟩ 0 0 ⟨#[]⟩ 0 0 (.slice none 0 0) (.slice none 0 0)) ?_)
  have G:=Hq (Rl (R:=(Bt a prev b 3 Ab next m ok os i on f root o n es (.slice A p.length c) (.slice B q.length d))) (F:=#[true,false,true,false,true]) (X:=(Bt a prev b 3 0 0 0 0 0 ⟨#[]⟩ ⟨#[]⟩ 0 0 ⟨#[]⟩ 0 0 (.slice none 0 0) (.slice none 0 0))) l.out D.out);clear t N r y l D;obtain⟨V,hV⟩:=ex (x.alloc (.cells (Bt a prev b 3 0 0 0 0 0 ⟨#[]⟩ ⟨#[]⟩ 0 0 ⟨#[]⟩ 0 0 (.slice none 0 0) (.slice none 0 0)) 47));rw[← hV]at G ⊢;clear hV;have t:=Aa G.out.br;have hF:=Aa G.out.bf
  go_upto_region 6 with(fail)
  go_cut [4] (fun s O=>s= .bool (decide (Rc.pg Ab)&&decide (Rc.Jr ⟨ok,os,i,on⟩))∧Hn w w.heap.size C.heap.size x.heap.size (Bt a prev b 3 Ab next m ok os i on f root o n es (.slice A p.length c) (.slice B q.length d)) #[true,false,true,false,true] (Bt a prev b 3 0 0 0 0 0 ⟨#[]⟩ ⟨#[]⟩ 0 0 ⟨#[]⟩ 0 0 (.slice none 0 0) (.slice none 0 0)) O)
  case first=>
   cases hp:decide (Rc.pg Ab)with
   |false=>
    have P:=Hq hp;clear hp
    go_wp2_with(first|(go_at_call 238;(with_reducible refine(Rj Ab _ _ ?_).mono ?_);(with_reducible exact heap_alloc_new _ _);rintro e w3 ⟨rfl,E⟩;rw[P.out]))
    go_meet
    case rel=>exact⟨by simp[P.out],G.out.step (Af (Ag _ _) E)⟩
   |true=>
    have P:=Hq hp;clear hp;generalize S:decide (Rc.Jr ⟨ok,os,i,on⟩)=qo;have HO:=Hq S;clear S
    go_wp2_with(first|(go_at_call 238;(with_reducible refine(Rj Ab _ _ ?_).mono ?_);(with_reducible exact heap_alloc_new _ _);rintro e w3 ⟨rfl,E⟩;rw[P.out];have ah:=Aa (G.out.step (Af (Ag _ _) E)).br)|(go_at_call 239;(with_reducible refine(fE ⟨ok,os,i,on⟩ _).mono ?_);rintro e w4 ⟨rfl,aa⟩;rw[HO.out]))
    go_meet
    case rel=>exact⟨by simp[P.out,HO.out],(G.out.step (Af (Ag _ _) E)).step aa⟩
  case rest=>
  obtain⟨W1,rfl⟩:=ex wc;obtain⟨rfl,T⟩:=hcut;have H1:=Hq T;clear t hF T G;have t:=Aa H1.out.br;have hF:=Aa H1.out.bf;have H:=Aa H1.out.bx;have I:=Aj H1.out.bx;have ad:w.heap.size≠x.heap.size:=by have:=H1.out.ab;omega
  go_upto_region 7 with(fail)
  go_cut [] (fun O=>Hn w w.heap.size C.heap.size x.heap.size (Bt a prev b 3 Ab next m ok os i on f root o n es (.slice A p.length c) (.slice B q.length d)) #[true,false,true,false,true] (Bt a prev b 3 Ab 0 0 ok os i on 0 0 ⟨#[]⟩ 0 0 (.slice none 0 0) (.slice none 0 0)) O)
  case first=>
   go_region
   all_goals
    go_wp2_with fail;go_meet
    case rel=>
     first
      |(have h:=(((((H1.out.set 4 (.int .i64 Ab)).set 7 (.int .i64 ok)).set 8 (.int .i64 os)).set 9 (.string i)).set 10 (.string on)).drew;simpa using h)
      |(have h:=(((((H1.out.set 7 (.int .i64 ok)).set 8 (.int .i64 os)).set 9 (.string i)).set 10 (.string on)).set 4 (.int .i64 Ab)).drew;simpa using h)
  case rest=>
  obtain⟨W2,rfl⟩:=ex wc;have U:=Hq hcut;clear t hF H I hcut H1;have t:=Aa U.out.br;have hF:=Aa U.out.bf
  go_upto_region 12 with(fail)
  go_cut [4] (fun s O=>s= .bool ((decide (Rc.pg Ab)&&decide (Rc.Jr ⟨ok,os,i,on⟩))&&decide (Rc.num next))∧Hn w w.heap.size C.heap.size x.heap.size (Bt a prev b 3 Ab next m ok os i on f root o n es (.slice A p.length c) (.slice B q.length d)) #[true,false,true,false,true] (Bt a prev b 3 Ab 0 0 ok os i on 0 0 ⟨#[]⟩ 0 0 (.slice none 0 0) (.slice none 0 0)) O)
  case first=>
   generalize u:(decide (Rc.pg Ab)&&decide (Rc.Jr ⟨ok,os,i,on⟩))=qa;have Y:=Hq u;clear u
   cases qa with
   |false=>
    go_wp2_with fail;go_meet
    case rel=>exact⟨by simp[Y.out],U.out⟩
   |true=>
    generalize Z:decide (Rc.num next)=qt;have HT:=Hq Z;clear Z
    go_wp2_with(first|(go_at_call 237;(with_reducible refine(uP next _ _ ?_).mono ?_);(with_reducible exact heap_alloc_new _ _);rintro e w5 ⟨rfl,ae⟩;rw[HT.out]))
    go_meet
    case rel=>exact⟨by simp[Y.out,HT.out],U.out.step (Af (Ag _ _) ae)⟩
  case rest=>
  obtain⟨W3,rfl⟩:=ex wc;obtain⟨rfl,a1⟩:=hcut;have J:=Hq a1;clear t hF a1 U;have t:=Aa J.out.br;have hF:=Aa J.out.bf;have H:=Aa J.out.bx;have I:=Aj J.out.bx;have ad:w.heap.size≠x.heap.size:=by have:=J.out.ab;omega
  go_upto_region 14 with(fail)
  have h:=J.out.set 5 (.int .i64 next);have v:Hid (Hn w w.heap.size C.heap.size x.heap.size (Bt a prev b 3 Ab next m ok os i on f root o n es (.slice A p.length c) (.slice B q.length d)) #[true,false,true,false,true] (Bt a prev b 3 Ab next 0 ok os i on 0 0 ⟨#[]⟩ 0 0 (.slice none 0 0) (.slice none 0 0)) _):=Hq (by simpa using h);clear h t hF H I J;generalize World.setCell _ _ _=W4 at v ⊢;have t:=Aa v.out.br;have hF:=Aa v.out.bf
  go_upto_region 19 with(fail)
  generalize u:((decide (Rc.pg Ab)&&decide (Rc.Jr ⟨ok,os,i,on⟩))&&decide (Rc.num next))=qa;have Y:=Hq u;clear u
  cases qa with
  |false=>
   go_wp2_with fail;go_ret;refine⟨?_,v.out.below⟩;have HF:=HQ.out.trans (Rc.Fo fun h=>by
    have h2:=(M.out.1 h).2.1;have h3:=Y.out;simp only[Bool.and_eq_false_iff,decide_eq_false_iff_not]at h3
    grind)
   rw[HF]
   rfl
  |true=>
   have HS:=Hq (Ur ⟨a,prev,b,3,Ab,next,0,⟨ok,os,i,on⟩,0,0,⟨⟨#[]⟩,0,0⟩,[],[]⟩ ⟨a,prev,b,3,Ab,next,m,⟨ok,os,i,on⟩,f,root,⟨o,n,es⟩,p,q⟩ none A none B 0 c 0 d W4 ⟨(Reads.none_ _ _ _ _),(Reads.none_ _ _ _ _),⟨by simp,by simp⟩⟩ (a6.out.below v.out.below));dsimp only[Dp,Ec,List.length_nil]at HS
   cases he:decide ((⟨a,prev,b,3,Ab,next,0,⟨ok,os,i,on⟩,0,0,⟨⟨#[]⟩,0,0⟩,[],[]⟩:Rc.Rec)=⟨a,prev,b,3,Ab,next,m,⟨ok,os,i,on⟩,f,root,⟨o,n,es⟩,p,q⟩)with
   |false=>
    have HE:=Hq he;clear he
    go_wp2_with(first|with_reducible refine lL v.out.bx Ca ?_|with_reducible refine lL v.out.br Ca ?_|(go_at_call 245;(with_reducible refine HS.out.mono ?_);rintro e w9 ⟨rfl,K⟩;rw[HE.out]))
    go_ret;refine⟨?_,Af v.out.below K⟩;rw[HQ.out.trans (Rc.Fo fun h=>of_decide_eq_false HE.out (M.out.1 h).2.2)]
    rfl
   |true=>
    have HE:=Hq he;clear he
    go_wp2_with(first|with_reducible refine lL v.out.bx Ca ?_|with_reducible refine lL v.out.br Ca ?_|(go_at_call 245;(with_reducible refine HS.out.mono ?_);rintro e w9 ⟨rfl,K⟩;rw[HE.out]))
    go_ret;refine⟨?_,Af v.out.below K⟩;rw[HQ.out.trans (Rc.I0 (M.out.2 ⟨HN.out,by have h3:=Y.out;simpa only[Bool.and_eq_true,decide_eq_true_eq]using h3,of_decide_eq_true HE.out⟩))]
    rfl
theorem bR (a prev b Ab next n ok os f root o es:Int)(i on p:ByteArray)(q:List Rc.Cw)(r:List Rc.Cx)(A B:Option Addr)(c d:Nat)(w:World)(U:Hc w ⟨a,prev,b,8,Ab,next,n,⟨ok,os,i,on⟩,f,root,⟨p,o,es⟩,q,r⟩ A c B d):
 Cr 219 #[.agg (Bt a prev b 8 Ab next n ok os i on f root p o es (.slice A q.length c) (.slice B r.length d))] w (.bool (Rc.Et ⟨a,prev,b,8,Ab,next,n,⟨ok,os,i,on⟩,f,root,⟨p,o,es⟩,q,r⟩)):=by
 have u:=Hq (fun W=>Rk 8 W);rw[show uQ 8= .tuple #[M6 true false false false true,true]from rfl]at u;have m:=Hq (fun W g h=>Yq a prev b W g h);obtain⟨Q,Y⟩:=ex (Rc.Et ⟨a,prev,b,8,Ab,next,n,⟨ok,os,i,on⟩,f,root,⟨p,o,es⟩,q,r⟩);rw[← Y];have P:=Hq Y;have v:=U.small;simp only at v;have ad:=v.1;have ae:=v.2;have Z:=Hq U;clear Y U v;have I:=Hq (Rc.uU a prev b Ab next n f root ⟨ok,os,i,on⟩ ⟨p,o,es⟩ q r)
 cases H:decide (Rc.num a∧Rc.num prev∧Rc.num b)with
 |false=>
  rw[H]at m;have HF:=Hq (P.out.trans (Rc.Fo fun h=>of_decide_eq_false H (I.out.1 h).1));clear H I;go_enter Tryz.func219,Tryz.ntmps219
  go_wp2_with(first
   |(go_at_call 236;(with_reducible refine(u.out _).mono ?_);rintro e z ⟨rfl,j⟩;have C:=Aa (Cn j);have a1:w.heap.size<z.heap.size:=(by have:=j.size;simp at this;omega);have l:=Hq j;clear j)
   |(go_at_call 237;(with_reducible refine(m.out _ _ ?_).mono ?_);(with_reducible exact Gt _ _ _);rintro e D ⟨rfl,k⟩;have J:=Aa (Ae (Cn l.out) (Af (Ak (Ag _ _)) k));have a6:z.heap.size+1<D.heap.size:=(by have:=k.size;simp at this;omega);have x:=Hq k;clear k)
   |with_reducible refine sN (Bt a prev b 8 0 0 0 0 0 ⟨#[]⟩ ⟨#[]⟩ 0 0 ⟨#[]⟩ 0 0 (.slice none 0 0) (.slice none 0 0)) ?_)
  go_ret;exact⟨by rw[HF.out];rfl,Af (Af (Ag _ _) l.out) (Af (Ak (Ag _ _)) x.out)⟩
 |true=>
  rw[H]at m;have HN:=Hq (of_decide_eq_true H);clear H;go_enter Tryz.func219,Tryz.ntmps219
  go_upto_region 5 with(first
   |(go_at_call 236;(with_reducible refine(u.out _).mono ?_);rintro e z ⟨rfl,j⟩;have C:=Aa (Cn j);have a1:w.heap.size<z.heap.size:=(by have:=j.size;simp at this;omega);have l:=Hq j;clear j)
   |(go_at_call 237;(with_reducible refine(m.out _ _ ?_).mono ?_);(with_reducible exact Gt _ _ _);rintro e D ⟨rfl,k⟩;have J:=Aa (Ae (Cn l.out) (Af (Ak (Ag _ _)) k));have a6:z.heap.size+1<D.heap.size:=(by have:=k.size;simp at this;omega);have x:=Hq k;clear k)
   |with_reducible refine sN (Bt a prev b 8 0 0 0 0 0 ⟨#[]⟩ ⟨#[]⟩ 0 0 ⟨#[]⟩ 0 0 (.slice none 0 0) (.slice none 0 0)) ?_)
  have E:=Hq (Rl (R:=(Bt a prev b 8 Ab next n ok os i on f root p o es (.slice A q.length c) (.slice B r.length d))) (F:=#[true,false,false,false,true]) (X:=(Bt a prev b 8 0 0 0 0 0 ⟨#[]⟩ ⟨#[]⟩ 0 0 ⟨#[]⟩ 0 0 (.slice none 0 0) (.slice none 0 0))) l.out x.out);clear C J m u l x;obtain⟨V,hV⟩:=ex (D.alloc (.cells (Bt a prev b 8 0 0 0 0 0 ⟨#[]⟩ ⟨#[]⟩ 0 0 ⟨#[]⟩ 0 0 (.slice none 0 0) (.slice none 0 0)) 47));rw[← hV]at E ⊢;clear hV;have C:=Aa E.out.br;have hF:=Aa E.out.bf
  go_upto_region 6 with(fail)
  go_cut [4] (fun s we=>s= .bool (decide (Rc.pg Ab)&&decide (Rc.Jr ⟨ok,os,i,on⟩))∧Hn w w.heap.size z.heap.size D.heap.size (Bt a prev b 8 Ab next n ok os i on f root p o es (.slice A q.length c) (.slice B r.length d)) #[true,false,false,false,true] (Bt a prev b 8 0 0 0 0 0 ⟨#[]⟩ ⟨#[]⟩ 0 0 ⟨#[]⟩ 0 0 (.slice none 0 0) (.slice none 0 0)) we)
  case first=>
   cases S:decide (Rc.pg Ab)with
   |false=>
    have K:=Hq S;clear S
    go_wp2_with(first|(go_at_call 238;(with_reducible refine(Rj Ab _ _ ?_).mono ?_);(with_reducible exact heap_alloc_new _ _);rintro e w3 ⟨rfl,y⟩;rw[K.out]))
    go_meet
    case rel=>exact⟨by simp[K.out],E.out.step (Af (Ag _ _) y)⟩
   |true=>
    have K:=Hq S;clear S;generalize L:decide (Rc.Jr ⟨ok,os,i,on⟩)=qo;have HO:=Hq L;clear L
    go_wp2_with(first|(go_at_call 238;(with_reducible refine(Rj Ab _ _ ?_).mono ?_);(with_reducible exact heap_alloc_new _ _);rintro e w3 ⟨rfl,y⟩;rw[K.out];have af:=Aa (E.out.step (Af (Ag _ _) y)).br)|(go_at_call 239;(with_reducible refine(fE ⟨ok,os,i,on⟩ _).mono ?_);rintro e w4 ⟨rfl,a7⟩;rw[HO.out]))
    go_meet
    case rel=>exact⟨by simp[K.out,HO.out],(E.out.step (Af (Ag _ _) y)).step a7⟩
  case rest=>
  obtain⟨W1,rfl⟩:=ex wc;obtain⟨rfl,M⟩:=hcut;have H1:=Hq M;clear C hF M E;have C:=Aa H1.out.br;have hF:=Aa H1.out.bf;have a8:=Aa H1.out.bx;have aa:=Aj H1.out.bx;have ag:w.heap.size≠D.heap.size:=by have:=H1.out.ab;omega
  go_upto_region 7 with(fail)
  go_cut [] (fun we=>Hn w w.heap.size z.heap.size D.heap.size (Bt a prev b 8 Ab next n ok os i on f root p o es (.slice A q.length c) (.slice B r.length d)) #[true,false,false,false,true] (Bt a prev b 8 Ab 0 0 ok os i on 0 0 ⟨#[]⟩ 0 0 (.slice none 0 0) (.slice none 0 0)) we)
  case first=>
   go_region
   all_goals
    go_wp2_with fail;go_meet
    case rel=>
     first
      |(have h:=(((((H1.out.set 4 (.int .i64 Ab)).set 7 (.int .i64 ok)).set 8 (.int .i64 os)).set 9 (.string i)).set 10 (.string on)).drew;simpa using h)
      |(have h:=(((((H1.out.set 7 (.int .i64 ok)).set 8 (.int .i64 os)).set 9 (.string i)).set 10 (.string on)).set 4 (.int .i64 Ab)).drew;simpa using h)
  case rest=>
  obtain⟨W2,rfl⟩:=ex wc;have t:=Hq hcut;clear C hF a8 aa hcut H1;have C:=Aa t.out.br;have hF:=Aa t.out.bf
  go_upto_region 19 with(fail)
  generalize N:(decide (Rc.pg Ab)&&decide (Rc.Jr ⟨ok,os,i,on⟩))=qa;have HA:=Hq N;clear N
  cases qa with
  |false=>
   go_wp2_with fail;go_ret;refine⟨?_,t.out.below⟩;have HF:=P.out.trans (Rc.Fo fun h=>by
    have h2:=(I.out.1 h).2.1;have h3:=HA.out;simp only[Bool.and_eq_false_iff,decide_eq_false_iff_not]at h3
    grind)
   rw[HF]
   rfl
  |true=>
   have HS:=Hq (Ur ⟨a,prev,b,8,Ab,0,0,⟨ok,os,i,on⟩,0,0,⟨⟨#[]⟩,0,0⟩,[],[]⟩ ⟨a,prev,b,8,Ab,next,n,⟨ok,os,i,on⟩,f,root,⟨p,o,es⟩,q,r⟩ none A none B 0 c 0 d W2 ⟨(Reads.none_ _ _ _ _),(Reads.none_ _ _ _ _),⟨by simp,by simp⟩⟩ (Z.out.below t.out.below));dsimp only[Dp,Ec,List.length_nil]at HS
   cases T:decide ((⟨a,prev,b,8,Ab,0,0,⟨ok,os,i,on⟩,0,0,⟨⟨#[]⟩,0,0⟩,[],[]⟩:Rc.Rec)=⟨a,prev,b,8,Ab,next,n,⟨ok,os,i,on⟩,f,root,⟨p,o,es⟩,q,r⟩)with
   |false=>
    have O:=Hq T;clear T
    go_wp2_with(first|with_reducible refine lL t.out.bx Ca ?_|with_reducible refine lL t.out.br Ca ?_|(go_at_call 245;(with_reducible refine HS.out.mono ?_);rintro e w9 ⟨rfl,G⟩;rw[O.out]))
    go_ret;refine⟨?_,Af t.out.below G⟩;rw[P.out.trans (Rc.Fo fun h=>of_decide_eq_false O.out (I.out.1 h).2.2)]
    rfl
   |true=>
    have O:=Hq T;clear T
    go_wp2_with(first|with_reducible refine lL t.out.bx Ca ?_|with_reducible refine lL t.out.br Ca ?_|(go_at_call 245;(with_reducible refine HS.out.mono ?_);rintro e w9 ⟨rfl,G⟩;rw[O.out]))
    go_ret;refine⟨?_,Af t.out.below G⟩;rw[P.out.trans (Rc.I0 (I.out.2 ⟨HN.out,by have h3:=HA.out;simpa only[Bool.and_eq_true,decide_eq_true_eq]using h3,of_decide_eq_true O.out⟩))]
    rfl
theorem fF (x:Rc.Rec)(A B:Option Addr)(c d:Nat)(w:World)(f:Hc w x A c B d)(g:x.kind=2∨x.kind=3∨x.kind=8):
 Cr 219 #[Dp x (.slice A x.txns.length c) (.slice B x.dirty.length d)] w (.bool (Rc.Et x)):=by
 obtain⟨a,prev,b,kind,Ab,next,h,⟨ok,os,i,on⟩,e,root,⟨j,k,es⟩,l,m⟩:=x;rcases(show kind=2∨kind=3∨kind=8 from g)with rfl|rfl|rfl
 ·exact Ys a prev b Ab next h ok os e root k es i on j l m A B c d w f
 ·exact lX a prev b Ab next h ok os e root k es i on j l m A B c d w f
 ·exact bR a prev b Ab next h ok os e root k es i on j l m A B c d w f
def Mt (B b:Nat)(l:List UInt8)(w:World):Prop:=
 b<B∧∃ p v,w.heap[b]? =some (.cells #[p,v] 232 (0,0))∧(p= .pointer none∨p= .pointer (some ⟨b,0,none⟩))∧w.ownsRow B 5 1 v l.length (Lib.byteCells l)
def uV (o:Option Obj):Prop:=∃ cs t fr,o=some (.cells cs t fr)∧t≠5
structure E6 (B b:Nat) (w w':World):Prop where
 os:w'.os=w.os
 tape:w'.tape=w.tape
 output:w'.output=w.output
 size:w.heap.size≤w'.heap.size
 block:∀ k,k<w.heap.size→k≠b→k<B∨uV w.heap[k]?→w'.heap[k]? =w.heap[k]?
theorem E6.refl (B b:Nat)(w:World):E6 B b w w:=⟨rfl,rfl,rfl,Nat.le_refl _,fun _ _ _ _=>rfl⟩
theorem E6.trans {B b:Nat}{u v w:World}(h:E6 B b u v)(k:E6 B b v w):E6 B b u w:=
 ⟨k.os.trans h.os,k.tape.trans h.tape,k.output.trans h.output,Nat.le_trans h.size k.size,fun i a c d=>by
   have e:=h.block i a c d;exact(k.block i (Nat.lt_of_lt_of_le a h.size) c (by rw[e];exact d)).trans e⟩
theorem E6.Jf {B b:Nat}{u v:World}(h:Bw u v):E6 B b u v:=
 ⟨h.os,h.tape,h.output,h.size,fun i a _ _=>h.block i a⟩
theorem E6.below {B b lo:Nat}{u v:World}(h:E6 B b u v)(a:lo≤B)(c:lo≤b)(d:lo≤u.heap.size):Below lo u v:=
 ⟨h.os,h.tape,h.output,h.size,fun i e=>h.block i (by omega) (by omega) (.inl (by omega))⟩
theorem E6.at_ {B b:Nat}{u v:World}(h:E6 B b u v){g:Nat}{cs:Array Value}{t:TypeId}{fr:Nat×Nat}(a:u.heap[g]? =some (.cells cs t fr))(c:g≠b)(d:t≠5):v.heap[g]? =some (.cells cs t fr):=
 (h.block g (C8 a) c (.inr ⟨cs,t,fr,a,d⟩)).trans a
theorem lY {B b:Nat}{l:List UInt8}{w:World}(h:Mt B b l w):b<w.heap.size:=by
 obtain⟨_,p,v,a,_⟩:=h;exact C8 a
theorem Mt.below {B b:Nat}{l:List UInt8}{w w':World}(h:Mt B b l w)(e:Bw w w'):Mt B b l w':=by
 obtain⟨c,p,v,d,f,a⟩:=h;exact⟨c,p,v,Ae d e,f,Ce a e⟩
theorem Mt.fresh (B b:Nat)(w:World)(a:b<B)(h:w.heap[b]? =some (.cells #[.pointer none,'s'] 232 (0,0))):Mt B b [] w:=
 ⟨a,_,_,h,.inl rfl,⟨rfl,.inl ⟨rfl,rfl⟩⟩⟩
theorem Rm (b:Nat)(w:World)(h:w.cell? ⟨b,0,none⟩=some (.pointer none))(c:w.shape? b=some (232,2))(g:w.frozen? ⟨b,0,none⟩=false):
 Cq 214 #[.pointer (some ⟨b,0,none⟩)] w fun e w'=>e= .returned (.tuple #[])∧w'=w.setCell ⟨b,0,none⟩ (.pointer (some ⟨b,0,none⟩)):=by
 obtain⟨j,f,d⟩:=Option.map_eq_some_iff.1 (show(Tryz.prog.info? 186).map (·.size)=some 2 by kernel_rfl);have a:liesAt Tryz.prog Tryz.prog.depth 232 (2/Tryz.prog.cellsOf 232) 0 186 1=true:=by kernel_rfl
 go_enter Tryz.func214,Tryz.ntmps214
 go_wp2
 rw[Lib.run_to_unsafe w ⟨b,0,none⟩ xV xW f (by rw[d];decide) c (Nat.zero_lt_succ 1)];simp only[Result.andThen];rw[Oper.upon_value]
 go_wp2
 rw[run_callFunc_extern Tryz.func231 Kr Kr Kr (e:=Extern.AbiNoEscape.same) Kr];rw[Lib.run_noEscape];simp only[Result.andThen];rw[Oper.upon_value]
 go_wp2
 rw[Lib.run_from_unsafe w ⟨b,0,none⟩ xW xV f c a];simp only[Result.andThen];rw[Oper.upon_value]
 go_wp2
 go_end0
 exact⟨rfl,rfl⟩
theorem setW (B b:Nat)(w:World)(i:Nat)(v:Value):E6 B b w (w.setCell ⟨b,i,none⟩ v):=
 ⟨rfl,rfl,rfl,by simp[World.setCell],fun k _ a _=>Below.heap_setCell _ _ _ _ a⟩
theorem Ut (B b:Nat)(l:List UInt8)(w:World)(h:Mt B b l w):
 Cq 214 #[.pointer (some ⟨b,0,none⟩)] w fun e w'=>e= .returned (.tuple #[])∧
  (b<B∧∃ v,w'.heap[b]? =some (.cells #[.pointer (some ⟨b,0,none⟩),v] 232 (0,0))∧w'.ownsRow B 5 1 v l.length (Lib.byteCells l))∧E6 B b w w':=by
 obtain⟨c,p,v,d,f,a⟩:=h;rcases f with rfl|rfl
 ·refine(Rm b w (by rw[Aa d];rfl) (by simp[World.shape?,d]) (by simp[World.frozen?,d])).mono ?_
  rintro e w' ⟨rfl,rfl⟩;exact⟨rfl,⟨c,v,heap_set w b 0 _ _ _ _ d,Tg c a⟩,setW B b w 0 _⟩
 ·refine(Nd b w (by rw[Aa d];rfl)).mono ?_
  rintro e w' ⟨rfl,rfl⟩;exact⟨rfl,⟨c,v,d,a⟩,E6.refl _ _ _⟩
theorem Uu (B b:Nat)(l:List UInt8)(s:ByteArray)(w:World)(h:Mt B b l w)(hlen:l.length+s.size≤140737488355328)(M:B≤w.heap.size):
 Cq 181 #[.pointer (some ⟨b,0,none⟩),s] w fun e w'=>e= .returned (.tuple #[s.size,.nilIface])∧Mt B b (l++s.data.toList) w'∧E6 B b w w':=by
 obtain⟨i0,N,r,x,y⟩:=info_parts Ir;have O:=Hq (Ut B b l w h);clear h;go_enter Tryz.func181,Tryz.ntmps181
 go_wp2_with(go_at_call 214;refine O.out.mono ?_)
 rintro e z ⟨rfl,⟨o,v,f,c⟩,j⟩;have P:=j.size;have c1:z.cell? ⟨b,1,none⟩=some v:=by rw[Aa f];rfl
 go_wp2_with(at_builtin;refine Lib.wpList_append_own_string _ rfl _ _ 141 9 rfl B 5 i0 Io Ua N r x y _ _ _ rfl c s rfl ?c3 ?c4 ?c5 ?_)
 case c3=>unfold maxLen;omega
 case c4=>omega
 case c5=>omega
 intro Q w2 d a _;have A:b<z.heap.size:=C8 f;have C:v.ownBlock≠some b:=fun e=>by
  have:=(c.lt b e).1;omega
 have m:w2.heap[b]? =some (.cells #[.pointer (some ⟨b,0,none⟩),v] 232 (0,0)):=by
  rw[a.block b A (fun e=>C e.symm)];exact f
 have d1:w2.cell? ⟨b,1,none⟩=some v:=by rw[Aa m];rfl
 have f1:w2.frozen? ⟨b,1,none⟩=false:=by simp[World.frozen?,m]
 obtain⟨D,E,cap,rfl⟩:∃ D E cap,Q= .slice D E cap:=by
  rcases d.2 with⟨n,_⟩|⟨g,cap,cur,n,_⟩
  ·exact⟨_,_,_,n⟩
  ·exact⟨_,_,_,n⟩
 have p:E6 B b z w2:=⟨a.os,a.tape,a.output,a.size,fun k R S K=>a.block k R (fun e=>by
  have U:=(c.lt k e.symm).1;rcases K with K|⟨cs,t,V,F,T⟩
  ·omega
  ·rcases c.2 with⟨n,_⟩|⟨g,L,cur,n,_,q,_⟩
   ·rw[n]at e;simp[Value.ownBlock]at e
   ·rw[n]at e
    have G:g=k:=(by simpa[Value.ownBlock]using e.symm);subst G;rw[F]at q
    injection q with q
    injection q with _ H
    exact T H)⟩
 have I:=Hq (j.trans p);clear j p;go_wp2_with fail;go_ret2;refine⟨rfl,?_,I.out.trans (setW B b w2 1 _)⟩;have J:Lib.byteCells (l++s.data.toList)=Lib.byteCells l++Lib.strCells s:=by
  simp[Lib.byteCells,Lib.strCells]
 refine⟨o,_,_,heap_set w2 b 1 _ _ _ _ m,.inr rfl,?_⟩;have:=Tg (i:=1) (u:=.slice D E cap) o d;rw[J,List.length_append,show s.data.toList.length=s.size by simp];exact this
theorem bS (B b:Nat)(l:List UInt8)(w:World)(h:Mt B b l w)(o:l≠[]):
 Cq 182 #[.pointer (some ⟨b,0,none⟩)] w fun e w'=>e= .returned (.string ⟨l.toArray⟩)∧E6 B b w w':=by
 obtain⟨z,p,v,i,M,c⟩:=h;have q:l.length≠0:=by simpa using o
 obtain⟨g,cap,cur,rfl,A,a,s,m,d,f⟩:∃ g cap cur,v= .slice (some ⟨g,0,none⟩) l.length cap∧B≤g∧w.heap[g]? =some (.cells cur 5 (0,0))∧l.length≤cap∧cap≤maxLen∧cur.size=cap*1∧cur.toList.take (l.length*1)=Lib.byteCells l:=by
  rcases c.2 with⟨_,C⟩|⟨g,cap,cur,D,r⟩
  ·exact absurd C q
  ·exact⟨g,cap,cur,D,r⟩
 have c1:w.drew.cell? ⟨b,1,none⟩=some (.slice (some ⟨g,0,none⟩) l.length cap):=by
  have:w.drew.heap[b]? =some (.cells #[p,.slice (some ⟨g,0,none⟩) l.length cap] 232 (0,0)):=i;rw[Aa this];rfl
 have E:(Builtin.unsafeSliceData_ #[141] 203 #[.slice (some ⟨g,0,none⟩) l.length cap]).run Tryz.prog w.drew= .ok (.pointer (some ⟨g,0,none⟩)) w.drew:=
  Lib.run_unsafeSliceData_row _ _ _ _ _ _ (by omega)
 have F:(Builtin.unsafeString_ #[203,3] 9 #[.pointer (some ⟨g,0,none⟩),l.length]).run Tryz.prog w.drew= .ok (.string ⟨l.toArray⟩) (w.drew.freeze ⟨g,0,none⟩ l.length):=by
  refine Lib.run_unsafeString_row w.drew 203 3 9 5 aD Ub g cur.size (by have u:w.drew.heap[g]? =some (.cells cur 5 (0,0)):=a;simp[World.shape?,u]) l o (by omega) (by unfold maxLen at m;omega) ?_;intro j x G;have:=c.cells (g:=g) rfl j (.int .u8 x.toNat) (by simp[Lib.byteCells,G]);exact this
 have H:E6 B b w (w.drew.freeze ⟨g,0,none⟩ l.length):=by
  have n:=Nf.freeze g (g+1) g l.length w (Nat.le_refl _) (Nat.lt_succ_self _);refine⟨n.os,n.tape,n.output,n.size,fun k I J y=>n.block k I ?_⟩;rcases Nat.lt_trichotomy k g with h|h|h
  ·exact .inl h
  ·subst h
   rcases y with y|⟨cs,t,N,d,K⟩
   ·omega
   ·rw[d]at a
    injection a with a
    injection a with _ L
    exact absurd L K
  ·exact .inr h
 clear c i f d m s a o;go_enter Tryz.func182,Tryz.ntmps182
 go_wp2
 go_region
 all_goals (go_wp2;go_ret;exact⟨rfl,H⟩)
theorem jR (n:Int)(size:Nat)(a:size≤8):(Oct.Bj n size).data.toList=Rc.p n size:=by
 unfold Oct.Bj;rw[if_neg (by omega)]
 simp[Rc.p]
theorem En (n:Int)(size:Nat):(Rc.p n size).length=size:=Oct.A0 _ _
theorem Pe (s:ByteArray):(Rc.t s).length=2+s.size:=by
 unfold Rc.t;rw[List.length_append,En]
 simp
theorem bU (s:ByteArray)(h:s.size≤65535)(w:World):
 Cq 262 #[s] w fun e w'=>∃ x:ByteArray,e= .returned (.string x)∧x.data.toList=Rc.t s∧Bw w w':=by
 have f:=Hq (fun W=>I9 s.size 2 (by omega) (by omega) W);have c:min (s.size:Int) 65535=s.size:=by omega
 have hex:s.extract 0 s.size=s:=ByteArray.extract_zero_size;have g:(Oct.Bj (s.size:Int) 2).size=2:=Oct.Bx _ 2 (by omega);have d:(Oct.Bj (s.size:Int) 2).size+s.size≤281474976710656:=by omega
 have a:(Oct.Bj (s.size:Int) 2++s).data.toList=Rc.t s:=by
  have e:(Oct.Bj (s.size:Int) 2).data.toList=Rc.p s.size 2:=jR _ 2 (by omega);rw[ByteArray.data_append,Array.toList_append,e];rfl
 go_enter Tryz.func262,Tryz.ntmps262
 go_wp2_with((go_at_call 171;refine(f.out _).mono ?_;rintro e i ⟨rfl,b⟩))
 go_ret;exact⟨_,rfl,a,b⟩
theorem qN (size:Nat)(b:size≤8)(xs:List Int)(k:Nat):((xs.take k).flatMap (fun n=>Rc.p n size)).length≤k*8:=by
 refine Nat.le_trans ?_ (Nat.mul_le_mul_right _ (show(xs.take k).length≤k by rw[List.length_take];omega));have c:∀ a:List Int,(∀ y∈a,((fun n=>Rc.p n size) y).length≤8)→(a.flatMap (fun n=>Rc.p n size)).length≤a.length*8:=by
  intro a
  induction a with
  |nil=>intro _;simp
  |cons y a ih=>
   intro h;rw[List.flatMap_cons,List.length_append,List.length_cons,Nat.succ_mul];have e:(Rc.p y size).length≤8:=h y (List.mem_cons_self ..)
   show(Rc.p y size).length+_≤_
   have f:=ih (fun z d=>h z (List.mem_cons_of_mem _ d));omega
 exact c _ (fun y g=>by show(Rc.p y size).length≤8;rw[En];exact b)
theorem qO (B b g:Nat)(l:List UInt8)(size:Nat)(A:size≤8)(xs:List Int)(w:World)(h:Mt B b l w)(P:B≤w.heap.size)(J:w.heap[g]? =some (.cells (xs.map (Value.int .i64)).toArray 3 (0,0)))(C:g≠b)(hlen:l.length+xs.length*8≤140737488355328):
 Cq 246 #[.pointer (some ⟨b,0,none⟩),.int .i64 (size:Int),.slice (some ⟨g,0,none⟩) xs.length xs.length] w fun e w'=>e= .returned (.tuple #[])∧Mt B b (l++xs.flatMap (fun n=>Rc.p n size)) w'∧E6 B b w w':=by
 have L:=Hq h;have M:=Hq J;have D:=Hq (qN size A xs);have N:=Hq (fun n W=>I9 n (size:Int) (by omega) (by omega) W);have E:=Hq (fun n=>jR n size A);have F:=Hq (fun n=>Oct.Bx n size A);clear h J;go_enter Tryz.func246,Tryz.ntmps246;go_wp2_with fail
 go_loopw [7,10] (fun _ i wr=>∃ k:Nat,k≤xs.length∧i= .int .i64 k∧Mt B b (l++(xs.take k).flatMap (fun n=>Rc.p n size)) wr∧E6 B b w wr) (fun _ i _=>xs.length-(intOf i).toNat)
 case atStart=>exact⟨0,Nat.zero_le _,rfl,by simpa using L.out,E6.refl _ _ _⟩
 case round=>
  obtain⟨k,Q,rfl,m,o⟩:=hrel;have q:=Hq m;have c:=Hq o;clear m o
  by_cases r:k<xs.length
  ·have O:wr.cell? ⟨g,k,none⟩=some (Value.int .i64 xs[k]):=by
    rw[Aa (c.out.at_ M.out C (by decide))]
    simp[r]
   have s:(xs.take (k+1)).flatMap (fun n=>Rc.p n size)=(xs.take k).flatMap (fun n=>Rc.p n size)++(fun n=>Rc.p n size) xs[k]:=by
    rw[List.take_add_one,List.flatMap_append,List.getElem?_eq_getElem r]
    simp
   have t:=Hq s;generalize xs[k]=x at O t;clear s;go_upto_region 3 with fail;refine Hw (S:=(fun _=>True)) (fun a=>?_) (by trivial);refine R4 0 (some 14) (v:=?_) rfl ?_ (R4 1 (some 15) (v:=?_) rfl ?_ (R4 2 (some 16) (v:=?_) rfl ?_ (R4 3 (some 17) (v:=?_) rfl ?_ (R4 4 (some 18) (v:=?_) rfl ?_ ?_))))
   iterate 5 (rotate_left;focus(intro w G;(try dsimp only at G);go_simp;(try with_reducible rfl)))
   try simp only[Act.put,pS]
   refine D3 5 fun K u=>?_
   go_simp
   refine(N.out x _).mono ?_;rintro e R ⟨rfl,j⟩;have H:=Hq (q.out.below ((Below.refl _ wr).drew.trans j));have I:=Hq j.size;try go_simp
   refine Db u (fun a=>?_) (by trivial);clear u K;refine D3 6 fun K u=>?_
   go_simp
   refine(Uu B b _ (Oct.Bj x (size:Int)) _ H.out (by have:=F.out x;have:=D.out k;rw[List.length_append];omega) (by have T:=c.out.size;have U:=I.out;have V:wr.drew.heap.size=wr.heap.size:=rfl;omega)).mono ?_;rintro e X ⟨rfl,d,f⟩;have y:=Hq d;have z:=Hq ((c.out.trans (E6.Jf ((Below.refl _ wr).drew.trans j))).trans f);clear d f;try go_simp
   refine Db u (fun a=>?_) (by trivial);clear u K;refine wpAnyH_done Kr ?_ _;clear a;go_wp2_with fail;go_roundw
   case rel=>exact⟨k+1,by omega,by go_num,by rw[t.out,← List.append_assoc];have h:=y.out;rw[E.out]at h;exact h,z.out⟩
   case measure=>simp[intOf];omega
  ·obtain rfl:k=xs.length:=by omega
   go_wp2_with fail
   first|go_end0|go_ret
   refine⟨rfl,?_,c.out⟩;have h:=q.out;rw[List.take_length]at h;exact h
theorem qP (xs:List ByteArray)(b:∀ s∈xs,s.size≤65535)(k:Nat):((xs.take k).flatMap Rc.t).length≤k*65537:=by
 refine Nat.le_trans ?_ (Nat.mul_le_mul_right _ (show(xs.take k).length≤k by rw[List.length_take];omega));have c:∀ a:List ByteArray,(∀ y∈a,(Rc.t y).length≤65537)→(a.flatMap Rc.t).length≤a.length*65537:=by
  intro a
  induction a with
  |nil=>intro _;simp
  |cons y a ih=>
   intro h;rw[List.flatMap_cons,List.length_append,List.length_cons,Nat.succ_mul];have f:(Rc.t y).length≤65537:=h y (List.mem_cons_self ..)
   show(Rc.t y).length+_≤_
   have g:=ih (fun z d=>h z (List.mem_cons_of_mem _ d));omega
 exact c _ (fun y e=>by rw[Pe];have:=b y (List.mem_of_mem_take e);omega)
theorem fG (B b g:Nat)(l:List UInt8)(xs:List ByteArray)(D:∀ s∈xs,s.size≤65535)(w:World)(h:Mt B b l w)(Y:B≤w.heap.size)(L:w.heap[g]? =some (.cells (xs.map Value.string).toArray 9 (0,0)))(E:g≠b)(hlen:l.length+xs.length*65537≤140737488355328):
 Cq 247 #[.pointer (some ⟨b,0,none⟩),.slice (some ⟨g,0,none⟩) xs.length xs.length] w fun e w'=>e= .returned (.tuple #[])∧Mt B b (l++xs.flatMap Rc.t) w'∧E6 B b w w':=by
 have O:=Hq h;have P:=Hq L;have F:=Hq (qP xs D);have Q:=Hq (fun s R W=>bU s R W);have G:=Hq D;clear h L D;go_enter Tryz.func247,Tryz.ntmps247;go_wp2_with fail
 go_loopw [5,8] (fun _ i wr=>∃ k:Nat,k≤xs.length∧i= .int .i64 k∧Mt B b (l++(xs.take k).flatMap Rc.t) wr∧E6 B b w wr) (fun _ i _=>xs.length-(intOf i).toNat)
 case atStart=>exact⟨0,Nat.zero_le _,rfl,by simpa using O.out,E6.refl _ _ _⟩
 case round=>
  obtain⟨k,Z,rfl,o,p⟩:=hrel;have q:=Hq o;have c:=Hq p;clear o p
  by_cases j:k<xs.length
  ·have T:wr.cell? ⟨g,k,none⟩=some (Value.string xs[k]):=by
    rw[Aa (c.out.at_ P.out E (by decide))]
    simp[j]
   have r:(xs.take (k+1)).flatMap Rc.t=(xs.take k).flatMap Rc.t++Rc.t xs[k]:=by
    rw[List.take_add_one,List.flatMap_append,List.getElem?_eq_getElem j]
    simp
   have u:=Hq r;have m:=Hq (G.out _ (List.getElem_mem j));generalize xs[k]=x at T u m;clear r;go_upto_region 3 with fail;refine Hw (S:=(fun _=>True)) (fun a=>?_) (by trivial);refine R4 0 (some 12) (v:=?_) rfl ?_ (R4 1 (some 13) (v:=?_) rfl ?_ (R4 2 (some 14) (v:=?_) rfl ?_ (R4 3 (some 15) (v:=?_) rfl ?_ ?_)))
   iterate 4 (rotate_left;focus(intro w H;(try dsimp only at H);go_simp;(try with_reducible rfl)))
   try simp only[Act.put,pS]
   refine D3 4 fun K z=>?_
   go_simp
   refine(Q.out x m.out _).mono ?_;rintro e w1 ⟨y,rfl,M,n⟩;have I:=Hq (q.out.below ((Below.refl _ wr).drew.trans n));have N:=Hq M;have J:=Hq n.size;clear M;try go_simp
   refine Db z (fun a=>?_) (by trivial);clear z K;refine D3 5 fun K z=>?_
   go_simp
   refine(Uu B b _ (y) _ I.out (by have U:=F.out k;have V:=Pe x;have X:y.size=(Rc.t x).length:=(by rw[← N.out];first|done|simp);have h4:=m.out;rw[List.length_append];omega) (by have U:=c.out.size;have V:=J.out;have X:wr.drew.heap.size=wr.heap.size:=rfl;omega)).mono ?_;rintro e w2 ⟨rfl,d,f⟩;have A:=Hq d;have C:=Hq ((c.out.trans (E6.Jf ((Below.refl _ wr).drew.trans n))).trans f);clear d f;try go_simp
   refine Db z (fun a=>?_) (by trivial);clear z K;refine wpAnyH_done Kr ?_ _;clear a;go_wp2_with fail;go_roundw
   case rel=>exact⟨k+1,by omega,by go_num,by rw[u.out,← List.append_assoc];have h:=A.out;rw[N.out]at h;exact h,C.out⟩
   case measure=>simp[intOf];omega
  ·obtain rfl:k=xs.length:=by omega
   go_wp2_with fail
   first|go_end0|go_ret
   refine⟨rfl,?_,c.out⟩;have h:=q.out;rw[List.take_length]at h;exact h
structure Wr (w:World) (a f b:Nat) (R F:Array Value) (l:List UInt8) (u:World):Prop where
 br:u.heap[a]? =some (.cells R 47 (0,0))
 bf:u.heap[f]? =some (.cells F 223 (0,0))
 wr:Mt (b+1) b l u
 ab:a<b∧f<b
 low:w.heap.size≤a
 below:Bw w u
theorem Wr.step {w u v:World}{a f b:Nat}{R F:Array Value}{l:List UInt8}(h:Wr w a f b R F l u)(c:Bw u v):Wr w a f b R F l v:=
 ⟨Ae h.br c,Ae h.bf c,h.wr.below c,h.ab,h.low,Af h.below c⟩
theorem Wr.L6 {w u v:World}{a f b:Nat}{R F:Array Value}{l d:List UInt8}(h:Wr w a f b R F l u)(e:Mt (b+1) b d v)(c:E6 (b+1) b u v):Wr w a f b R F d v:=
 ⟨c.at_ h.br (by have:=h.ab;omega) (by decide),c.at_ h.bf (by have:=h.ab;omega) (by decide),e,h.ab,h.low,h.below.trans (c.below (by have:=h.ab;have:=h.low;omega) (by have:=h.ab;have:=h.low;omega) h.below.size)⟩
theorem Wr.size {w u:World}{a f b:Nat}{R F:Array Value}{l:List UInt8}(h:Wr w a f b R F l u):b+1≤u.heap.size:=lY h.wr
theorem Wr.put {w u:World}{a f b:Nat}{R F:Array Value}{l:List UInt8}(h:Wr w a f b R F l u)(size:Nat)(d:size≤8)(xs:List Int)(hlen:l.length+xs.length*8≤140737488355328):
 Cq 246 #[.pointer (some ⟨b,0,none⟩),.int .i64 (size:Int),.slice (some ⟨u.heap.size,0,none⟩) xs.length xs.length] (u.alloc (.cells (xs.map (Value.int .i64)).toArray 3)) fun e w'=>e= .returned (.tuple #[])∧Wr w a f b R F (l++xs.flatMap (fun n=>Rc.p n size)) w':=by
 have c:=h.step (Ag u (.cells (xs.map (Value.int .i64)).toArray 3));refine(qO (b+1) b u.heap.size l size d xs _ c.wr c.size (heap_alloc_new u _) (by have:=h.size;omega) hlen).mono ?_;rintro e w' ⟨rfl,g,i⟩;exact⟨rfl,c.L6 g i⟩
theorem Wr.Pf {w u:World}{a f b:Nat}{R F:Array Value}{l:List UInt8}(h:Wr w a f b R F l u)(size:Nat)(c:size≤8)(x:Int)(hlen:l.length+8≤140737488355328):
 Cq 246 #[.pointer (some ⟨b,0,none⟩),.int .i64 (size:Int),.slice (some ⟨u.heap.size,0,none⟩) 1 1] (u.alloc (.cells #[x] 3)) fun e w'=>e= .returned (.tuple #[])∧Wr w a f b R F (l++Rc.p x size) w':=by
 refine(h.put size c [x] (by simpa using hlen)).mono ?_;rintro e w' ⟨rfl,d⟩;exact⟨rfl,by simpa using d⟩
theorem Wr.Abx {w u:World}{a f b:Nat}{R F:Array Value}{l:List UInt8}(h:Wr w a f b R F l u)(size:Nat)(c:size≤8)(x y:Int)(hlen:l.length+16≤140737488355328):
 Cq 246 #[.pointer (some ⟨b,0,none⟩),.int .i64 (size:Int),.slice (some ⟨u.heap.size,0,none⟩) 2 2] (u.alloc (.cells #[x,y] 3)) fun e w'=>e= .returned (.tuple #[])∧Wr w a f b R F (l++(Rc.p x size++Rc.p y size)) w':=by
 refine(h.put size c [x,y] (by simpa using hlen)).mono ?_;rintro e w' ⟨rfl,d⟩;exact⟨rfl,by simpa using d⟩
theorem Wr.yR {w u:World}{a f b:Nat}{R F:Array Value}{l:List UInt8}(h:Wr w a f b R F l u)(size:Nat)(c:size≤8)(x y z:Int)(hlen:l.length+24≤140737488355328):
 Cq 246 #[.pointer (some ⟨b,0,none⟩),.int .i64 (size:Int),.slice (some ⟨u.heap.size,0,none⟩) 3 3] (u.alloc (.cells #[x,y,z] 3)) fun e w'=>e= .returned (.tuple #[])∧Wr w a f b R F (l++(Rc.p x size++(Rc.p y size++Rc.p z size))) w':=by
 refine(h.put size c [x,y,z] (by simpa using hlen)).mono ?_;rintro e w' ⟨rfl,d⟩;exact⟨rfl,by simpa using d⟩
theorem Wr.texts {w u:World}{a f b:Nat}{R F:Array Value}{l:List UInt8}(h:Wr w a f b R F l u)(xs:List ByteArray)(d:∀ s∈xs,s.size≤65535)(hlen:l.length+xs.length*65537≤140737488355328):
 Cq 247 #[.pointer (some ⟨b,0,none⟩),.slice (some ⟨u.heap.size,0,none⟩) xs.length xs.length] (u.alloc (.cells (xs.map Value.string).toArray 9)) fun e w'=>e= .returned (.tuple #[])∧Wr w a f b R F (l++xs.flatMap Rc.t) w':=by
 have c:=h.step (Ag u (.cells (xs.map Value.string).toArray 9));refine(fG (b+1) b u.heap.size l xs d _ c.wr c.size (heap_alloc_new u _) (by have:=h.size;omega) hlen).mono ?_;rintro e w' ⟨rfl,g,i⟩;exact⟨rfl,c.L6 g i⟩
theorem Wr.Aam {w u:World}{a f b:Nat}{R F:Array Value}{l:List UInt8}(h:Wr w a f b R F l u)(x:ByteArray)(c:x.size≤65535)(hlen:l.length+65537≤140737488355328):
 Cq 247 #[.pointer (some ⟨b,0,none⟩),.slice (some ⟨u.heap.size,0,none⟩) 1 1] (u.alloc (.cells #[x] 9)) fun e w'=>e= .returned (.tuple #[])∧Wr w a f b R F (l++Rc.t x) w':=by
 refine(h.texts [x] (by simpa using c) (by simpa using hlen)).mono ?_;rintro e w' ⟨rfl,d⟩;exact⟨rfl,by simpa using d⟩
theorem Wr.qQ {w u:World}{a f b:Nat}{R F:Array Value}{l:List UInt8}(h:Wr w a f b R F l u)(x y:ByteArray)(c:x.size≤65535)(hy:y.size≤65535)(hlen:l.length+131074≤140737488355328):
 Cq 247 #[.pointer (some ⟨b,0,none⟩),.slice (some ⟨u.heap.size,0,none⟩) 2 2] (u.alloc (.cells #[x,y] 9)) fun e w'=>e= .returned (.tuple #[])∧Wr w a f b R F (l++(Rc.t x++Rc.t y)) w':=by
 refine(h.texts [x,y] (by simpa using⟨c,hy⟩) (by simpa using hlen)).mono ?_;rintro e w' ⟨rfl,d⟩;exact⟨rfl,by simpa using d⟩
theorem Wr.done {w u:World}{a f b:Nat}{R F:Array Value}{l:List UInt8}(h:Wr w a f b R F l u)(c:l≠[]):
 Cq 182 #[.pointer (some ⟨b,0,none⟩)] u fun e w'=>e= .returned (.string ⟨l.toArray⟩)∧Bw w w':=by
 refine(bS (b+1) b l u h.wr c).mono ?_;rintro e w' ⟨rfl,d⟩;exact⟨rfl,(h.L6 (h.wr) (E6.refl _ _ _)).below.trans (d.below (by have:=h.ab;have:=h.low;omega) (by have:=h.ab;have:=h.low;omega) h.below.size)⟩
theorem fH {w w1:World}{R F:Array Value}(a:Below (w.alloc (.cells R 47)).heap.size (w.alloc (.cells R 47)) w1):
 Wr w w.heap.size w1.heap.size (w1.heap.size+1) R F [] ((w1.alloc (.cells F 223)).alloc (.cells #[.pointer none,'s'] 232)):=by
 have c:Bw w w1:=Af (Ag _ _) a;have b:=a.size
 simp at b
 refine⟨?_,Km _ _ _,?_,⟨by omega,by omega⟩,Nat.le_refl _,Ak (Ak c)⟩
 ·exact Ae (Cn a) (Ak (Ag _ _))
 ·refine Mt.fresh _ _ _ (Nat.lt_succ_self _) ?_
  have:=heap_alloc_new (w1.alloc (.cells F 223)) (.cells #[.pointer none,'s'] 232)
  simpa using this
theorem fI (a prev b Ab next i ok os d root j es:Int)(f on g:ByteArray)(m:List Rc.Cw)(n:List Rc.Cx)(T D:Value)(M:f.size≤65535)(N:on.size≤65535)(_ze:g.size≤65535)(w:World):
 Cr 220 #[.agg (Bt a prev b 8 Ab next i ok os f on d root g j es (T) (D))] w (.string ⟨(Rc.Bl ⟨a,prev,b,8,Ab,next,i,⟨ok,os,f,on⟩,d,root,⟨g,j,es⟩,m,n⟩).toArray⟩):=by
 have k:=Hq (fun W=>Rk 8 W);rw[show uQ 8= .tuple #[M6 true false false false true,true]from rfl]at k;have l:=Hq (show Rc.Bl ⟨a,prev,b,8,Ab,next,i,⟨ok,os,f,on⟩,d,root,⟨g,j,es⟩,m,n⟩=Rc.Hm ⟨a,prev,b,8,Ab,next,i,⟨ok,os,f,on⟩,d,root,⟨g,j,es⟩,m,n⟩++Rc.Fm ⟨a,prev,b,8,Ab,next,i,⟨ok,os,f,on⟩,d,root,⟨g,j,es⟩,m,n⟩from rfl);rw[Rc.P7 rfl]at l;generalize Rc.Bl ⟨a,prev,b,8,Ab,next,i,⟨ok,os,f,on⟩,d,root,⟨g,j,es⟩,m,n⟩=bb at l ⊢;go_enter Tryz.func220,Tryz.ntmps220
 go_upto_region 3 with((go_at_call 236;(with_reducible refine(k.out _).mono ?_);rintro e O ⟨rfl,o⟩))
 have p:=Hq (fH (R:=(Bt a prev b 8 Ab next i ok os f on d root g j es (T) (D))) (F:=#[true,false,false,false,true]) o);obtain⟨V,L⟩:=ex ((O.alloc (.cells #[true,false,false,false,true] 223)).alloc (.cells #[.pointer none,'s'] 232));rw[← L]at p ⊢;clear L;have u:=Aa p.out.br;have v:=Aa p.out.bf;clear o k
 go_upto_region 4 with((go_at_call 246;refine(p.out.Pf 1 (by omega) 8 (by simp only[List.length_nil];omega)).mono ?_;rintro e v1 ⟨rfl,c⟩;have H1:=Hq c;clear c;have x:=Aa H1.out.br;have y:=Aa H1.out.bf))
 clear u v p
 go_upto_region 6 with((go_at_call 246;refine(H1.out.yR 6 (by omega) a prev b (by simp only[List.length_append,En,List.length_nil];omega)).mono ?_;rintro e v2 ⟨rfl,c⟩;have q:=Hq c;clear c;have z:=Aa q.out.br;have A:=Aa q.out.bf))
 clear x y H1
 go_upto_region 7 with((go_at_call 246;refine(q.out.Pf 3 (by omega) Ab (by simp only[List.length_append,En,List.length_nil];omega)).mono ?_;rintro e v3 ⟨rfl,c⟩;have r:=Hq c;clear c;have B:=Aa r.out.br;have C:=Aa r.out.bf))
 clear z A q
 go_upto_region 8 with((go_at_call 246;refine(r.out.Pf 1 (by omega) ok (by simp only[List.length_append,En,List.length_nil];omega)).mono ?_;rintro e v4 ⟨rfl,c⟩;have s:=Hq c;clear c;have E:=Aa s.out.br;have G:=Aa s.out.bf))
 clear B C r
 go_upto_region 9 with((go_at_call 246;refine(s.out.Pf 2 (by omega) os (by simp only[List.length_append,En,List.length_nil];omega)).mono ?_;rintro e v5 ⟨rfl,c⟩;have t:=Hq c;clear c;have H:=Aa t.out.br;have I:=Aa t.out.bf))
 clear E G s
 go_upto_region 20 with((go_at_call 247;refine(t.out.qQ f on M N (by simp only[List.length_append,En,List.length_nil];omega)).mono ?_;rintro e v6 ⟨rfl,c⟩;have J:=Hq c;clear c;have P:=Aa J.out.br;have Q:=Aa J.out.bf))
 clear H I t
 go_wp2_with((go_at_call 182;refine(J.out.done (by intro h;have:=congrArg List.length h;simp only[List.length_append,En,List.length_nil]at this;omega)).mono ?_;rintro e S ⟨rfl,K⟩))
 go_ret;refine⟨?_,K⟩;rw[l.out]
 simp[Rc.Hm,Rc.Np,List.append_assoc]
theorem qR (b prev c Ab next i ok os d root j es:Int)(f on g:ByteArray)(m:List Rc.Cw)(n:List Rc.Cx)(T D:Value)(P:f.size≤65535)(Q:on.size≤65535)(_ze:g.size≤65535)(w:World):
 Cr 220 #[.agg (Bt b prev c 3 Ab next i ok os f on d root g j es (T) (D))] w (.string ⟨(Rc.Bl ⟨b,prev,c,3,Ab,next,i,⟨ok,os,f,on⟩,d,root,⟨g,j,es⟩,m,n⟩).toArray⟩):=by
 have k:=Hq (fun W=>Rk 3 W);rw[show uQ 3= .tuple #[M6 true false true false true,true]from rfl]at k;have l:=Hq (show Rc.Bl ⟨b,prev,c,3,Ab,next,i,⟨ok,os,f,on⟩,d,root,⟨g,j,es⟩,m,n⟩=Rc.Hm ⟨b,prev,c,3,Ab,next,i,⟨ok,os,f,on⟩,d,root,⟨g,j,es⟩,m,n⟩++Rc.Fm ⟨b,prev,c,3,Ab,next,i,⟨ok,os,f,on⟩,d,root,⟨g,j,es⟩,m,n⟩from rfl);rw[Rc.P6 rfl]at l;generalize Rc.Bl ⟨b,prev,c,3,Ab,next,i,⟨ok,os,f,on⟩,d,root,⟨g,j,es⟩,m,n⟩=bb at l ⊢;go_enter Tryz.func220,Tryz.ntmps220
 go_upto_region 3 with((go_at_call 236;(with_reducible refine(k.out _).mono ?_);rintro e S ⟨rfl,o⟩))
 have p:=Hq (fH (R:=(Bt b prev c 3 Ab next i ok os f on d root g j es (T) (D))) (F:=#[true,false,true,false,true]) o);obtain⟨V,O⟩:=ex ((S.alloc (.cells #[true,false,true,false,true] 223)).alloc (.cells #[.pointer none,'s'] 232));rw[← O]at p ⊢;clear O;have v:=Aa p.out.br;have x:=Aa p.out.bf;clear o k
 go_upto_region 4 with((go_at_call 246;refine(p.out.Pf 1 (by omega) 3 (by simp only[List.length_nil];omega)).mono ?_;rintro e v1 ⟨rfl,a⟩;have H1:=Hq a;clear a;have y:=Aa H1.out.br;have z:=Aa H1.out.bf))
 clear v x p
 go_upto_region 6 with((go_at_call 246;refine(H1.out.yR 6 (by omega) b prev c (by simp only[List.length_append,En,List.length_nil];omega)).mono ?_;rintro e v2 ⟨rfl,a⟩;have q:=Hq a;clear a;have A:=Aa q.out.br;have B:=Aa q.out.bf))
 clear y z H1
 go_upto_region 7 with((go_at_call 246;refine(q.out.Pf 3 (by omega) Ab (by simp only[List.length_append,En,List.length_nil];omega)).mono ?_;rintro e v3 ⟨rfl,a⟩;have r:=Hq a;clear a;have C:=Aa r.out.br;have E:=Aa r.out.bf))
 clear A B q
 go_upto_region 8 with((go_at_call 246;refine(r.out.Pf 1 (by omega) ok (by simp only[List.length_append,En,List.length_nil];omega)).mono ?_;rintro e v4 ⟨rfl,a⟩;have s:=Hq a;clear a;have G:=Aa s.out.br;have H:=Aa s.out.bf))
 clear C E r
 go_upto_region 9 with((go_at_call 246;refine(s.out.Pf 2 (by omega) os (by simp only[List.length_append,En,List.length_nil];omega)).mono ?_;rintro e v5 ⟨rfl,a⟩;have t:=Hq a;clear a;have I:=Aa t.out.br;have J:=Aa t.out.bf))
 clear G H s
 go_upto_region 17 with((go_at_call 247;refine(t.out.qQ f on P Q (by simp only[List.length_append,En,List.length_nil];omega)).mono ?_;rintro e v6 ⟨rfl,a⟩;have u:=Hq a;clear a;have K:=Aa u.out.br;have L:=Aa u.out.bf))
 clear I J t
 go_upto_region 20 with((go_at_call 246;refine(u.out.Pf 6 (by omega) next (by simp only[List.length_append,En,Pe,List.length_nil];omega)).mono ?_;rintro e Y ⟨rfl,a⟩;have M:=Hq a;clear a;have U:=Aa M.out.br;have X:=Aa M.out.bf))
 clear K L u
 go_wp2_with((go_at_call 182;refine(M.out.done (by intro h;have:=congrArg List.length h;simp only[List.length_append,En,List.length_nil]at this;omega)).mono ?_;rintro e Z ⟨rfl,N⟩))
 go_ret;refine⟨?_,N⟩;rw[l.out]
 simp[Rc.Hm,Rc.Np,List.append_assoc]
theorem bV (c prev d Ab next k ok os b root j es:Int)(f on g:ByteArray)(o:List Rc.Cw)(p:List Rc.Cx)(T D:Value)(zo:f.size≤65535)(zn:on.size≤65535)(ze:g.size≤65535)(w:World):
 Cr 220 #[.agg (Bt c prev d 2 Ab next k ok os f on b root g j es (T) (D))] w (.string ⟨(Rc.Bl ⟨c,prev,d,2,Ab,next,k,⟨ok,os,f,on⟩,b,root,⟨g,j,es⟩,o,p⟩).toArray⟩):=by
 have l:=Hq (fun W=>Rk 2 W);rw[show uQ 2= .tuple #[M6 true true false false true,true]from rfl]at l;have i:=Hq (show Rc.Bl ⟨c,prev,d,2,Ab,next,k,⟨ok,os,f,on⟩,b,root,⟨g,j,es⟩,o,p⟩=Rc.Hm ⟨c,prev,d,2,Ab,next,k,⟨ok,os,f,on⟩,b,root,⟨g,j,es⟩,o,p⟩++Rc.Fm ⟨c,prev,d,2,Ab,next,k,⟨ok,os,f,on⟩,b,root,⟨g,j,es⟩,o,p⟩from rfl);rw[Rc.Ob rfl]at i;generalize Rc.Bl ⟨c,prev,d,2,Ab,next,k,⟨ok,os,f,on⟩,b,root,⟨g,j,es⟩,o,p⟩=bb at i ⊢;go_enter Tryz.func220,Tryz.ntmps220
 go_upto_region 3 with((go_at_call 236;(with_reducible refine(l.out _).mono ?_);rintro e w1 ⟨rfl,q⟩))
 have r:=Hq (fH (R:=(Bt c prev d 2 Ab next k ok os f on b root g j es (T) (D))) (F:=#[true,true,false,false,true]) q);obtain⟨V,hV⟩:=ex ((w1.alloc (.cells #[true,true,false,false,true] 223)).alloc (.cells #[.pointer none,'s'] 232));rw[← hV]at r ⊢;clear hV;have C:=Aa r.out.br;have E:=Aa r.out.bf;clear q l
 go_upto_region 4 with((go_at_call 246;refine(r.out.Pf 1 (by omega) 2 (by simp only[List.length_nil];omega)).mono ?_;rintro e v1 ⟨rfl,a⟩;have H1:=Hq a;clear a;have G:=Aa H1.out.br;have H:=Aa H1.out.bf))
 clear C E r
 go_upto_region 6 with((go_at_call 246;refine(H1.out.yR 6 (by omega) c prev d (by simp only[List.length_append,En,List.length_nil];omega)).mono ?_;rintro e v2 ⟨rfl,a⟩;have t:=Hq a;clear a;have I:=Aa t.out.br;have J:=Aa t.out.bf))
 clear G H H1
 go_upto_region 7 with((go_at_call 246;refine(t.out.Pf 3 (by omega) Ab (by simp only[List.length_append,En,List.length_nil];omega)).mono ?_;rintro e v3 ⟨rfl,a⟩;have u:=Hq a;clear a;have K:=Aa u.out.br;have L:=Aa u.out.bf))
 clear I J t
 go_upto_region 8 with((go_at_call 246;refine(u.out.Pf 1 (by omega) ok (by simp only[List.length_append,En,List.length_nil];omega)).mono ?_;rintro e v4 ⟨rfl,a⟩;have v:=Hq a;clear a;have M:=Aa v.out.br;have N:=Aa v.out.bf))
 clear K L u
 go_upto_region 9 with((go_at_call 246;refine(v.out.Pf 2 (by omega) os (by simp only[List.length_append,En,List.length_nil];omega)).mono ?_;rintro e v5 ⟨rfl,a⟩;have x:=Hq a;clear a;have O:=Aa x.out.br;have P:=Aa x.out.bf))
 clear M N v
 go_upto_region 11 with((go_at_call 247;refine(x.out.qQ f on zo zn (by simp only[List.length_append,En,List.length_nil];omega)).mono ?_;rintro e v6 ⟨rfl,a⟩;have y:=Hq a;clear a;have Q:=Aa y.out.br;have S:=Aa y.out.bf))
 clear O P x
 go_upto_region 12 with((go_at_call 246;refine(y.out.Pf 1 (by omega) b (by simp only[List.length_append,En,Pe,List.length_nil];omega)).mono ?_;rintro e v7 ⟨rfl,a⟩;have s:=Hq a;clear a;have U:=Aa s.out.br;have X:=Aa s.out.bf))
 clear Q S y
 by_cases z:b=1
 ·subst z
  go_upto_region 20 with fail
  go_wp2_with((go_at_call 182;refine(s.out.done (by intro h;have:=congrArg List.length h;simp only[List.length_append,En,List.length_nil]at this;omega)).mono ?_;rintro e w9 ⟨rfl,m⟩))
  go_ret;refine⟨?_,m⟩;rw[i.out]
  simp[Rc.Hm,Rc.Np,Rc.M5,List.append_assoc]
 ·have ad:(b != 1)=true:=by simpa using z
  have HH:=Hq z;clear z;go_upto_region 13 with fail
  go_upto_region 14 with((go_at_call 246;refine(s.out.Abx 3 (by omega) root j (by simp only[List.length_append,En,Pe,List.length_nil];omega)).mono ?_;rintro e v8 ⟨rfl,a⟩;have A:=Hq a;clear a;have Y:=Aa A.out.br;have Z:=Aa A.out.bf))
  clear U X s
  go_upto_region 15 with((go_at_call 246;refine(A.out.Pf 2 (by omega) es (by simp only[List.length_append,En,Pe,List.length_nil];omega)).mono ?_;rintro e v9 ⟨rfl,a⟩;have B:=Hq a;clear a;have a1:=Aa B.out.br;have a6:=Aa B.out.bf))
  clear Y Z A
  go_upto_region 20 with((go_at_call 247;refine(B.out.Aam g ze (by simp only[List.length_append,En,Pe,List.length_nil];omega)).mono ?_;rintro e v10 ⟨rfl,a⟩;have n:=Hq a;clear a;have a8:=Aa n.out.br;have aa:=Aa n.out.bf))
  clear a1 a6 B
  go_wp2_with((go_at_call 182;refine(n.out.done (by intro h;have:=congrArg List.length h;simp only[List.length_append,En,List.length_nil]at this;omega)).mono ?_;rintro e w9 ⟨rfl,m⟩))
  go_ret;refine⟨?_,m⟩;rw[i.out];have a7:=HH.out
  simp[a7,Rc.Hm,Rc.Np,Rc.M5,List.append_assoc]
end Go.Proofs.YtdfkambdagoojaaGreatDoor
namespace Rc
theorem Sh {r:Rec}(h:Bz r):r.op.A5.size≤65535∧r.op.new.size≤65535∧r.e.key.size≤65535∧r.txns.length≤1048576∧r.dirty.length≤1048576∧1≤r.kind∧r.kind≤9:=by
 have no1:K9.A5.size=0:=rfl
 have no2:K9.new.size=0:=rfl
 have no3:D6.key.size=0:=rfl
 cases h with
 |small kind lsn prev txn hk h1 h2 h3=>
  unfold bare
  refine⟨by show K9.A5.size≤_;omega,by show K9.new.size≤_;omega,by show D6.key.size≤_;omega,by simp,by simp,?_,?_⟩<;>simp only<;>omega
 |change lsn prev txn Ab op how root e h1 h2 h3 h4 h5 h6=>
  obtain⟨_,_,_,o1,o2⟩:=h5
  have h7:e.key.size≤65535:=by
   rcases h6 with⟨_,_,h8⟩|⟨_,_,_,_,h8⟩
   ·simp only at h8;rw[h8];omega
   ·simp only at h8;omega
  exact⟨by simp only;omega,by simp only;omega,h7,by simp,by simp,by simp only;omega,by simp only;omega⟩
 |clr lsn prev txn Ab op next h1 h2 h3 h4 h5 h6=>
  obtain⟨_,_,_,o1,o2⟩:=h5
  exact⟨by simp only;omega,by simp only;omega,by show D6.key.size≤_;omega,by simp,by simp,by simp only;omega,by simp only;omega⟩
 |nest lsn prev txn next h1 h2 h3 h6=>
  exact⟨by show K9.A5.size≤_;omega,by show K9.new.size≤_;omega,by show D6.key.size≤_;omega,by simp,by simp,by simp only;omega,by simp only;omega⟩
 |image lsn prev txn Ab op h1 h2 h3 h4 h5=>
  obtain⟨_,_,_,o1,o2⟩:=h5
  exact⟨by simp only;omega,by simp only;omega,by show D6.key.size≤_;omega,by simp,by simp,by simp only;omega,by simp only;omega⟩
 |check lsn prev txn n ts ds h1 h2 h3 h4 h5=>
  obtain⟨l1,l2,_,_⟩:=h5
  simp only at l1 l2
  exact⟨by show K9.A5.size≤_;omega,by show K9.new.size≤_;omega,by show D6.key.size≤_;omega,by simp only;omega,by simp only;omega,by simp only;omega,by simp only;omega⟩
end Rc
namespace Go.Proofs.YtdfkambdagoojaaGreatDoor
open Go.RowKit
theorem Wr.A5 {w u v:World}{a f b:Nat}{R F:Array Value}{l:List UInt8}(h:Wr w a f b R F l u)(c:E6 (b+1) b u v):Bw w v:=
 h.below.trans (c.below (by have:=h.ab;have:=h.low;omega) (by have:=h.ab;have:=h.low;omega) h.below.size)
theorem qS (x:Rc.Rec)(n:Rc.Bz x)(A D:Option Addr)(c d:Nat)(w:World)(o:Hc w x A c D d)(g:x.kind=2∨x.kind=3∨x.kind=8):
 Cr 220 #[Dp x (.slice A x.txns.length c) (.slice D x.dirty.length d)] w (.string ⟨(Rc.Bl x).toArray⟩):=by
 obtain⟨f,z2,z3,-,-,-,-⟩:=Rc.Sh n;obtain⟨a,prev,b,kind,Ab,next,h,⟨ok,os,i,on⟩,e,root,⟨j,k,es⟩,l,m⟩:=x;simp only at f z2 z3;rcases(show kind=2∨kind=3∨kind=8 from g)with rfl|rfl|rfl
 ·exact bV a prev b Ab next h ok os e root k es i on j l m _ _ f z2 z3 w
 ·exact qR a prev b Ab next h ok os e root k es i on j l m _ _ f z2 z3 w
 ·exact fI a prev b Ab next h ok os e root k es i on j l m _ _ f z2 z3 w
end Go.Proofs.YtdfkambdagoojaaGreatDoor
