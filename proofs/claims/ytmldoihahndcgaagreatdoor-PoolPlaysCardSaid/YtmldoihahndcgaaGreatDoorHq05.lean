import Derived.Test.YtmldoihahndcgaaGreatDoorHq00
import Derived.Test.YtmldoihahndcgaaGreatDoorHq04
import Derived.BigRegion
import Derived.Test.YtmldoihahndcgaaGreatDoorHq01
set_option maxRecDepth 100000
set_option maxHeartbeats 16000000
set_option linter.unusedSimpArgs false
namespace Go.Proofs.YtmldoihahndcgaaGreatDoor
open Go.RowKit
def D3:Array Value:=((List.range 10).flatMap fun k=>[Value.bool (k==2||k==3||k==8),.bool (k==2),.bool (k==3||k==4),.bool (k==9),.bool (k != 0)]).toArray
theorem R4:(Tryz.prog.info? 282).map (·.size)=some D3.size:=by kernel_rfl
theorem gI (w:World):
 Cr 344 #[] w (.agg D3):=by
 go_enter Tryz.func344,Tryz.ntmps344
 go_wp2_with(with_reducible refine J7 rfl 282 (.tmp 0) (.tmp 10) rfl D3 _ _ rfl Kr Kr R4 Kr ?_)
 exact bodyPost_ret (v:=.agg D3) (Vf rfl _ _ rfl (Ct (heap_alloc_new w _) xH rfl R4)) rfl ⟨rfl,Ad _ _⟩
abbrev La (a b c d e:Bool):Value:=.agg #[a,b,c,d,e]
def pY (k:Int):Value:=.tuple #[La (k==2||k==3||k==8) (k==2) (k==3||k==4) (k==9) (decide (1≤k∧k≤9)),.bool (decide (1≤k∧k≤9))]
theorem pZ {k:Int}(h:¬ (0≤k∧k≤9)):pY k= .tuple #[La false false false false false,false]:=by
 have a:(k==2)=false:=by simp;omega
 have b:(k==3)=false:=by simp;omega
 have c:(k==4)=false:=by simp;omega
 have d:(k==8)=false:=by simp;omega
 have e:(k==9)=false:=by simp;omega
 have f:decide (1≤k∧k≤9)=false:=decide_eq_false (by omega);unfold pY;rw[a,b,c,d,e,f]
 rfl
theorem X9 (W:World):(Instr.index 282 (.agg D3) (.int .i64 ((0:Nat):Int))).run Tryz.prog W= .ok (.agg (D3.extract (0*5) (0*5+5))) W:=by kernel_rfl
theorem Ya (W:World):(Instr.index 282 (.agg D3) (.int .i64 ((1:Nat):Int))).run Tryz.prog W= .ok (.agg (D3.extract (1*5) (1*5+5))) W:=by kernel_rfl
theorem Yb (W:World):(Instr.index 282 (.agg D3) (.int .i64 ((2:Nat):Int))).run Tryz.prog W= .ok (.agg (D3.extract (2*5) (2*5+5))) W:=by kernel_rfl
theorem Yc (W:World):(Instr.index 282 (.agg D3) (.int .i64 ((3:Nat):Int))).run Tryz.prog W= .ok (.agg (D3.extract (3*5) (3*5+5))) W:=by kernel_rfl
theorem Yd (W:World):(Instr.index 282 (.agg D3) (.int .i64 ((4:Nat):Int))).run Tryz.prog W= .ok (.agg (D3.extract (4*5) (4*5+5))) W:=by kernel_rfl
theorem Ye (W:World):(Instr.index 282 (.agg D3) (.int .i64 ((5:Nat):Int))).run Tryz.prog W= .ok (.agg (D3.extract (5*5) (5*5+5))) W:=by kernel_rfl
theorem Yf (W:World):(Instr.index 282 (.agg D3) (.int .i64 ((6:Nat):Int))).run Tryz.prog W= .ok (.agg (D3.extract (6*5) (6*5+5))) W:=by kernel_rfl
theorem Yg (W:World):(Instr.index 282 (.agg D3) (.int .i64 ((7:Nat):Int))).run Tryz.prog W= .ok (.agg (D3.extract (7*5) (7*5+5))) W:=by kernel_rfl
theorem Yh (W:World):(Instr.index 282 (.agg D3) (.int .i64 ((8:Nat):Int))).run Tryz.prog W= .ok (.agg (D3.extract (8*5) (8*5+5))) W:=by kernel_rfl
theorem Yi (W:World):(Instr.index 282 (.agg D3) (.int .i64 ((9:Nat):Int))).run Tryz.prog W= .ok (.agg (D3.extract (9*5) (9*5+5))) W:=by kernel_rfl
theorem bD (k:Nat)(a:k<10)(W:World):(Instr.index 282 (.agg D3) (.int .i64 (k:Int))).run Tryz.prog W= .ok (.agg (D3.extract (k*5) (k*5+5))) W:=by
 have a:k=0∨k=1∨k=2∨k=3∨k=4∨k=5∨k=6∨k=7∨k=8∨k=9:=by omega
 rcases a with rfl|rfl|rfl|rfl|rfl|rfl|rfl|rfl|rfl|rfl
 ·exact X9 W
 ·exact Ya W
 ·exact Yb W
 ·exact Yc W
 ·exact Yd W
 ·exact Ye W
 ·exact Yf W
 ·exact Yg W
 ·exact Yh W
 ·exact Yi W
theorem M6 (k:Nat)(a b c d e:Bool)(p:k<10)(h:(D3.extract (k*5) (k*5+5))=#[.bool a,.bool b,.bool c,.bool d,.bool e])(w:World):
 Cr 324 #[.int .i64 (k:Int)] w (.tuple #[La a b c d e,e]):=by
 have g:=bD k p;rw[h]at g;clear h;have B:((k:Int)<0)=False:=by simp
 have r:(k:Int)≤9:=by omega
 generalize hF:D3=F at g;clear p;go_enter Tryz.func324,Tryz.ntmps324
 go_upto_region 4 with((go_at_call 344;(with_reducible refine(gI _).mono ?_);rintro x j ⟨rfl,l⟩;rw[hF];have m:=Hq l;clear l))
 have s:j.heap.size≠w.heap.size:=by have:=m.out.size;simp at this;omega
 have n:w.heap.size<j.heap.size:=by have:=m.out.size;simp at this;omega
 have f:=Hq (show(j.alloc (.cells #[a,b,c,d,e] 264)).heap[w.heap.size]? =some (.cells #[false,false,false,false,false] 264 (0,0))from by
  rw[Below.heap_alloc _ _ _ n];exact Cb m.out)
 have i:=Hq (heap_alloc_new j (.cells #[a,b,c,d,e] 264));have q:=Hq (Ar (o:=.cells #[a,b,c,d,e] 264) (Ae (Ad _ _) m.out));generalize j.alloc (.cells #[a,b,c,d,e] 264)=V at f i q ⊢;have c0:=Aa i.out 0;have c1:=Aa i.out 1;have c2:=Aa i.out 2;have c3:=Aa i.out 3;have c4:=Aa i.out 4;have t:=Aa f.out 0;have u:=Aa f.out 1;have y:=Aa f.out 2;have z:=Aa f.out 3;have A:=Aa f.out 4;have z0:=Ao f.out 0;have C:=Ao f.out 1;have z2:=Ao f.out 2;have z3:=Ao f.out 3;have z4:=Ao f.out 4
 simp at c0 c1 c2 c3 c4 t u y z A
 clear g hF
 go_region
 all_goals
  go_wp2_with fail;refine bodyPost_ret (v:=.tuple #[La a b c d e,e]) (by simp[results,Tryz.results324,go_sem, *]) rfl ⟨rfl,(((((q.out.setCell (Nat.le_refl _) _).setCell (Nat.le_refl _) _).setCell (Nat.le_refl _) _).setCell (Nat.le_refl _) _).setCell (Nat.le_refl _) _).drew⟩
theorem Pm (k:Int)(w:World):
 Cr 324 #[k] w (pY k):=by
 by_cases h:0≤k∧k≤9
 ·obtain⟨n,rfl⟩:=Int.eq_ofNat_of_zero_le h.1
  have a:n=0∨n=1∨n=2∨n=3∨n=4∨n=5∨n=6∨n=7∨n=8∨n=9:=by omega
  rcases a with rfl|rfl|rfl|rfl|rfl|rfl|rfl|rfl|rfl|rfl
  ·exact M6 0 _ _ _ _ _ (by omega) Kr w
  ·exact M6 1 _ _ _ _ _ (by omega) Kr w
  ·exact M6 2 _ _ _ _ _ (by omega) Kr w
  ·exact M6 3 _ _ _ _ _ (by omega) Kr w
  ·exact M6 4 _ _ _ _ _ (by omega) Kr w
  ·exact M6 5 _ _ _ _ _ (by omega) Kr w
  ·exact M6 6 _ _ _ _ _ (by omega) Kr w
  ·exact M6 7 _ _ _ _ _ (by omega) Kr w
  ·exact M6 8 _ _ _ _ _ (by omega) Kr w
  ·exact M6 9 _ _ _ _ _ (by omega) Kr w
 ·rw[pZ h]
  by_cases b:k<0
  ·clear h
   go_enter Tryz.func324,Tryz.ntmps324;go_wp2_with fail;exact bodyPost_ret (v:=.tuple #[La false false false false false,false]) (by simp[results,Tryz.results324,go_sem]) rfl ⟨rfl,Ad _ _⟩
  ·have c:0≤k:=by omega
   have d:9<k:=(by omega);clear h b;go_enter Tryz.func324,Tryz.ntmps324;go_wp2_with fail;exact bodyPost_ret (v:=.tuple #[La false false false false false,false]) (by simp[results,Tryz.results324,go_sem]) rfl ⟨rfl,Ad _ _⟩
theorem bE (o:Rc.Op)(w:World):
 Cr 327 #[lT o] w (.bool (decide (Rc.Iv o))):=by
 obtain⟨k,s,o,n⟩:=o
 by_cases t:1≤k
 rotate_left
 ·have g0:k<1:=by omega
  clear t;rw[show decide (Rc.Iv ⟨k,s,o,n⟩)=false from decide_eq_false (fun h=>by obtain⟨g,j,f,i,l⟩:=h;simp only at g j f i l;omega)];go_enter Tryz.func327,Tryz.ntmps327;go_wp2_with fail;go_ret;exact⟨by simp[*],Ad _ _⟩
 by_cases g:k≤7
 rotate_left
 ·have g1:7<k:=by omega
  clear g;rw[show decide (Rc.Iv ⟨k,s,o,n⟩)=false from decide_eq_false (fun h=>by obtain⟨g,j,f,i,l⟩:=h;simp only at g j f i l;omega)];go_enter Tryz.func327,Tryz.ntmps327;go_wp2_with fail;go_ret;exact⟨by simp[*],Ad _ _⟩
 cases m:decide (Rc.sl s)with
 |false=>
  rw[show decide (Rc.Iv ⟨k,s,o,n⟩)=false from decide_eq_false (fun h=>by obtain⟨g,j,f,i,l⟩:=h;simp only at g j f i l;exact of_decide_eq_false m f)];have p:=Hq m;clear m;go_enter Tryz.func327,Tryz.ntmps327
  go_wp2_with(first|(go_at_call 346;(with_reducible refine(M5 s _ _ ?_).mono ?_);(first|with_reducible exact heap_alloc_new _ _|with_reducible exact Gd _ _ _);rintro e q ⟨rfl,a⟩;rw[p.out];have b:=E5 (heap_alloc_new w _) a;have c:=Aa b 2;have d:=Aa b 3;clear b;simp at c d))
  go_ret;exact⟨by simp[*],Ae (Ar (Ad _ _)) a⟩
 |true=>
 have p:=Hq m;have r:=Hq (of_decide_eq_true m);clear m
 by_cases f:(o.size:Int)≤512
 rotate_left
 ·have g3:512<(o.size:Int):=by omega
  clear f;rw[show decide (Rc.Iv ⟨k,s,o,n⟩)=false from decide_eq_false (fun h=>by obtain⟨g,j,f,i,l⟩:=h;simp only at g j f i l;omega)];go_enter Tryz.func327,Tryz.ntmps327
  go_wp2_with(first|(go_at_call 346;(with_reducible refine(M5 s _ _ ?_).mono ?_);(first|with_reducible exact heap_alloc_new _ _|with_reducible exact Gd _ _ _);rintro e q ⟨rfl,a⟩;rw[p.out];have b:=E5 (heap_alloc_new w _) a;have c:=Aa b 2;have d:=Aa b 3;clear b;simp at c d))
  go_ret;exact⟨by simp[*],Ae (Ar (Ad _ _)) a⟩
 by_cases i:(n.size:Int)≤512
 rotate_left
 ·have g4:512<(n.size:Int):=by omega
  clear i;rw[show decide (Rc.Iv ⟨k,s,o,n⟩)=false from decide_eq_false (fun h=>by obtain⟨g,j,f,i,l⟩:=h;simp only at g j f i l;omega)];go_enter Tryz.func327,Tryz.ntmps327
  go_wp2_with(first|(go_at_call 346;(with_reducible refine(M5 s _ _ ?_).mono ?_);(first|with_reducible exact heap_alloc_new _ _|with_reducible exact Gd _ _ _);rintro e q ⟨rfl,a⟩;rw[p.out];have b:=E5 (heap_alloc_new w _) a;have c:=Aa b 2;have d:=Aa b 3;clear b;simp at c d))
  go_ret;exact⟨by simp[*],Ae (Ar (Ad _ _)) a⟩
 rw[show decide (Rc.Iv ⟨k,s,o,n⟩)=true from decide_eq_true ⟨by assumption,by assumption,r.out,by show o.size≤512;omega,by show n.size≤512;omega⟩];go_enter Tryz.func327,Tryz.ntmps327
 go_wp2_with(first|(go_at_call 346;(with_reducible refine(M5 s _ _ ?_).mono ?_);(first|with_reducible exact heap_alloc_new _ _|with_reducible exact Gd _ _ _);rintro e q ⟨rfl,a⟩;rw[p.out];have b:=E5 (heap_alloc_new w _) a;have c:=Aa b 2;have d:=Aa b 3;clear b;simp at c d))
 go_ret;exact⟨by simp[*],Ae (Ar (Ad _ _)) a⟩
theorem lY (r:Rc.Rec)(T D:Value)(w:World):
 Cr 328 #[E1 r T D] w (.bool (decide (Rc.F0 r))):=by
 obtain⟨q,prev,s,kind,l,next,num,⟨ok,os,B,on⟩,j,root,⟨m,k,es⟩,C,E⟩:=r;have H:=Hq (fun W=>Mf ⟨m,k,es⟩ ⟨⟨#[]⟩,0,0⟩ W)
 by_cases A:j=1
 ·subst A
  by_cases G:root=0
  ·subst G
   have I:=H.out;have O:=Hq (show decide (Rc.F0 ⟨q,prev,s,kind,l,next,num,⟨ok,os,B,on⟩,1,0,⟨m,k,es⟩,C,E⟩)=decide ((⟨m,k,es⟩:Rc.Key)=⟨⟨#[]⟩,0,0⟩)from decide_eq_decide.2 ⟨fun h=>by
    rcases h with⟨_,_,J⟩|⟨h1,_⟩
    ·exact J
    ·simp only at h1;omega,fun h=>.inl ⟨rfl,rfl,h⟩⟩)
   rw[O.out];generalize decide ((⟨m,k,es⟩:Rc.Key)=⟨⟨#[]⟩,0,0⟩)=b at I ⊢;go_enter Tryz.func328,Tryz.ntmps328;go_wp2_with fail;go_ret;exact⟨by simp,Ad _ _⟩
  ·have U:(root==0)=false:=by simp[G]
   rw[show decide (Rc.F0 ⟨q,prev,s,kind,l,next,num,⟨ok,os,B,on⟩,1,root,⟨m,k,es⟩,C,E⟩)=false from decide_eq_false (fun h=>by
    rcases h with⟨_,J,_⟩|⟨h1,_⟩
    ·exact G J
    ·simp only at h1;omega)]
   clear G;go_enter Tryz.func328,Tryz.ntmps328;go_wp2_with fail;go_ret;exact⟨by simp,Ad _ _⟩
 ·have P:(j==1)=false:=by simp[A]
  have n:=Hq (show ∀ (h:¬ ((j=2∨j=3)∧Rc.pg root∧Rc.pg k∧Rc.sl es∧m.size≤100)),decide (Rc.F0 ⟨q,prev,s,kind,l,next,num,⟨ok,os,B,on⟩,j,root,⟨m,k,es⟩,C,E⟩)=false from fun h=>decide_eq_false (fun Q=>by
   rcases Q with⟨h1,_⟩|h1
   ·exact A h1
   ·exact h h1))
  by_cases K:j=2∨j=3
  rotate_left
  ·rw[n.out (fun h=>K h.1)]
   have R:(j==2)=false:=(by simp;omega);have S:(j==3)=false:=(by simp;omega);clear K A;go_enter Tryz.func328,Tryz.ntmps328;go_wp2_with fail;go_ret;exact⟨by simp,Ad _ _⟩
  rcases K with rfl|rfl
  ·clear A
   cases o:decide (Rc.pg root∧Rc.pg k)with
   |false=>
    rw[n.out (fun h=>of_decide_eq_false o ⟨h.2.1,h.2.2.1⟩)];have t:=Hq o;clear o;go_enter Tryz.func328,Tryz.ntmps328
    go_wp2_with(first|(go_at_call 326;(with_reducible refine(Ls root k _ _ ?_).mono ?_);(first|with_reducible exact heap_alloc_new _ _|with_reducible exact Gd _ _ _);rintro e y ⟨rfl,a⟩;rw[t.out]))
    go_ret;exact⟨by simp,Ae (Ar (Ad _ _)) a⟩
   |true=>
    have t:=Hq o;have u:=Hq (of_decide_eq_true o);clear o
    cases p:decide (Rc.sl es)with
    |false=>
     rw[n.out (fun h=>of_decide_eq_false p h.2.2.2.1)];have x:=Hq p;clear p;go_enter Tryz.func328,Tryz.ntmps328
     go_wp2_with(first|(go_at_call 326;(with_reducible refine(Ls root k _ _ ?_).mono ?_);(first|with_reducible exact heap_alloc_new _ _|with_reducible exact Gd _ _ _);rintro e y ⟨rfl,a⟩;rw[t.out];have d:=E5 (heap_alloc_new w _) a;have f:=Aa d 15;have g:=Aa d 13;have v:=Hq d;clear d;simp at f g)|(go_at_call 346;(with_reducible refine(M5 es _ _ ?_).mono ?_);(first|with_reducible exact heap_alloc_new _ _|with_reducible exact Gd _ _ _);rintro e F ⟨rfl,c⟩;rw[x.out];have i:=Aa (E5 v.out c) 13;simp at i))
     go_ret;exact⟨by simp,Ae (Ar (Ae (Ar (Ad _ _)) a)) c⟩
    |true=>
     have x:=Hq p;have z:=Hq (of_decide_eq_true p);clear p
     by_cases L:(m.size:Int)≤100
     ·have M:=Hq (show decide (Rc.F0 ⟨q,prev,s,kind,l,next,num,⟨ok,os,B,on⟩,2,root,⟨m,k,es⟩,C,E⟩)=true from decide_eq_true (.inr ⟨by simp,u.out.1,u.out.2,z.out,by show m.size≤100;omega⟩))
      rw[M.out];go_enter Tryz.func328,Tryz.ntmps328
      go_wp2_with(first|(go_at_call 326;(with_reducible refine(Ls root k _ _ ?_).mono ?_);(first|with_reducible exact heap_alloc_new _ _|with_reducible exact Gd _ _ _);rintro e y ⟨rfl,a⟩;rw[t.out];have d:=E5 (heap_alloc_new w _) a;have f:=Aa d 15;have g:=Aa d 13;have v:=Hq d;clear d;simp at f g)|(go_at_call 346;(with_reducible refine(M5 es _ _ ?_).mono ?_);(first|with_reducible exact heap_alloc_new _ _|with_reducible exact Gd _ _ _);rintro e F ⟨rfl,c⟩;rw[x.out];have i:=Aa (E5 v.out c) 13;simp at i))
      go_ret;exact⟨by simp[*],Ae (Ar (Ae (Ar (Ad _ _)) a)) c⟩
     ·rw[n.out (fun h=>by have:=h.2.2.2.2;omega)]
      have N:100<(m.size:Int):=(by omega);clear L;go_enter Tryz.func328,Tryz.ntmps328
      go_wp2_with(first|(go_at_call 326;(with_reducible refine(Ls root k _ _ ?_).mono ?_);(first|with_reducible exact heap_alloc_new _ _|with_reducible exact Gd _ _ _);rintro e y ⟨rfl,a⟩;rw[t.out];have d:=E5 (heap_alloc_new w _) a;have f:=Aa d 15;have g:=Aa d 13;have v:=Hq d;clear d;simp at f g)|(go_at_call 346;(with_reducible refine(M5 es _ _ ?_).mono ?_);(first|with_reducible exact heap_alloc_new _ _|with_reducible exact Gd _ _ _);rintro e F ⟨rfl,c⟩;rw[x.out];have i:=Aa (E5 v.out c) 13;simp at i))
      go_ret;exact⟨by simp[*],Ae (Ar (Ae (Ar (Ad _ _)) a)) c⟩
  ·clear A
   cases o:decide (Rc.pg root∧Rc.pg k)with
   |false=>
    rw[n.out (fun h=>of_decide_eq_false o ⟨h.2.1,h.2.2.1⟩)];have t:=Hq o;clear o;go_enter Tryz.func328,Tryz.ntmps328
    go_wp2_with(first|(go_at_call 326;(with_reducible refine(Ls root k _ _ ?_).mono ?_);(first|with_reducible exact heap_alloc_new _ _|with_reducible exact Gd _ _ _);rintro e y ⟨rfl,a⟩;rw[t.out]))
    go_ret;exact⟨by simp,Ae (Ar (Ad _ _)) a⟩
   |true=>
    have t:=Hq o;have u:=Hq (of_decide_eq_true o);clear o
    cases p:decide (Rc.sl es)with
    |false=>
     rw[n.out (fun h=>of_decide_eq_false p h.2.2.2.1)];have x:=Hq p;clear p;go_enter Tryz.func328,Tryz.ntmps328
     go_wp2_with(first|(go_at_call 326;(with_reducible refine(Ls root k _ _ ?_).mono ?_);(first|with_reducible exact heap_alloc_new _ _|with_reducible exact Gd _ _ _);rintro e y ⟨rfl,a⟩;rw[t.out];have d:=E5 (heap_alloc_new w _) a;have f:=Aa d 15;have g:=Aa d 13;have v:=Hq d;clear d;simp at f g)|(go_at_call 346;(with_reducible refine(M5 es _ _ ?_).mono ?_);(first|with_reducible exact heap_alloc_new _ _|with_reducible exact Gd _ _ _);rintro e F ⟨rfl,c⟩;rw[x.out];have i:=Aa (E5 v.out c) 13;simp at i))
     go_ret;exact⟨by simp,Ae (Ar (Ae (Ar (Ad _ _)) a)) c⟩
    |true=>
     have x:=Hq p;have z:=Hq (of_decide_eq_true p);clear p
     by_cases L:(m.size:Int)≤100
     ·have M:=Hq (show decide (Rc.F0 ⟨q,prev,s,kind,l,next,num,⟨ok,os,B,on⟩,3,root,⟨m,k,es⟩,C,E⟩)=true from decide_eq_true (.inr ⟨by simp,u.out.1,u.out.2,z.out,by show m.size≤100;omega⟩))
      rw[M.out];go_enter Tryz.func328,Tryz.ntmps328
      go_wp2_with(first|(go_at_call 326;(with_reducible refine(Ls root k _ _ ?_).mono ?_);(first|with_reducible exact heap_alloc_new _ _|with_reducible exact Gd _ _ _);rintro e y ⟨rfl,a⟩;rw[t.out];have d:=E5 (heap_alloc_new w _) a;have f:=Aa d 15;have g:=Aa d 13;have v:=Hq d;clear d;simp at f g)|(go_at_call 346;(with_reducible refine(M5 es _ _ ?_).mono ?_);(first|with_reducible exact heap_alloc_new _ _|with_reducible exact Gd _ _ _);rintro e F ⟨rfl,c⟩;rw[x.out];have i:=Aa (E5 v.out c) 13;simp at i))
      go_ret;exact⟨by simp[*],Ae (Ar (Ae (Ar (Ad _ _)) a)) c⟩
     ·rw[n.out (fun h=>by have:=h.2.2.2.2;omega)]
      have N:100<(m.size:Int):=(by omega);clear L;go_enter Tryz.func328,Tryz.ntmps328
      go_wp2_with(first|(go_at_call 326;(with_reducible refine(Ls root k _ _ ?_).mono ?_);(first|with_reducible exact heap_alloc_new _ _|with_reducible exact Gd _ _ _);rintro e y ⟨rfl,a⟩;rw[t.out];have d:=E5 (heap_alloc_new w _) a;have f:=Aa d 15;have g:=Aa d 13;have v:=Hq d;clear d;simp at f g)|(go_at_call 346;(with_reducible refine(M5 es _ _ ?_).mono ?_);(first|with_reducible exact heap_alloc_new _ _|with_reducible exact Gd _ _ _);rintro e F ⟨rfl,c⟩;rw[x.out];have i:=Aa (E5 v.out c) 13;simp at i))
      go_ret;exact⟨by simp[*],Ae (Ar (Ae (Ar (Ad _ _)) a)) c⟩
end Go.Proofs.YtmldoihahndcgaaGreatDoor
namespace Rc
section
open Classical
noncomputable def Fb (r:Rec):Bool:=decide (Cv r)
theorem Mg {r:Rec}{b:Bool}(h:Cv r↔b=true):Fb r=b:=by
 unfold Fb
 cases b with
 |true=>exact decide_eq_true (h.2 rfl)
 |false=>exact decide_eq_false (fun a=>by have:=h.1 a;cases this)
theorem Fx {r:Rec}(h:¬ Cv r):Fb r=false:=by unfold Fb;exact decide_eq_false h
theorem Jj {r:Rec}(h:Cv r):Fb r=true:=by unfold Fb;exact decide_eq_true h
theorem R5 {r:Rec}:Fb r=true↔Cv r:=by unfold Fb;exact decide_eq_true_iff
end
end Rc
namespace Go.Proofs.YtmldoihahndcgaaGreatDoor
open Go.RowKit
structure Gv (w:World) (a f b:Nat) (R F X:Array Value) (u:World):Prop where
 br:u.heap[a]? =some (.cells R 88 (0,0))
 bf:u.heap[f]? =some (.cells F 264 (0,0))
 bx:u.heap[b]? =some (.cells X 88 (0,0))
 ab:a<b∧f<b
 low:w.heap.size≤a
 below:Bw w u
theorem Gv.step {w u v:World}{a f b:Nat}{R F X:Array Value}(h:Gv w a f b R F X u)(c:Bw u v):Gv w a f b R F X v:=
 ⟨Ac h.br c,Ac h.bf c,Ac h.bx c,h.ab,h.low,Ae h.below c⟩
theorem Gv.set {w u:World}{a f b:Nat}{R F X:Array Value}(h:Gv w a f b R F X u)(i:Nat)(v:Value):Gv w a f b R F (X.setIfInBounds i v) (u.setCell ⟨b,i,none⟩ v):=
 ⟨by rw[Below.heap_setCell _ _ _ _ (by have:=h.ab;show a≠b;omega)];exact h.br,by rw[Below.heap_setCell _ _ _ _ (by have:=h.ab;show f≠b;omega)];exact h.bf,Bs i h.bx v,h.ab,h.low,h.below.setCell (by have:=h.ab;have:=h.low;show _≤b;omega) v⟩
theorem Gv.drew {w u:World}{a f b:Nat}{R F X:Array Value}(h:Gv w a f b R F X u):Gv w a f b R F X u.drew:=⟨h.br,h.bf,h.bx,h.ab,h.low,h.below.drew⟩
theorem Pn {w w1 w2:World}{R F X:Array Value}{o:Obj}(a:Below (w.alloc (.cells R 88)).heap.size (w.alloc (.cells R 88)) w1)
 (b:Below ((w1.alloc (.cells F 264)).alloc o).heap.size ((w1.alloc (.cells F 264)).alloc o) w2):Gv w w.heap.size w1.heap.size w2.heap.size R F X (w2.alloc (.cells X 88)):=by
 have f:Bw w w1:=Ae (Ad _ _) a;have e:Bw w1 w2:=Ae (Ar (Ad _ _)) b;have c:=a.size;have d:=b.size
 simp at c d
 refine⟨?_,?_,heap_alloc_new w2 _,⟨by omega,by omega⟩,Nat.le_refl _,Ar (Ae f e)⟩
 ·rw[Below.heap_alloc _ _ _ (by omega)];exact Ac (Cb a) e
 ·rw[Below.heap_alloc _ _ _ (by omega)];exact Ac (Qd _ _ _) b
end Go.Proofs.YtmldoihahndcgaaGreatDoor
namespace Rc
abbrev N3 (a b c:Int):Prop:=num a∧num b∧num c
theorem qA (b prev c a next k d root:Int)(op:Op)(e:Key)(l:List Ci)(m:List C9):
 Cv ⟨b,prev,c,2,a,next,k,op,d,root,e,l,m⟩↔N3 b prev c∧((pg a∧Iv op)∧F0 ⟨b,prev,c,2,a,next,k,op,d,root,e,l,m⟩)∧(⟨b,prev,c,2,a,0,0,op,d,root,e,[],[]⟩:Rec)=⟨b,prev,c,2,a,next,k,op,d,root,e,l,m⟩:=by
 constructor
 ·intro h
  have f:=Ix h;have n:=f.change (Or.inl rfl);have o:next=0:=f.noNext (fun h=>by rcases h with h|h<;>cases h);obtain⟨g,i,j⟩:=f.noLists (fun h=>by cases h);simp only at g i j;subst o g i j;exact⟨f.nums,⟨n,f.tree rfl⟩,rfl⟩
 ·rintro⟨⟨n,o,g⟩,⟨⟨i,j⟩,p⟩,q⟩
  rw[← q];exact Cv.change _ _ _ _ _ _ _ _ n o g i j p
theorem qB (b prev c a next l d root:Int)(op:Op)(e:Key)(m:List Ci)(n:List C9):
 Cv ⟨b,prev,c,3,a,next,l,op,d,root,e,m,n⟩↔N3 b prev c∧((pg a∧Iv op)∧num next)∧(⟨b,prev,c,3,a,next,0,op,0,0,Ey,[],[]⟩:Rec)=⟨b,prev,c,3,a,next,l,op,d,root,e,m,n⟩:=by
 constructor
 ·intro h
  have f:=Ix h;have k:=f.change (Or.inr (Or.inl rfl));obtain⟨g1,g2,g3⟩:=f.noTree (fun h=>by cases h);obtain⟨g,i,j⟩:=f.noLists (fun h=>by cases h);simp only at g i j g1 g2 g3;subst g i j g1 g2 g3;exact⟨f.nums,⟨k,f.next (Or.inl rfl)⟩,rfl⟩
 ·rintro⟨⟨k,o,g⟩,⟨⟨i,j⟩,p⟩,q⟩
  rw[← q];exact Cv.clr _ _ _ _ _ _ k o g i j p
theorem qC (b prev c a next m d root:Int)(op:Op)(e:Key)(n:List Ci)(o:List C9):
 Cv ⟨b,prev,c,8,a,next,m,op,d,root,e,n,o⟩↔N3 b prev c∧(pg a∧Iv op)∧(⟨b,prev,c,8,a,0,0,op,0,0,Ey,[],[]⟩:Rec)=⟨b,prev,c,8,a,next,m,op,d,root,e,n,o⟩:=by
 constructor
 ·intro h
  have f:=Ix h;have k:=f.change (Or.inr (Or.inr rfl));have l:next=0:=f.noNext (fun h=>by rcases h with h|h<;>cases h);obtain⟨g1,g2,g3⟩:=f.noTree (fun h=>by cases h);obtain⟨g,i,j⟩:=f.noLists (fun h=>by cases h);simp only at g i j g1 g2 g3;subst l g i j g1 g2 g3;exact⟨f.nums,k,rfl⟩
 ·rintro⟨⟨k,l,g⟩,⟨i,j⟩,p⟩
  rw[← p];exact Cv.image _ _ _ _ _ k l g i j
end Rc
namespace Go.Proofs.YtmldoihahndcgaaGreatDoor
open Go.RowKit
theorem Vz (b prev f a next q ok os i root k es:Int)(j on l:ByteArray)(o:List Rc.Ci)(p:List Rc.C9)(A B:Option Addr)(c d:Nat)(w:World)(hr:Iy w ⟨b,prev,f,2,a,next,q,⟨ok,os,j,on⟩,i,root,⟨l,k,es⟩,o,p⟩ A c B d):
 Cr 301 #[.agg (Ed b prev f 2 a next q ok os j on i root l k es (.slice A o.length c) (.slice B p.length d))] w (.bool (Rc.Fb ⟨b,prev,f,2,a,next,q,⟨ok,os,j,on⟩,i,root,⟨l,k,es⟩,o,p⟩)):=by
 have C:=Hq (fun W=>Pm 2 W);rw[show pY 2= .tuple #[La true true false false true,true]from rfl]at C;have u:=Hq (fun W g h=>Vy b prev f W g h);obtain⟨Q,hQ⟩:=ex (Rc.Fb ⟨b,prev,f,2,a,next,q,⟨ok,os,j,on⟩,i,root,⟨l,k,es⟩,o,p⟩);rw[← hQ];have HQ:=Hq hQ;have D:=hr.small;simp only at D;have ag:=D.1;have ah:=D.2;have a7:=Hq hr;clear hQ hr D;have P:=Hq (Rc.qA b prev f a next q i root ⟨ok,os,j,on⟩ ⟨l,k,es⟩ o p)
 cases N:decide (Rc.num b∧Rc.num prev∧Rc.num f)with
 |false=>
  rw[N]at u;have HF:=Hq (HQ.out.trans (Rc.Fx fun h=>of_decide_eq_false N (P.out.1 h).1));clear N P;go_enter Tryz.func301,Tryz.ntmps301
  go_wp2_with(first
   |(go_at_call 324;(with_reducible refine(C.out _).mono ?_);rintro e E ⟨rfl,m⟩;have v:=Aa (Cb m);have a8:w.heap.size<E.heap.size:=(by have:=m.size;simp at this;omega);have r:=Hq m;clear m)
   |(go_at_call 325;(with_reducible refine(u.out _ _ ?_).mono ?_);(with_reducible exact Gd _ _ _);rintro e y ⟨rfl,n⟩;have S:=Aa (Ac (Cb r.out) (Ae (Ar (Ad _ _)) n));have aa:E.heap.size+1<y.heap.size:=(by have:=n.size;simp at this;omega);have G:=Hq n;clear n)
   |with_reducible refine sN (Ed b prev f 2 0 0 0 0 0 ⟨#[]⟩ ⟨#[]⟩ 0 0 ⟨#[]⟩ 0 0 (.slice none 0 0) (.slice none 0 0)) ?_)
  go_ret;exact⟨by rw[HF.out];rfl,Ae (Ae (Ad _ _) r.out) (Ae (Ar (Ad _ _)) G.out)⟩
 |true=>
  rw[N]at u;have HN:=Hq (of_decide_eq_true N);clear N;go_enter Tryz.func301,Tryz.ntmps301
  go_upto_region 5 with(first
   |(go_at_call 324;(with_reducible refine(C.out _).mono ?_);rintro e E ⟨rfl,m⟩;have v:=Aa (Cb m);have a8:w.heap.size<E.heap.size:=(by have:=m.size;simp at this;omega);have r:=Hq m;clear m)
   |(go_at_call 325;(with_reducible refine(u.out _ _ ?_).mono ?_);(with_reducible exact Gd _ _ _);rintro e y ⟨rfl,n⟩;have S:=Aa (Ac (Cb r.out) (Ae (Ar (Ad _ _)) n));have aa:E.heap.size+1<y.heap.size:=(by have:=n.size;simp at this;omega);have G:=Hq n;clear n)
   |with_reducible refine sN (Ed b prev f 2 0 0 0 0 0 ⟨#[]⟩ ⟨#[]⟩ 0 0 ⟨#[]⟩ 0 0 (.slice none 0 0) (.slice none 0 0)) ?_)
  have I:=Hq (Pn (R:=(Ed b prev f 2 a next q ok os j on i root l k es (.slice A o.length c) (.slice B p.length d))) (F:=#[true,true,false,false,true]) (X:=(Ed b prev f 2 0 0 0 0 0 ⟨#[]⟩ ⟨#[]⟩ 0 0 ⟨#[]⟩ 0 0 (.slice none 0 0) (.slice none 0 0))) r.out G.out);clear v S u C r G;obtain⟨V,hV⟩:=ex (y.alloc (.cells (Ed b prev f 2 0 0 0 0 0 ⟨#[]⟩ ⟨#[]⟩ 0 0 ⟨#[]⟩ 0 0 (.slice none 0 0) (.slice none 0 0)) 88));rw[← hV]at I ⊢;clear hV;have v:=Aa I.out.br;have hF:=Aa I.out.bf
  go_upto_region 6 with(fail)
  go_cut [4] (fun s J=>s= .bool (decide (Rc.pg a)&&decide (Rc.Iv ⟨ok,os,j,on⟩))∧Gv w w.heap.size E.heap.size y.heap.size (Ed b prev f 2 a next q ok os j on i root l k es (.slice A o.length c) (.slice B p.length d)) #[true,true,false,false,true] (Ed b prev f 2 0 0 0 0 0 ⟨#[]⟩ ⟨#[]⟩ 0 0 ⟨#[]⟩ 0 0 (.slice none 0 0) (.slice none 0 0)) J)
  case first=>
   cases hp:decide (Rc.pg a)with
   |false=>
    have T:=Hq hp;clear hp
    go_wp2_with(first|(go_at_call 326;(with_reducible refine(Pj a _ _ ?_).mono ?_);(with_reducible exact heap_alloc_new _ _);rintro e w3 ⟨rfl,H⟩;rw[T.out]))
    go_meet
    case rel=>exact⟨by simp[T.out],I.out.step (Ae (Ad _ _) H)⟩
   |true=>
    have T:=Hq hp;clear hp;generalize U:decide (Rc.Iv ⟨ok,os,j,on⟩)=qo;have HO:=Hq U;clear U
    go_wp2_with(first|(go_at_call 326;(with_reducible refine(Pj a _ _ ?_).mono ?_);(with_reducible exact heap_alloc_new _ _);rintro e w3 ⟨rfl,H⟩;rw[T.out];have ai:=Aa (I.out.step (Ae (Ad _ _) H)).br)|(go_at_call 327;(with_reducible refine(bE ⟨ok,os,j,on⟩ _).mono ?_);rintro e w4 ⟨rfl,ad⟩;rw[HO.out]))
    go_meet
    case rel=>exact⟨by simp[T.out,HO.out],(I.out.step (Ae (Ad _ _) H)).step ad⟩
  case rest=>
  obtain⟨W1,rfl⟩:=ex wc;obtain⟨rfl,Y⟩:=hcut;have H1:=Hq Y;clear v hF Y I;have v:=Aa H1.out.br;have hF:=Aa H1.out.bf;have K:=Aa H1.out.bx;have L:=Ao H1.out.bx;have ae:w.heap.size≠y.heap.size:=by have:=H1.out.ab;omega
  go_upto_region 7 with(fail)
  go_cut [] (fun J=>Gv w w.heap.size E.heap.size y.heap.size (Ed b prev f 2 a next q ok os j on i root l k es (.slice A o.length c) (.slice B p.length d)) #[true,true,false,false,true] (Ed b prev f 2 a 0 0 ok os j on 0 0 ⟨#[]⟩ 0 0 (.slice none 0 0) (.slice none 0 0)) J)
  case first=>
   go_region
   all_goals
    go_wp2_with fail;go_meet
    case rel=>
     first
      |(have h:=(((((H1.out.set 4 (.int .i64 a)).set 7 (.int .i64 ok)).set 8 (.int .i64 os)).set 9 (.string j)).set 10 (.string on)).drew;simpa using h)
      |(have h:=(((((H1.out.set 7 (.int .i64 ok)).set 8 (.int .i64 os)).set 9 (.string j)).set 10 (.string on)).set 4 (.int .i64 a)).drew;simpa using h)
  case rest=>
  obtain⟨W2,rfl⟩:=ex wc;have O:=Hq hcut;clear v hF K L hcut H1;have v:=Aa O.out.br;have hF:=Aa O.out.bf
  go_upto_region 9 with(fail)
  go_cut [4] (fun s J=>s= .bool ((decide (Rc.pg a)&&decide (Rc.Iv ⟨ok,os,j,on⟩))&&decide (Rc.F0 ⟨b,prev,f,2,a,next,q,⟨ok,os,j,on⟩,i,root,⟨l,k,es⟩,o,p⟩))∧Gv w w.heap.size E.heap.size y.heap.size (Ed b prev f 2 a next q ok os j on i root l k es (.slice A o.length c) (.slice B p.length d)) #[true,true,false,false,true] (Ed b prev f 2 a 0 0 ok os j on 0 0 ⟨#[]⟩ 0 0 (.slice none 0 0) (.slice none 0 0)) J)
  case first=>
   generalize x:(decide (Rc.pg a)&&decide (Rc.Iv ⟨ok,os,j,on⟩))=qa;have Z:=Hq x;clear x
   cases qa with
   |false=>
    go_wp2_with fail;go_meet
    case rel=>exact⟨by simp[Z.out],O.out⟩
   |true=>
    generalize a1:decide (Rc.F0 ⟨b,prev,f,2,a,next,q,⟨ok,os,j,on⟩,i,root,⟨l,k,es⟩,o,p⟩)=qt;have HT:=Hq a1;clear a1
    go_wp2_with(first|with_reducible refine lL O.out.br Ds ?_|(go_at_call 328;(with_reducible refine(lY ⟨b,prev,f,2,a,next,q,⟨ok,os,j,on⟩,i,root,⟨l,k,es⟩,o,p⟩ (.slice A o.length c) (.slice B p.length d) _).mono ?_);rintro e w5 ⟨rfl,af⟩;rw[HT.out]))
    go_meet
    case rel=>exact⟨by simp[Z.out,HT.out],O.out.step af⟩
  case rest=>
  obtain⟨W3,rfl⟩:=ex wc;obtain⟨rfl,a6⟩:=hcut;have t:=Hq a6;clear v hF a6 O;have v:=Aa t.out.br;have hF:=Aa t.out.bf;have K:=Aa t.out.bx;have L:=Ao t.out.bx;have ae:w.heap.size≠y.heap.size:=by have:=t.out.ab;omega
  go_upto_region 10 with(fail)
  go_cut [] (fun J=>Gv w w.heap.size E.heap.size y.heap.size (Ed b prev f 2 a next q ok os j on i root l k es (.slice A o.length c) (.slice B p.length d)) #[true,true,false,false,true] (Ed b prev f 2 a 0 0 ok os j on i root l k es (.slice none 0 0) (.slice none 0 0)) J)
  case first=>
   go_region
   all_goals
    go_wp2_with fail;go_meet
    case rel=>
     first
      |(have h:=(((((t.out.set 11 (.int .i64 i)).set 12 (.int .i64 root)).set 13 (.string l)).set 14 (.int .i64 k)).set 15 (.int .i64 es)).drew;simpa using h)
      |(have h:=(((((t.out.set 11 (.int .i64 i)).set 13 (.string l)).set 14 (.int .i64 k)).set 15 (.int .i64 es)).set 12 (.int .i64 root)).drew;simpa using h)
      |(have h:=(((((t.out.set 12 (.int .i64 root)).set 11 (.int .i64 i)).set 13 (.string l)).set 14 (.int .i64 k)).set 15 (.int .i64 es)).drew;simpa using h)
      |(have h:=(((((t.out.set 12 (.int .i64 root)).set 13 (.string l)).set 14 (.int .i64 k)).set 15 (.int .i64 es)).set 11 (.int .i64 i)).drew;simpa using h)
      |(have h:=(((((t.out.set 13 (.string l)).set 14 (.int .i64 k)).set 15 (.int .i64 es)).set 11 (.int .i64 i)).set 12 (.int .i64 root)).drew;simpa using h)
      |(have h:=(((((t.out.set 13 (.string l)).set 14 (.int .i64 k)).set 15 (.int .i64 es)).set 12 (.int .i64 root)).set 11 (.int .i64 i)).drew;simpa using h)
  case rest=>
  obtain⟨W4,rfl⟩:=ex wc;have z:=Hq hcut;clear v hF K L hcut t;have v:=Aa z.out.br;have hF:=Aa z.out.bf
  go_upto_region 19 with(fail)
  generalize x:((decide (Rc.pg a)&&decide (Rc.Iv ⟨ok,os,j,on⟩))&&decide (Rc.F0 ⟨b,prev,f,2,a,next,q,⟨ok,os,j,on⟩,i,root,⟨l,k,es⟩,o,p⟩))=qa;have Z:=Hq x;clear x
  cases qa with
  |false=>
   go_wp2_with fail;go_ret;refine⟨?_,z.out.below⟩;have HF:=HQ.out.trans (Rc.Fx fun h=>by
    have h2:=(P.out.1 h).2.1;have h3:=Z.out;simp only[Bool.and_eq_false_iff,decide_eq_false_iff_not]at h3
    grind)
   rw[HF]
   rfl
  |true=>
   have HS:=Hq (R3 ⟨b,prev,f,2,a,0,0,⟨ok,os,j,on⟩,i,root,⟨l,k,es⟩,[],[]⟩ ⟨b,prev,f,2,a,next,q,⟨ok,os,j,on⟩,i,root,⟨l,k,es⟩,o,p⟩ none A none B 0 c 0 d W4 ⟨(Reads.none_ _ _ _ _),(Reads.none_ _ _ _ _),⟨by simp,by simp⟩⟩ (a7.out.below z.out.below));dsimp only[E1,D7,List.length_nil]at HS
   cases he:decide ((⟨b,prev,f,2,a,0,0,⟨ok,os,j,on⟩,i,root,⟨l,k,es⟩,[],[]⟩:Rc.Rec)=⟨b,prev,f,2,a,next,q,⟨ok,os,j,on⟩,i,root,⟨l,k,es⟩,o,p⟩)with
   |false=>
    have HE:=Hq he;clear he
    go_wp2_with(first|with_reducible refine lL z.out.bx Ds ?_|with_reducible refine lL z.out.br Ds ?_|(go_at_call 333;(with_reducible refine HS.out.mono ?_);rintro e w9 ⟨rfl,M⟩;rw[HE.out]))
    go_ret;refine⟨?_,Ae z.out.below M⟩;rw[HQ.out.trans (Rc.Fx fun h=>of_decide_eq_false HE.out (P.out.1 h).2.2)]
    rfl
   |true=>
    have HE:=Hq he;clear he
    go_wp2_with(first|with_reducible refine lL z.out.bx Ds ?_|with_reducible refine lL z.out.br Ds ?_|(go_at_call 333;(with_reducible refine HS.out.mono ?_);rintro e w9 ⟨rfl,M⟩;rw[HE.out]))
    go_ret;refine⟨?_,Ae z.out.below M⟩;rw[HQ.out.trans (Rc.Jj (P.out.2 ⟨HN.out,by have h3:=Z.out;simpa only[Bool.and_eq_true,decide_eq_true_eq]using h3,of_decide_eq_true HE.out⟩))]
    rfl
theorem gJ (b prev f a next n ok os i root o es:Int)(j on p:ByteArray)(q:List Rc.Ci)(r:List Rc.C9)(A B:Option Addr)(c d:Nat)(w:World)(hr:Iy w ⟨b,prev,f,3,a,next,n,⟨ok,os,j,on⟩,i,root,⟨p,o,es⟩,q,r⟩ A c B d):
 Cr 301 #[.agg (Ed b prev f 3 a next n ok os j on i root p o es (.slice A q.length c) (.slice B r.length d))] w (.bool (Rc.Fb ⟨b,prev,f,3,a,next,n,⟨ok,os,j,on⟩,i,root,⟨p,o,es⟩,q,r⟩)):=by
 have z:=Hq (fun W=>Pm 3 W);rw[show pY 3= .tuple #[La true false true false true,true]from rfl]at z;have t:=Hq (fun W g h=>Vy b prev f W g h);obtain⟨Q,hQ⟩:=ex (Rc.Fb ⟨b,prev,f,3,a,next,n,⟨ok,os,j,on⟩,i,root,⟨p,o,es⟩,q,r⟩);rw[← hQ];have HQ:=Hq hQ;have C:=hr.small;simp only at C;have ag:=C.1;have ah:=C.2;have a7:=Hq hr;clear hQ hr C;have N:=Hq (Rc.qB b prev f a next n i root ⟨ok,os,j,on⟩ ⟨p,o,es⟩ q r)
 cases M:decide (Rc.num b∧Rc.num prev∧Rc.num f)with
 |false=>
  rw[M]at t;have HF:=Hq (HQ.out.trans (Rc.Fx fun h=>of_decide_eq_false M (N.out.1 h).1));clear M N;go_enter Tryz.func301,Tryz.ntmps301
  go_wp2_with(first
   |(go_at_call 324;(with_reducible refine(z.out _).mono ?_);rintro e D ⟨rfl,k⟩;have u:=Aa (Cb k);have a8:w.heap.size<D.heap.size:=(by have:=k.size;simp at this;omega);have m:=Hq k;clear k)
   |(go_at_call 325;(with_reducible refine(t.out _ _ ?_).mono ?_);(with_reducible exact Gd _ _ _);rintro e y ⟨rfl,l⟩;have O:=Aa (Ac (Cb m.out) (Ae (Ar (Ad _ _)) l));have aa:D.heap.size+1<y.heap.size:=(by have:=l.size;simp at this;omega);have E:=Hq l;clear l)
   |with_reducible refine sN (Ed b prev f 3 0 0 0 0 0 ⟨#[]⟩ ⟨#[]⟩ 0 0 ⟨#[]⟩ 0 0 (.slice none 0 0) (.slice none 0 0)) ?_)
  go_ret;exact⟨by rw[HF.out];rfl,Ae (Ae (Ad _ _) m.out) (Ae (Ar (Ad _ _)) E.out)⟩
 |true=>
  rw[M]at t;have HN:=Hq (of_decide_eq_true M);clear M;go_enter Tryz.func301,Tryz.ntmps301
  go_upto_region 5 with(first
   |(go_at_call 324;(with_reducible refine(z.out _).mono ?_);rintro e D ⟨rfl,k⟩;have u:=Aa (Cb k);have a8:w.heap.size<D.heap.size:=(by have:=k.size;simp at this;omega);have m:=Hq k;clear k)
   |(go_at_call 325;(with_reducible refine(t.out _ _ ?_).mono ?_);(with_reducible exact Gd _ _ _);rintro e y ⟨rfl,l⟩;have O:=Aa (Ac (Cb m.out) (Ae (Ar (Ad _ _)) l));have aa:D.heap.size+1<y.heap.size:=(by have:=l.size;simp at this;omega);have E:=Hq l;clear l)
   |with_reducible refine sN (Ed b prev f 3 0 0 0 0 0 ⟨#[]⟩ ⟨#[]⟩ 0 0 ⟨#[]⟩ 0 0 (.slice none 0 0) (.slice none 0 0)) ?_)
  have H:=Hq (Pn (R:=(Ed b prev f 3 a next n ok os j on i root p o es (.slice A q.length c) (.slice B r.length d))) (F:=#[true,false,true,false,true]) (X:=(Ed b prev f 3 0 0 0 0 0 ⟨#[]⟩ ⟨#[]⟩ 0 0 ⟨#[]⟩ 0 0 (.slice none 0 0) (.slice none 0 0))) m.out E.out);clear u O t z m E;obtain⟨V,hV⟩:=ex (y.alloc (.cells (Ed b prev f 3 0 0 0 0 0 ⟨#[]⟩ ⟨#[]⟩ 0 0 ⟨#[]⟩ 0 0 (.slice none 0 0) (.slice none 0 0)) 88));rw[← hV]at H ⊢;clear hV;have u:=Aa H.out.br;have hF:=Aa H.out.bf
  go_upto_region 6 with(fail)
  go_cut [4] (fun s P=>s= .bool (decide (Rc.pg a)&&decide (Rc.Iv ⟨ok,os,j,on⟩))∧Gv w w.heap.size D.heap.size y.heap.size (Ed b prev f 3 a next n ok os j on i root p o es (.slice A q.length c) (.slice B r.length d)) #[true,false,true,false,true] (Ed b prev f 3 0 0 0 0 0 ⟨#[]⟩ ⟨#[]⟩ 0 0 ⟨#[]⟩ 0 0 (.slice none 0 0) (.slice none 0 0)) P)
  case first=>
   cases hp:decide (Rc.pg a)with
   |false=>
    have S:=Hq hp;clear hp
    go_wp2_with(first|(go_at_call 326;(with_reducible refine(Pj a _ _ ?_).mono ?_);(with_reducible exact heap_alloc_new _ _);rintro e w3 ⟨rfl,G⟩;rw[S.out]))
    go_meet
    case rel=>exact⟨by simp[S.out],H.out.step (Ae (Ad _ _) G)⟩
   |true=>
    have S:=Hq hp;clear hp;generalize T:decide (Rc.Iv ⟨ok,os,j,on⟩)=qo;have HO:=Hq T;clear T
    go_wp2_with(first|(go_at_call 326;(with_reducible refine(Pj a _ _ ?_).mono ?_);(with_reducible exact heap_alloc_new _ _);rintro e w3 ⟨rfl,G⟩;rw[S.out];have ai:=Aa (H.out.step (Ae (Ad _ _) G)).br)|(go_at_call 327;(with_reducible refine(bE ⟨ok,os,j,on⟩ _).mono ?_);rintro e w4 ⟨rfl,ad⟩;rw[HO.out]))
    go_meet
    case rel=>exact⟨by simp[S.out,HO.out],(H.out.step (Ae (Ad _ _) G)).step ad⟩
  case rest=>
  obtain⟨W1,rfl⟩:=ex wc;obtain⟨rfl,U⟩:=hcut;have H1:=Hq U;clear u hF U H;have u:=Aa H1.out.br;have hF:=Aa H1.out.bf;have I:=Aa H1.out.bx;have J:=Ao H1.out.bx;have ae:w.heap.size≠y.heap.size:=by have:=H1.out.ab;omega
  go_upto_region 7 with(fail)
  go_cut [] (fun P=>Gv w w.heap.size D.heap.size y.heap.size (Ed b prev f 3 a next n ok os j on i root p o es (.slice A q.length c) (.slice B r.length d)) #[true,false,true,false,true] (Ed b prev f 3 a 0 0 ok os j on 0 0 ⟨#[]⟩ 0 0 (.slice none 0 0) (.slice none 0 0)) P)
  case first=>
   go_region
   all_goals
    go_wp2_with fail;go_meet
    case rel=>
     first
      |(have h:=(((((H1.out.set 4 (.int .i64 a)).set 7 (.int .i64 ok)).set 8 (.int .i64 os)).set 9 (.string j)).set 10 (.string on)).drew;simpa using h)
      |(have h:=(((((H1.out.set 7 (.int .i64 ok)).set 8 (.int .i64 os)).set 9 (.string j)).set 10 (.string on)).set 4 (.int .i64 a)).drew;simpa using h)
  case rest=>
  obtain⟨W2,rfl⟩:=ex wc;have Y:=Hq hcut;clear u hF I J hcut H1;have u:=Aa Y.out.br;have hF:=Aa Y.out.bf
  go_upto_region 12 with(fail)
  go_cut [4] (fun s P=>s= .bool ((decide (Rc.pg a)&&decide (Rc.Iv ⟨ok,os,j,on⟩))&&decide (Rc.num next))∧Gv w w.heap.size D.heap.size y.heap.size (Ed b prev f 3 a next n ok os j on i root p o es (.slice A q.length c) (.slice B r.length d)) #[true,false,true,false,true] (Ed b prev f 3 a 0 0 ok os j on 0 0 ⟨#[]⟩ 0 0 (.slice none 0 0) (.slice none 0 0)) P)
  case first=>
   generalize v:(decide (Rc.pg a)&&decide (Rc.Iv ⟨ok,os,j,on⟩))=qa;have Z:=Hq v;clear v
   cases qa with
   |false=>
    go_wp2_with fail;go_meet
    case rel=>exact⟨by simp[Z.out],Y.out⟩
   |true=>
    generalize a1:decide (Rc.num next)=qt;have HT:=Hq a1;clear a1
    go_wp2_with(first|(go_at_call 325;(with_reducible refine(pW next _ _ ?_).mono ?_);(with_reducible exact heap_alloc_new _ _);rintro e w5 ⟨rfl,af⟩;rw[HT.out]))
    go_meet
    case rel=>exact⟨by simp[Z.out,HT.out],Y.out.step (Ae (Ad _ _) af)⟩
  case rest=>
  obtain⟨W3,rfl⟩:=ex wc;obtain⟨rfl,a6⟩:=hcut;have K:=Hq a6;clear u hF a6 Y;have u:=Aa K.out.br;have hF:=Aa K.out.bf;have I:=Aa K.out.bx;have J:=Ao K.out.bx;have ae:w.heap.size≠y.heap.size:=by have:=K.out.ab;omega
  go_upto_region 14 with(fail)
  have h:=K.out.set 5 (.int .i64 next);have x:Hid (Gv w w.heap.size D.heap.size y.heap.size (Ed b prev f 3 a next n ok os j on i root p o es (.slice A q.length c) (.slice B r.length d)) #[true,false,true,false,true] (Ed b prev f 3 a next 0 ok os j on 0 0 ⟨#[]⟩ 0 0 (.slice none 0 0) (.slice none 0 0)) _):=Hq (by simpa using h);clear h u hF I J K;generalize World.setCell _ _ _=W4 at x ⊢;have u:=Aa x.out.br;have hF:=Aa x.out.bf
  go_upto_region 19 with(fail)
  generalize v:((decide (Rc.pg a)&&decide (Rc.Iv ⟨ok,os,j,on⟩))&&decide (Rc.num next))=qa;have Z:=Hq v;clear v
  cases qa with
  |false=>
   go_wp2_with fail;go_ret;refine⟨?_,x.out.below⟩;have HF:=HQ.out.trans (Rc.Fx fun h=>by
    have h2:=(N.out.1 h).2.1;have h3:=Z.out;simp only[Bool.and_eq_false_iff,decide_eq_false_iff_not]at h3
    grind)
   rw[HF]
   rfl
  |true=>
   have HS:=Hq (R3 ⟨b,prev,f,3,a,next,0,⟨ok,os,j,on⟩,0,0,⟨⟨#[]⟩,0,0⟩,[],[]⟩ ⟨b,prev,f,3,a,next,n,⟨ok,os,j,on⟩,i,root,⟨p,o,es⟩,q,r⟩ none A none B 0 c 0 d W4 ⟨(Reads.none_ _ _ _ _),(Reads.none_ _ _ _ _),⟨by simp,by simp⟩⟩ (a7.out.below x.out.below));dsimp only[E1,D7,List.length_nil]at HS
   cases he:decide ((⟨b,prev,f,3,a,next,0,⟨ok,os,j,on⟩,0,0,⟨⟨#[]⟩,0,0⟩,[],[]⟩:Rc.Rec)=⟨b,prev,f,3,a,next,n,⟨ok,os,j,on⟩,i,root,⟨p,o,es⟩,q,r⟩)with
   |false=>
    have HE:=Hq he;clear he
    go_wp2_with(first|with_reducible refine lL x.out.bx Ds ?_|with_reducible refine lL x.out.br Ds ?_|(go_at_call 333;(with_reducible refine HS.out.mono ?_);rintro e w9 ⟨rfl,L⟩;rw[HE.out]))
    go_ret;refine⟨?_,Ae x.out.below L⟩;rw[HQ.out.trans (Rc.Fx fun h=>of_decide_eq_false HE.out (N.out.1 h).2.2)]
    rfl
   |true=>
    have HE:=Hq he;clear he
    go_wp2_with(first|with_reducible refine lL x.out.bx Ds ?_|with_reducible refine lL x.out.br Ds ?_|(go_at_call 333;(with_reducible refine HS.out.mono ?_);rintro e w9 ⟨rfl,L⟩;rw[HE.out]))
    go_ret;refine⟨?_,Ae x.out.below L⟩;rw[HQ.out.trans (Rc.Jj (N.out.2 ⟨HN.out,by have h3:=Z.out;simpa only[Bool.and_eq_true,decide_eq_true_eq]using h3,of_decide_eq_true HE.out⟩))]
    rfl
theorem Yj (b prev f a next o ok os i root p es:Int)(j on q:ByteArray)(r:List Rc.Ci)(t:List Rc.C9)(A B:Option Addr)(c d:Nat)(w:World)(Y:Iy w ⟨b,prev,f,8,a,next,o,⟨ok,os,j,on⟩,i,root,⟨q,p,es⟩,r,t⟩ A c B d):
 Cr 301 #[.agg (Ed b prev f 8 a next o ok os j on i root q p es (.slice A r.length c) (.slice B t.length d))] w (.bool (Rc.Fb ⟨b,prev,f,8,a,next,o,⟨ok,os,j,on⟩,i,root,⟨q,p,es⟩,r,t⟩)):=by
 have v:=Hq (fun W=>Pm 8 W);rw[show pY 8= .tuple #[La true false false false true,true]from rfl]at v;have n:=Hq (fun W g h=>Vy b prev f W g h);obtain⟨Q,Z⟩:=ex (Rc.Fb ⟨b,prev,f,8,a,next,o,⟨ok,os,j,on⟩,i,root,⟨q,p,es⟩,r,t⟩);rw[← Z];have S:=Hq Z;have x:=Y.small;simp only at x;have ae:=x.1;have af:=x.2;have a1:=Hq Y;clear Z Y x;have J:=Hq (Rc.qC b prev f a next o i root ⟨ok,os,j,on⟩ ⟨q,p,es⟩ r t)
 cases I:decide (Rc.num b∧Rc.num prev∧Rc.num f)with
 |false=>
  rw[I]at n;have HF:=Hq (S.out.trans (Rc.Fx fun h=>of_decide_eq_false I (J.out.1 h).1));clear I J;go_enter Tryz.func301,Tryz.ntmps301
  go_wp2_with(first
   |(go_at_call 324;(with_reducible refine(v.out _).mono ?_);rintro e C ⟨rfl,k⟩;have D:=Aa (Cb k);have a6:w.heap.size<C.heap.size:=(by have:=k.size;simp at this;omega);have m:=Hq k;clear k)
   |(go_at_call 325;(with_reducible refine(n.out _ _ ?_).mono ?_);(with_reducible exact Gd _ _ _);rintro e E ⟨rfl,l⟩;have K:=Aa (Ac (Cb m.out) (Ae (Ar (Ad _ _)) l));have a7:C.heap.size+1<E.heap.size:=(by have:=l.size;simp at this;omega);have y:=Hq l;clear l)
   |with_reducible refine sN (Ed b prev f 8 0 0 0 0 0 ⟨#[]⟩ ⟨#[]⟩ 0 0 ⟨#[]⟩ 0 0 (.slice none 0 0) (.slice none 0 0)) ?_)
  go_ret;exact⟨by rw[HF.out];rfl,Ae (Ae (Ad _ _) m.out) (Ae (Ar (Ad _ _)) y.out)⟩
 |true=>
  rw[I]at n;have HN:=Hq (of_decide_eq_true I);clear I;go_enter Tryz.func301,Tryz.ntmps301
  go_upto_region 5 with(first
   |(go_at_call 324;(with_reducible refine(v.out _).mono ?_);rintro e C ⟨rfl,k⟩;have D:=Aa (Cb k);have a6:w.heap.size<C.heap.size:=(by have:=k.size;simp at this;omega);have m:=Hq k;clear k)
   |(go_at_call 325;(with_reducible refine(n.out _ _ ?_).mono ?_);(with_reducible exact Gd _ _ _);rintro e E ⟨rfl,l⟩;have K:=Aa (Ac (Cb m.out) (Ae (Ar (Ad _ _)) l));have a7:C.heap.size+1<E.heap.size:=(by have:=l.size;simp at this;omega);have y:=Hq l;clear l)
   |with_reducible refine sN (Ed b prev f 8 0 0 0 0 0 ⟨#[]⟩ ⟨#[]⟩ 0 0 ⟨#[]⟩ 0 0 (.slice none 0 0) (.slice none 0 0)) ?_)
  have G:=Hq (Pn (R:=(Ed b prev f 8 a next o ok os j on i root q p es (.slice A r.length c) (.slice B t.length d))) (F:=#[true,false,false,false,true]) (X:=(Ed b prev f 8 0 0 0 0 0 ⟨#[]⟩ ⟨#[]⟩ 0 0 ⟨#[]⟩ 0 0 (.slice none 0 0) (.slice none 0 0))) m.out y.out);clear D K n v m y;obtain⟨V,hV⟩:=ex (E.alloc (.cells (Ed b prev f 8 0 0 0 0 0 ⟨#[]⟩ ⟨#[]⟩ 0 0 ⟨#[]⟩ 0 0 (.slice none 0 0) (.slice none 0 0)) 88));rw[← hV]at G ⊢;clear hV;have D:=Aa G.out.br;have hF:=Aa G.out.bf
  go_upto_region 6 with(fail)
  go_cut [4] (fun s we=>s= .bool (decide (Rc.pg a)&&decide (Rc.Iv ⟨ok,os,j,on⟩))∧Gv w w.heap.size C.heap.size E.heap.size (Ed b prev f 8 a next o ok os j on i root q p es (.slice A r.length c) (.slice B t.length d)) #[true,false,false,false,true] (Ed b prev f 8 0 0 0 0 0 ⟨#[]⟩ ⟨#[]⟩ 0 0 ⟨#[]⟩ 0 0 (.slice none 0 0) (.slice none 0 0)) we)
  case first=>
   cases T:decide (Rc.pg a)with
   |false=>
    have L:=Hq T;clear T
    go_wp2_with(first|(go_at_call 326;(with_reducible refine(Pj a _ _ ?_).mono ?_);(with_reducible exact heap_alloc_new _ _);rintro e w3 ⟨rfl,z⟩;rw[L.out]))
    go_meet
    case rel=>exact⟨by simp[L.out],G.out.step (Ae (Ad _ _) z)⟩
   |true=>
    have L:=Hq T;clear T;generalize M:decide (Rc.Iv ⟨ok,os,j,on⟩)=qo;have HO:=Hq M;clear M
    go_wp2_with(first|(go_at_call 326;(with_reducible refine(Pj a _ _ ?_).mono ?_);(with_reducible exact heap_alloc_new _ _);rintro e w3 ⟨rfl,z⟩;rw[L.out];have ag:=Aa (G.out.step (Ae (Ad _ _) z)).br)|(go_at_call 327;(with_reducible refine(bE ⟨ok,os,j,on⟩ _).mono ?_);rintro e w4 ⟨rfl,a8⟩;rw[HO.out]))
    go_meet
    case rel=>exact⟨by simp[L.out,HO.out],(G.out.step (Ae (Ad _ _) z)).step a8⟩
  case rest=>
  obtain⟨W1,rfl⟩:=ex wc;obtain⟨rfl,N⟩:=hcut;have H1:=Hq N;clear D hF N G;have D:=Aa H1.out.br;have hF:=Aa H1.out.bf;have aa:=Aa H1.out.bx;have ad:=Ao H1.out.bx;have ah:w.heap.size≠E.heap.size:=by have:=H1.out.ab;omega
  go_upto_region 7 with(fail)
  go_cut [] (fun we=>Gv w w.heap.size C.heap.size E.heap.size (Ed b prev f 8 a next o ok os j on i root q p es (.slice A r.length c) (.slice B t.length d)) #[true,false,false,false,true] (Ed b prev f 8 a 0 0 ok os j on 0 0 ⟨#[]⟩ 0 0 (.slice none 0 0) (.slice none 0 0)) we)
  case first=>
   go_region
   all_goals
    go_wp2_with fail;go_meet
    case rel=>
     first
      |(have h:=(((((H1.out.set 4 (.int .i64 a)).set 7 (.int .i64 ok)).set 8 (.int .i64 os)).set 9 (.string j)).set 10 (.string on)).drew;simpa using h)
      |(have h:=(((((H1.out.set 7 (.int .i64 ok)).set 8 (.int .i64 os)).set 9 (.string j)).set 10 (.string on)).set 4 (.int .i64 a)).drew;simpa using h)
  case rest=>
  obtain⟨W2,rfl⟩:=ex wc;have u:=Hq hcut;clear D hF aa ad hcut H1;have D:=Aa u.out.br;have hF:=Aa u.out.bf
  go_upto_region 19 with(fail)
  generalize O:(decide (Rc.pg a)&&decide (Rc.Iv ⟨ok,os,j,on⟩))=qa;have HA:=Hq O;clear O
  cases qa with
  |false=>
   go_wp2_with fail;go_ret;refine⟨?_,u.out.below⟩;have HF:=S.out.trans (Rc.Fx fun h=>by
    have h2:=(J.out.1 h).2.1;have h3:=HA.out;simp only[Bool.and_eq_false_iff,decide_eq_false_iff_not]at h3
    grind)
   rw[HF]
   rfl
  |true=>
   have HS:=Hq (R3 ⟨b,prev,f,8,a,0,0,⟨ok,os,j,on⟩,0,0,⟨⟨#[]⟩,0,0⟩,[],[]⟩ ⟨b,prev,f,8,a,next,o,⟨ok,os,j,on⟩,i,root,⟨q,p,es⟩,r,t⟩ none A none B 0 c 0 d W2 ⟨(Reads.none_ _ _ _ _),(Reads.none_ _ _ _ _),⟨by simp,by simp⟩⟩ (a1.out.below u.out.below));dsimp only[E1,D7,List.length_nil]at HS
   cases U:decide ((⟨b,prev,f,8,a,0,0,⟨ok,os,j,on⟩,0,0,⟨⟨#[]⟩,0,0⟩,[],[]⟩:Rc.Rec)=⟨b,prev,f,8,a,next,o,⟨ok,os,j,on⟩,i,root,⟨q,p,es⟩,r,t⟩)with
   |false=>
    have P:=Hq U;clear U
    go_wp2_with(first|with_reducible refine lL u.out.bx Ds ?_|with_reducible refine lL u.out.br Ds ?_|(go_at_call 333;(with_reducible refine HS.out.mono ?_);rintro e w9 ⟨rfl,H⟩;rw[P.out]))
    go_ret;refine⟨?_,Ae u.out.below H⟩;rw[S.out.trans (Rc.Fx fun h=>of_decide_eq_false P.out (J.out.1 h).2.2)]
    rfl
   |true=>
    have P:=Hq U;clear U
    go_wp2_with(first|with_reducible refine lL u.out.bx Ds ?_|with_reducible refine lL u.out.br Ds ?_|(go_at_call 333;(with_reducible refine HS.out.mono ?_);rintro e w9 ⟨rfl,H⟩;rw[P.out]))
    go_ret;refine⟨?_,Ae u.out.below H⟩;rw[S.out.trans (Rc.Jj (J.out.2 ⟨HN.out,by have h3:=HA.out;simpa only[Bool.and_eq_true,decide_eq_true_eq]using h3,of_decide_eq_true P.out⟩))]
    rfl
theorem bF (x:Rc.Rec)(A B:Option Addr)(c d:Nat)(w:World)(g:Iy w x A c B d)(h:x.kind=2∨x.kind=3∨x.kind=8):
 Cr 301 #[E1 x (.slice A x.txns.length c) (.slice B x.dirty.length d)] w (.bool (Rc.Fb x)):=by
 obtain⟨b,prev,e,kind,a,next,i,⟨ok,os,j,on⟩,f,root,⟨k,l,es⟩,m,n⟩:=x;rcases(show kind=2∨kind=3∨kind=8 from h)with rfl|rfl|rfl
 ·exact Vz b prev e a next i ok os f root l es j on k m n A B c d w g
 ·exact gJ b prev e a next i ok os f root l es j on k m n A B c d w g
 ·exact Yj b prev e a next i ok os f root l es j on k m n A B c d w g
def Kx (B b:Nat)(l:List UInt8)(w:World):Prop:=
 b<B∧∃ p v,w.heap[b]? =some (.cells #[p,v] 273 (0,0))∧(p= .pointer none∨p= .pointer (some ⟨b,0,none⟩))∧w.ownsRow B 5 1 v l.length (Lib.byteCells l)
def qD (o:Option Obj):Prop:=∃ cs t fr,o=some (.cells cs t fr)∧t≠5
structure Ev (B b:Nat) (w w':World):Prop where
 os:w'.os=w.os
 tape:w'.tape=w.tape
 output:w'.output=w.output
 size:w.heap.size≤w'.heap.size
 block:∀ k,k<w.heap.size→k≠b→k<B∨qD w.heap[k]?→w'.heap[k]? =w.heap[k]?
theorem Ev.refl (B b:Nat)(w:World):Ev B b w w:=⟨rfl,rfl,rfl,Nat.le_refl _,fun _ _ _ _=>rfl⟩
theorem Ev.trans {B b:Nat}{u v w:World}(h:Ev B b u v)(k:Ev B b v w):Ev B b u w:=
 ⟨k.os.trans h.os,k.tape.trans h.tape,k.output.trans h.output,Nat.le_trans h.size k.size,fun i a c d=>by
   have e:=h.block i a c d;exact(k.block i (Nat.lt_of_lt_of_le a h.size) c (by rw[e];exact d)).trans e⟩
theorem Ev.I9 {B b:Nat}{u v:World}(h:Bw u v):Ev B b u v:=
 ⟨h.os,h.tape,h.output,h.size,fun i a _ _=>h.block i a⟩
theorem Ev.below {B b lo:Nat}{u v:World}(h:Ev B b u v)(a:lo≤B)(c:lo≤b)(d:lo≤u.heap.size):Below lo u v:=
 ⟨h.os,h.tape,h.output,h.size,fun i e=>h.block i (by omega) (by omega) (.inl (by omega))⟩
theorem Ev.at_ {B b:Nat}{u v:World}(h:Ev B b u v){g:Nat}{cs:Array Value}{t:TypeId}{fr:Nat×Nat}(a:u.heap[g]? =some (.cells cs t fr))(c:g≠b)(d:t≠5):v.heap[g]? =some (.cells cs t fr):=
 (h.block g (C0 a) c (.inr ⟨cs,t,fr,a,d⟩)).trans a
theorem gK {B b:Nat}{l:List UInt8}{w:World}(h:Kx B b l w):b<w.heap.size:=by
 obtain⟨_,p,v,a,_⟩:=h;exact C0 a
theorem Kx.below {B b:Nat}{l:List UInt8}{w w':World}(h:Kx B b l w)(e:Bw w w'):Kx B b l w':=by
 obtain⟨c,p,v,d,f,a⟩:=h;exact⟨c,p,v,Ac d e,f,Cm a e⟩
theorem Kx.fresh (B b:Nat)(w:World)(a:b<B)(h:w.heap[b]? =some (.cells #[.pointer none,'s'] 273 (0,0))):Kx B b [] w:=
 ⟨a,_,_,h,.inl rfl,⟨rfl,.inl ⟨rfl,rfl⟩⟩⟩
theorem Po (b:Nat)(w:World)(h:w.cell? ⟨b,0,none⟩=some (.pointer none))(c:w.shape? b=some (273,2))(g:w.frozen? ⟨b,0,none⟩=false):
 Cq 214 #[.pointer (some ⟨b,0,none⟩)] w fun e w'=>e= .returned (.tuple #[])∧w'=w.setCell ⟨b,0,none⟩ (.pointer (some ⟨b,0,none⟩)):=by
 obtain⟨j,f,d⟩:=Option.map_eq_some_iff.1 (show(Tryz.prog.info? 164).map (·.size)=some 2 by kernel_rfl);have a:liesAt Tryz.prog Tryz.prog.depth 273 (2/Tryz.prog.cellsOf 273) 0 164 1=true:=by kernel_rfl
 go_enter Tryz.func214,Tryz.ntmps214
 go_wp2
 rw[Lib.run_to_unsafe w ⟨b,0,none⟩ sJ sK f (by rw[d];decide) c (Nat.zero_lt_succ 1)];simp only[Result.andThen];rw[Oper.upon_value]
 go_wp2
 rw[run_callFunc_extern Tryz.func262 Kr Kr Kr (e:=Extern.AbiNoEscape.same) Kr];rw[Lib.run_noEscape];simp only[Result.andThen];rw[Oper.upon_value]
 go_wp2
 rw[Lib.run_from_unsafe w ⟨b,0,none⟩ sK sJ f c a];simp only[Result.andThen];rw[Oper.upon_value]
 go_wp2
 go_end0
 exact⟨rfl,rfl⟩
theorem setW (B b:Nat)(w:World)(i:Nat)(v:Value):Ev B b w (w.setCell ⟨b,i,none⟩ v):=
 ⟨rfl,rfl,rfl,by simp[World.setCell],fun k _ a _=>Below.heap_setCell _ _ _ _ a⟩
theorem R6 (B b:Nat)(l:List UInt8)(w:World)(h:Kx B b l w):
 Cq 214 #[.pointer (some ⟨b,0,none⟩)] w fun e w'=>e= .returned (.tuple #[])∧
  (b<B∧∃ v,w'.heap[b]? =some (.cells #[.pointer (some ⟨b,0,none⟩),v] 273 (0,0))∧w'.ownsRow B 5 1 v l.length (Lib.byteCells l))∧Ev B b w w':=by
 obtain⟨c,p,v,d,f,a⟩:=h;rcases f with rfl|rfl
 ·refine(Po b w (by rw[Aa d];rfl) (by simp[World.shape?,d]) (by simp[World.frozen?,d])).mono ?_
  rintro e w' ⟨rfl,rfl⟩;exact⟨rfl,⟨c,v,heap_set w b 0 _ _ _ _ d,Q4 c a⟩,setW B b w 0 _⟩
 ·refine(Lc b w (by rw[Aa d];rfl)).mono ?_
  rintro e w' ⟨rfl,rfl⟩;exact⟨rfl,⟨c,v,d,a⟩,Ev.refl _ _ _⟩
theorem R7 (B b:Nat)(l:List UInt8)(s:ByteArray)(w:World)(h:Kx B b l w)(hlen:l.length+s.size≤140737488355328)(M:B≤w.heap.size):
 Cq 153 #[.pointer (some ⟨b,0,none⟩),s] w fun e w'=>e= .returned (.tuple #[s.size,.nilIface])∧Kx B b (l++s.data.toList) w'∧Ev B b w w':=by
 obtain⟨i0,N,r,x,y⟩:=info_parts O5;have O:=Hq (R6 B b l w h);clear h;go_enter Tryz.func153,Tryz.ntmps153
 go_wp2_with(go_at_call 214;refine O.out.mono ?_)
 rintro e z ⟨rfl,⟨o,v,f,c⟩,j⟩;have P:=j.size;have c1:z.cell? ⟨b,1,none⟩=some v:=by rw[Aa f];rfl
 go_wp2_with(at_builtin;refine Lib.wpList_append_own_string _ rfl _ _ 104 9 rfl B 5 i0 K7 W9 N r x y _ _ _ rfl c s rfl ?c3 ?c4 ?c5 ?_)
 case c3=>unfold maxLen;omega
 case c4=>omega
 case c5=>omega
 intro Q w2 d a _;have A:b<z.heap.size:=C0 f;have C:v.ownBlock≠some b:=fun e=>by
  have:=(c.lt b e).1;omega
 have m:w2.heap[b]? =some (.cells #[.pointer (some ⟨b,0,none⟩),v] 273 (0,0)):=by
  rw[a.block b A (fun e=>C e.symm)];exact f
 have d1:w2.cell? ⟨b,1,none⟩=some v:=by rw[Aa m];rfl
 have f1:w2.frozen? ⟨b,1,none⟩=false:=by simp[World.frozen?,m]
 obtain⟨D,E,cap,rfl⟩:∃ D E cap,Q= .slice D E cap:=by
  rcases d.2 with⟨n,_⟩|⟨g,cap,cur,n,_⟩
  ·exact⟨_,_,_,n⟩
  ·exact⟨_,_,_,n⟩
 have p:Ev B b z w2:=⟨a.os,a.tape,a.output,a.size,fun k R S K=>a.block k R (fun e=>by
  have U:=(c.lt k e.symm).1;rcases K with K|⟨cs,t,V,F,T⟩
  ·omega
  ·rcases c.2 with⟨n,_⟩|⟨g,L,cur,n,_,q,_⟩
   ·rw[n]at e;simp[Value.ownBlock]at e
   ·rw[n]at e
    have G:g=k:=(by simpa[Value.ownBlock]using e.symm);subst G;rw[F]at q
    injection q with q
    injection q with _ H
    exact T H)⟩
 have I:=Hq (j.trans p);clear j p;go_wp2_with fail;go_ret2;refine⟨rfl,?_,I.out.trans (setW B b w2 1 _)⟩;have J:Lib.byteCells (l++s.data.toList)=Lib.byteCells l++Lib.strCells s:=by
  simp[Lib.byteCells,Lib.strCells]
 refine⟨o,_,_,heap_set w2 b 1 _ _ _ _ m,.inr rfl,?_⟩;have:=Q4 (i:=1) (u:=.slice D E cap) o d;rw[J,List.length_append,show s.data.toList.length=s.size by simp];exact this
theorem Yk (B b:Nat)(l:List UInt8)(w:World)(h:Kx B b l w)(o:l≠[]):
 Cq 154 #[.pointer (some ⟨b,0,none⟩)] w fun e w'=>e= .returned (.string ⟨l.toArray⟩)∧Ev B b w w':=by
 obtain⟨z,p,v,i,M,c⟩:=h;have q:l.length≠0:=by simpa using o
 obtain⟨g,cap,cur,rfl,A,a,s,m,d,f⟩:∃ g cap cur,v= .slice (some ⟨g,0,none⟩) l.length cap∧B≤g∧w.heap[g]? =some (.cells cur 5 (0,0))∧l.length≤cap∧cap≤maxLen∧cur.size=cap*1∧cur.toList.take (l.length*1)=Lib.byteCells l:=by
  rcases c.2 with⟨_,C⟩|⟨g,cap,cur,D,r⟩
  ·exact absurd C q
  ·exact⟨g,cap,cur,D,r⟩
 have c1:w.drew.cell? ⟨b,1,none⟩=some (.slice (some ⟨g,0,none⟩) l.length cap):=by
  have:w.drew.heap[b]? =some (.cells #[p,.slice (some ⟨g,0,none⟩) l.length cap] 273 (0,0)):=i;rw[Aa this];rfl
 have E:(Builtin.unsafeSliceData_ #[104] 201 #[.slice (some ⟨g,0,none⟩) l.length cap]).run Tryz.prog w.drew= .ok (.pointer (some ⟨g,0,none⟩)) w.drew:=
  Lib.run_unsafeSliceData_row _ _ _ _ _ _ (by omega)
 have F:(Builtin.unsafeString_ #[201,3] 9 #[.pointer (some ⟨g,0,none⟩),l.length]).run Tryz.prog w.drew= .ok (.string ⟨l.toArray⟩) (w.drew.freeze ⟨g,0,none⟩ l.length):=by
  refine Lib.run_unsafeString_row w.drew 201 3 9 5 Xd Ro g cur.size (by have u:w.drew.heap[g]? =some (.cells cur 5 (0,0)):=a;simp[World.shape?,u]) l o (by omega) (by unfold maxLen at m;omega) ?_;intro j x G;have:=c.cells (g:=g) rfl j (.int .u8 x.toNat) (by simp[Lib.byteCells,G]);exact this
 have H:Ev B b w (w.drew.freeze ⟨g,0,none⟩ l.length):=by
  have n:=Ld.freeze g (g+1) g l.length w (Nat.le_refl _) (Nat.lt_succ_self _);refine⟨n.os,n.tape,n.output,n.size,fun k I J y=>n.block k I ?_⟩;rcases Nat.lt_trichotomy k g with h|h|h
  ·exact .inl h
  ·subst h
   rcases y with y|⟨cs,t,N,d,K⟩
   ·omega
   ·rw[d]at a
    injection a with a
    injection a with _ L
    exact absurd L K
  ·exact .inr h
 clear c i f d m s a o;go_enter Tryz.func154,Tryz.ntmps154
 go_wp2
 go_region
 all_goals (go_wp2;go_ret;exact⟨rfl,H⟩)
theorem eG (n:Int)(size:Nat)(a:size≤8):(Oct.Bg n size).data.toList=Rc.p n size:=by
 unfold Oct.Bg;rw[if_neg (by omega)]
 simp[Rc.p]
theorem Eb (n:Int)(size:Nat):(Rc.p n size).length=size:=Oct.Be _ _
theorem Nn (s:ByteArray):(Rc.t s).length=2+s.size:=by
 unfold Rc.t;rw[List.length_append,Eb]
 simp
theorem Yl (s:ByteArray)(h:s.size≤65535)(w:World):
 Cq 350 #[s] w fun e w'=>∃ x:ByteArray,e= .returned (.string x)∧x.data.toList=Rc.t s∧Bw w w':=by
 have f:=Hq (fun W=>Ht s.size 2 (by omega) (by omega) W);have c:min (s.size:Int) 65535=s.size:=by omega
 have hex:s.extract 0 s.size=s:=ByteArray.extract_zero_size;have g:(Oct.Bg (s.size:Int) 2).size=2:=Oct.Bm _ 2 (by omega);have d:(Oct.Bg (s.size:Int) 2).size+s.size≤281474976710656:=by omega
 have a:(Oct.Bg (s.size:Int) 2++s).data.toList=Rc.t s:=by
  have e:(Oct.Bg (s.size:Int) 2).data.toList=Rc.p s.size 2:=eG _ 2 (by omega);rw[ByteArray.data_append,Array.toList_append,e];rfl
 go_enter Tryz.func350,Tryz.ntmps350
 go_wp2_with((go_at_call 151;refine(f.out _).mono ?_;rintro e i ⟨rfl,b⟩))
 go_ret;exact⟨_,rfl,a,b⟩
theorem lZ (size:Nat)(b:size≤8)(xs:List Int)(k:Nat):((xs.take k).flatMap (fun n=>Rc.p n size)).length≤k*8:=by
 refine Nat.le_trans ?_ (Nat.mul_le_mul_right _ (show(xs.take k).length≤k by rw[List.length_take];omega));have c:∀ a:List Int,(∀ y∈a,((fun n=>Rc.p n size) y).length≤8)→(a.flatMap (fun n=>Rc.p n size)).length≤a.length*8:=by
  intro a
  induction a with
  |nil=>intro _;simp
  |cons y a ih=>
   intro h;rw[List.flatMap_cons,List.length_append,List.length_cons,Nat.succ_mul];have e:(Rc.p y size).length≤8:=h y (List.mem_cons_self ..)
   show(Rc.p y size).length+_≤_
   have f:=ih (fun z d=>h z (List.mem_cons_of_mem _ d));omega
 exact c _ (fun y g=>by show(Rc.p y size).length≤8;rw[Eb];exact b)
theorem mA (B b g:Nat)(l:List UInt8)(size:Nat)(A:size≤8)(xs:List Int)(w:World)(h:Kx B b l w)(P:B≤w.heap.size)(J:w.heap[g]? =some (.cells (xs.map (Value.int .i64)).toArray 3 (0,0)))(C:g≠b)(hlen:l.length+xs.length*8≤140737488355328):
 Cq 334 #[.pointer (some ⟨b,0,none⟩),.int .i64 (size:Int),.slice (some ⟨g,0,none⟩) xs.length xs.length] w fun e w'=>e= .returned (.tuple #[])∧Kx B b (l++xs.flatMap (fun n=>Rc.p n size)) w'∧Ev B b w w':=by
 have L:=Hq h;have M:=Hq J;have D:=Hq (lZ size A xs);have N:=Hq (fun n W=>Ht n (size:Int) (by omega) (by omega) W);have E:=Hq (fun n=>eG n size A);have F:=Hq (fun n=>Oct.Bm n size A);clear h J;go_enter Tryz.func334,Tryz.ntmps334;go_wp2_with fail
 go_loopw [7,10] (fun _ i wr=>∃ k:Nat,k≤xs.length∧i= .int .i64 k∧Kx B b (l++(xs.take k).flatMap (fun n=>Rc.p n size)) wr∧Ev B b w wr) (fun _ i _=>xs.length-(intOf i).toNat)
 case atStart=>exact⟨0,Nat.zero_le _,rfl,by simpa using L.out,Ev.refl _ _ _⟩
 case round=>
  obtain⟨k,Q,rfl,m,o⟩:=hrel;have q:=Hq m;have c:=Hq o;clear m o
  by_cases r:k<xs.length
  ·have O:wr.cell? ⟨g,k,none⟩=some (Value.int .i64 xs[k]):=by
    rw[Aa (c.out.at_ M.out C (by decide))]
    simp[r]
   have s:(xs.take (k+1)).flatMap (fun n=>Rc.p n size)=(xs.take k).flatMap (fun n=>Rc.p n size)++(fun n=>Rc.p n size) xs[k]:=by
    rw[List.take_add_one,List.flatMap_append,List.getElem?_eq_getElem r]
    simp
   have t:=Hq s;generalize xs[k]=x at O t;clear s;go_upto_region 3 with fail;refine E4 (S:=(fun _=>True)) (fun a=>?_) (by trivial);refine P4 0 (some 14) (v:=?_) rfl ?_ (P4 1 (some 15) (v:=?_) rfl ?_ (P4 2 (some 16) (v:=?_) rfl ?_ (P4 3 (some 17) (v:=?_) rfl ?_ (P4 4 (some 18) (v:=?_) rfl ?_ ?_))))
   iterate 5 (rotate_left;focus(intro w G;(try dsimp only at G);go_simp;(try with_reducible rfl)))
   try simp only[Act.put,pS]
   refine Bx 5 fun K u=>?_
   go_simp
   refine(N.out x _).mono ?_;rintro e R ⟨rfl,j⟩;have H:=Hq (q.out.below ((Below.refl _ wr).drew.trans j));have I:=Hq j.size;try go_simp
   refine Bl u (fun a=>?_) (by trivial);clear u K;refine Bx 6 fun K u=>?_
   go_simp
   refine(R7 B b _ (Oct.Bg x (size:Int)) _ H.out (by have:=F.out x;have:=D.out k;rw[List.length_append];omega) (by have T:=c.out.size;have U:=I.out;have V:wr.drew.heap.size=wr.heap.size:=rfl;omega)).mono ?_;rintro e X ⟨rfl,d,f⟩;have y:=Hq d;have z:=Hq ((c.out.trans (Ev.I9 ((Below.refl _ wr).drew.trans j))).trans f);clear d f;try go_simp
   refine Bl u (fun a=>?_) (by trivial);clear u K;refine wpAnyH_done Kr ?_ _;clear a;go_wp2_with fail;go_roundw
   case rel=>exact⟨k+1,by omega,by go_num,by rw[t.out,← List.append_assoc];have h:=y.out;rw[E.out]at h;exact h,z.out⟩
   case measure=>simp[intOf];omega
  ·obtain rfl:k=xs.length:=by omega
   go_wp2_with fail
   first|go_end0|go_ret
   refine⟨rfl,?_,c.out⟩;have h:=q.out;rw[List.take_length]at h;exact h
theorem mB (xs:List ByteArray)(b:∀ s∈xs,s.size≤65535)(k:Nat):((xs.take k).flatMap Rc.t).length≤k*65537:=by
 refine Nat.le_trans ?_ (Nat.mul_le_mul_right _ (show(xs.take k).length≤k by rw[List.length_take];omega));have c:∀ a:List ByteArray,(∀ y∈a,(Rc.t y).length≤65537)→(a.flatMap Rc.t).length≤a.length*65537:=by
  intro a
  induction a with
  |nil=>intro _;simp
  |cons y a ih=>
   intro h;rw[List.flatMap_cons,List.length_append,List.length_cons,Nat.succ_mul];have f:(Rc.t y).length≤65537:=h y (List.mem_cons_self ..)
   show(Rc.t y).length+_≤_
   have g:=ih (fun z d=>h z (List.mem_cons_of_mem _ d));omega
 exact c _ (fun y e=>by rw[Nn];have:=b y (List.mem_of_mem_take e);omega)
theorem bG (B b g:Nat)(l:List UInt8)(xs:List ByteArray)(D:∀ s∈xs,s.size≤65535)(w:World)(h:Kx B b l w)(Y:B≤w.heap.size)(L:w.heap[g]? =some (.cells (xs.map Value.string).toArray 9 (0,0)))(E:g≠b)(hlen:l.length+xs.length*65537≤140737488355328):
 Cq 335 #[.pointer (some ⟨b,0,none⟩),.slice (some ⟨g,0,none⟩) xs.length xs.length] w fun e w'=>e= .returned (.tuple #[])∧Kx B b (l++xs.flatMap Rc.t) w'∧Ev B b w w':=by
 have O:=Hq h;have P:=Hq L;have F:=Hq (mB xs D);have Q:=Hq (fun s R W=>Yl s R W);have G:=Hq D;clear h L D;go_enter Tryz.func335,Tryz.ntmps335;go_wp2_with fail
 go_loopw [5,8] (fun _ i wr=>∃ k:Nat,k≤xs.length∧i= .int .i64 k∧Kx B b (l++(xs.take k).flatMap Rc.t) wr∧Ev B b w wr) (fun _ i _=>xs.length-(intOf i).toNat)
 case atStart=>exact⟨0,Nat.zero_le _,rfl,by simpa using O.out,Ev.refl _ _ _⟩
 case round=>
  obtain⟨k,Z,rfl,o,p⟩:=hrel;have q:=Hq o;have c:=Hq p;clear o p
  by_cases j:k<xs.length
  ·have T:wr.cell? ⟨g,k,none⟩=some (Value.string xs[k]):=by
    rw[Aa (c.out.at_ P.out E (by decide))]
    simp[j]
   have r:(xs.take (k+1)).flatMap Rc.t=(xs.take k).flatMap Rc.t++Rc.t xs[k]:=by
    rw[List.take_add_one,List.flatMap_append,List.getElem?_eq_getElem j]
    simp
   have u:=Hq r;have m:=Hq (G.out _ (List.getElem_mem j));generalize xs[k]=x at T u m;clear r;go_upto_region 3 with fail;refine E4 (S:=(fun _=>True)) (fun a=>?_) (by trivial);refine P4 0 (some 12) (v:=?_) rfl ?_ (P4 1 (some 13) (v:=?_) rfl ?_ (P4 2 (some 14) (v:=?_) rfl ?_ (P4 3 (some 15) (v:=?_) rfl ?_ ?_)))
   iterate 4 (rotate_left;focus(intro w H;(try dsimp only at H);go_simp;(try with_reducible rfl)))
   try simp only[Act.put,pS]
   refine Bx 4 fun K z=>?_
   go_simp
   refine(Q.out x m.out _).mono ?_;rintro e w1 ⟨y,rfl,M,n⟩;have I:=Hq (q.out.below ((Below.refl _ wr).drew.trans n));have N:=Hq M;have J:=Hq n.size;clear M;try go_simp
   refine Bl z (fun a=>?_) (by trivial);clear z K;refine Bx 5 fun K z=>?_
   go_simp
   refine(R7 B b _ (y) _ I.out (by have U:=F.out k;have V:=Nn x;have X:y.size=(Rc.t x).length:=(by rw[← N.out];first|done|simp);have h4:=m.out;rw[List.length_append];omega) (by have U:=c.out.size;have V:=J.out;have X:wr.drew.heap.size=wr.heap.size:=rfl;omega)).mono ?_;rintro e w2 ⟨rfl,d,f⟩;have A:=Hq d;have C:=Hq ((c.out.trans (Ev.I9 ((Below.refl _ wr).drew.trans n))).trans f);clear d f;try go_simp
   refine Bl z (fun a=>?_) (by trivial);clear z K;refine wpAnyH_done Kr ?_ _;clear a;go_wp2_with fail;go_roundw
   case rel=>exact⟨k+1,by omega,by go_num,by rw[u.out,← List.append_assoc];have h:=A.out;rw[N.out]at h;exact h,C.out⟩
   case measure=>simp[intOf];omega
  ·obtain rfl:k=xs.length:=by omega
   go_wp2_with fail
   first|go_end0|go_ret
   refine⟨rfl,?_,c.out⟩;have h:=q.out;rw[List.take_length]at h;exact h
structure Wr (w:World) (a f b:Nat) (R F:Array Value) (l:List UInt8) (u:World):Prop where
 br:u.heap[a]? =some (.cells R 88 (0,0))
 bf:u.heap[f]? =some (.cells F 264 (0,0))
 wr:Kx (b+1) b l u
 ab:a<b∧f<b
 low:w.heap.size≤a
 below:Bw w u
theorem Wr.step {w u v:World}{a f b:Nat}{R F:Array Value}{l:List UInt8}(h:Wr w a f b R F l u)(c:Bw u v):Wr w a f b R F l v:=
 ⟨Ac h.br c,Ac h.bf c,h.wr.below c,h.ab,h.low,Ae h.below c⟩
theorem Wr.tH {w u v:World}{a f b:Nat}{R F:Array Value}{l d:List UInt8}(h:Wr w a f b R F l u)(e:Kx (b+1) b d v)(c:Ev (b+1) b u v):Wr w a f b R F d v:=
 ⟨c.at_ h.br (by have:=h.ab;omega) (by decide),c.at_ h.bf (by have:=h.ab;omega) (by decide),e,h.ab,h.low,h.below.trans (c.below (by have:=h.ab;have:=h.low;omega) (by have:=h.ab;have:=h.low;omega) h.below.size)⟩
theorem Wr.size {w u:World}{a f b:Nat}{R F:Array Value}{l:List UInt8}(h:Wr w a f b R F l u):b+1≤u.heap.size:=gK h.wr
theorem Wr.put {w u:World}{a f b:Nat}{R F:Array Value}{l:List UInt8}(h:Wr w a f b R F l u)(size:Nat)(d:size≤8)(xs:List Int)(hlen:l.length+xs.length*8≤140737488355328):
 Cq 334 #[.pointer (some ⟨b,0,none⟩),.int .i64 (size:Int),.slice (some ⟨u.heap.size,0,none⟩) xs.length xs.length] (u.alloc (.cells (xs.map (Value.int .i64)).toArray 3)) fun e w'=>e= .returned (.tuple #[])∧Wr w a f b R F (l++xs.flatMap (fun n=>Rc.p n size)) w':=by
 have c:=h.step (Ad u (.cells (xs.map (Value.int .i64)).toArray 3));refine(mA (b+1) b u.heap.size l size d xs _ c.wr c.size (heap_alloc_new u _) (by have:=h.size;omega) hlen).mono ?_;rintro e w' ⟨rfl,g,i⟩;exact⟨rfl,c.tH g i⟩
theorem Wr.No {w u:World}{a f b:Nat}{R F:Array Value}{l:List UInt8}(h:Wr w a f b R F l u)(size:Nat)(c:size≤8)(x:Int)(hlen:l.length+8≤140737488355328):
 Cq 334 #[.pointer (some ⟨b,0,none⟩),.int .i64 (size:Int),.slice (some ⟨u.heap.size,0,none⟩) 1 1] (u.alloc (.cells #[x] 3)) fun e w'=>e= .returned (.tuple #[])∧Wr w a f b R F (l++Rc.p x size) w':=by
 refine(h.put size c [x] (by simpa using hlen)).mono ?_;rintro e w' ⟨rfl,d⟩;exact⟨rfl,by simpa using d⟩
theorem Wr.wF {w u:World}{a f b:Nat}{R F:Array Value}{l:List UInt8}(h:Wr w a f b R F l u)(size:Nat)(c:size≤8)(x y:Int)(hlen:l.length+16≤140737488355328):
 Cq 334 #[.pointer (some ⟨b,0,none⟩),.int .i64 (size:Int),.slice (some ⟨u.heap.size,0,none⟩) 2 2] (u.alloc (.cells #[x,y] 3)) fun e w'=>e= .returned (.tuple #[])∧Wr w a f b R F (l++(Rc.p x size++Rc.p y size)) w':=by
 refine(h.put size c [x,y] (by simpa using hlen)).mono ?_;rintro e w' ⟨rfl,d⟩;exact⟨rfl,by simpa using d⟩
theorem Wr.tI {w u:World}{a f b:Nat}{R F:Array Value}{l:List UInt8}(h:Wr w a f b R F l u)(size:Nat)(c:size≤8)(x y z:Int)(hlen:l.length+24≤140737488355328):
 Cq 334 #[.pointer (some ⟨b,0,none⟩),.int .i64 (size:Int),.slice (some ⟨u.heap.size,0,none⟩) 3 3] (u.alloc (.cells #[x,y,z] 3)) fun e w'=>e= .returned (.tuple #[])∧Wr w a f b R F (l++(Rc.p x size++(Rc.p y size++Rc.p z size))) w':=by
 refine(h.put size c [x,y,z] (by simpa using hlen)).mono ?_;rintro e w' ⟨rfl,d⟩;exact⟨rfl,by simpa using d⟩
theorem Wr.texts {w u:World}{a f b:Nat}{R F:Array Value}{l:List UInt8}(h:Wr w a f b R F l u)(xs:List ByteArray)(d:∀ s∈xs,s.size≤65535)(hlen:l.length+xs.length*65537≤140737488355328):
 Cq 335 #[.pointer (some ⟨b,0,none⟩),.slice (some ⟨u.heap.size,0,none⟩) xs.length xs.length] (u.alloc (.cells (xs.map Value.string).toArray 9)) fun e w'=>e= .returned (.tuple #[])∧Wr w a f b R F (l++xs.flatMap Rc.t) w':=by
 have c:=h.step (Ad u (.cells (xs.map Value.string).toArray 9));refine(bG (b+1) b u.heap.size l xs d _ c.wr c.size (heap_alloc_new u _) (by have:=h.size;omega) hlen).mono ?_;rintro e w' ⟨rfl,g,i⟩;exact⟨rfl,c.tH g i⟩
theorem Wr.vC {w u:World}{a f b:Nat}{R F:Array Value}{l:List UInt8}(h:Wr w a f b R F l u)(x:ByteArray)(c:x.size≤65535)(hlen:l.length+65537≤140737488355328):
 Cq 335 #[.pointer (some ⟨b,0,none⟩),.slice (some ⟨u.heap.size,0,none⟩) 1 1] (u.alloc (.cells #[x] 9)) fun e w'=>e= .returned (.tuple #[])∧Wr w a f b R F (l++Rc.t x) w':=by
 refine(h.texts [x] (by simpa using c) (by simpa using hlen)).mono ?_;rintro e w' ⟨rfl,d⟩;exact⟨rfl,by simpa using d⟩
theorem Wr.mC {w u:World}{a f b:Nat}{R F:Array Value}{l:List UInt8}(h:Wr w a f b R F l u)(x y:ByteArray)(c:x.size≤65535)(hy:y.size≤65535)(hlen:l.length+131074≤140737488355328):
 Cq 335 #[.pointer (some ⟨b,0,none⟩),.slice (some ⟨u.heap.size,0,none⟩) 2 2] (u.alloc (.cells #[x,y] 9)) fun e w'=>e= .returned (.tuple #[])∧Wr w a f b R F (l++(Rc.t x++Rc.t y)) w':=by
 refine(h.texts [x,y] (by simpa using⟨c,hy⟩) (by simpa using hlen)).mono ?_;rintro e w' ⟨rfl,d⟩;exact⟨rfl,by simpa using d⟩
theorem Wr.done {w u:World}{a f b:Nat}{R F:Array Value}{l:List UInt8}(h:Wr w a f b R F l u)(c:l≠[]):
 Cq 154 #[.pointer (some ⟨b,0,none⟩)] u fun e w'=>e= .returned (.string ⟨l.toArray⟩)∧Bw w w':=by
 refine(Yk (b+1) b l u h.wr c).mono ?_;rintro e w' ⟨rfl,d⟩;exact⟨rfl,(h.tH (h.wr) (Ev.refl _ _ _)).below.trans (d.below (by have:=h.ab;have:=h.low;omega) (by have:=h.ab;have:=h.low;omega) h.below.size)⟩
theorem bH {w w1:World}{R F:Array Value}(a:Below (w.alloc (.cells R 88)).heap.size (w.alloc (.cells R 88)) w1):
 Wr w w.heap.size w1.heap.size (w1.heap.size+1) R F [] ((w1.alloc (.cells F 264)).alloc (.cells #[.pointer none,'s'] 273)):=by
 have c:Bw w w1:=Ae (Ad _ _) a;have b:=a.size
 simp at b
 refine⟨?_,Qd _ _ _,?_,⟨by omega,by omega⟩,Nat.le_refl _,Ar (Ar c)⟩
 ·exact Ac (Cb a) (Ar (Ad _ _))
 ·refine Kx.fresh _ _ _ (Nat.lt_succ_self _) ?_
  have:=heap_alloc_new (w1.alloc (.cells F 264)) (.cells #[.pointer none,'s'] 273)
  simpa using this
theorem bI (b prev c a next j ok os f root k es:Int)(g on i:ByteArray)(n:List Rc.Ci)(o:List Rc.C9)(T D:Value)(N:g.size≤65535)(O:on.size≤65535)(_ze:i.size≤65535)(w:World):
 Cr 302 #[.agg (Ed b prev c 8 a next j ok os g on f root i k es (T) (D))] w (.string ⟨(Rc.Eu ⟨b,prev,c,8,a,next,j,⟨ok,os,g,on⟩,f,root,⟨i,k,es⟩,n,o⟩).toArray⟩):=by
 have l:=Hq (fun W=>Pm 8 W);rw[show pY 8= .tuple #[La true false false false true,true]from rfl]at l;have m:=Hq (show Rc.Eu ⟨b,prev,c,8,a,next,j,⟨ok,os,g,on⟩,f,root,⟨i,k,es⟩,n,o⟩=Rc.Ji ⟨b,prev,c,8,a,next,j,⟨ok,os,g,on⟩,f,root,⟨i,k,es⟩,n,o⟩++Rc.G7 ⟨b,prev,c,8,a,next,j,⟨ok,os,g,on⟩,f,root,⟨i,k,es⟩,n,o⟩from rfl);rw[Rc.Q9 rfl]at m;generalize Rc.Eu ⟨b,prev,c,8,a,next,j,⟨ok,os,g,on⟩,f,root,⟨i,k,es⟩,n,o⟩=bb at m ⊢;go_enter Tryz.func302,Tryz.ntmps302
 go_upto_region 3 with((go_at_call 324;(with_reducible refine(l.out _).mono ?_);rintro e P ⟨rfl,p⟩))
 have q:=Hq (bH (R:=(Ed b prev c 8 a next j ok os g on f root i k es (T) (D))) (F:=#[true,false,false,false,true]) p);obtain⟨V,M⟩:=ex ((P.alloc (.cells #[true,false,false,false,true] 264)).alloc (.cells #[.pointer none,'s'] 273));rw[← M]at q ⊢;clear M;have v:=Aa q.out.br;have x:=Aa q.out.bf;clear p l
 go_upto_region 4 with((go_at_call 334;refine(q.out.No 1 (by omega) 8 (by simp only[List.length_nil];omega)).mono ?_;rintro e v1 ⟨rfl,d⟩;have H1:=Hq d;clear d;have y:=Aa H1.out.br;have z:=Aa H1.out.bf))
 clear v x q
 go_upto_region 6 with((go_at_call 334;refine(H1.out.tI 6 (by omega) b prev c (by simp only[List.length_append,Eb,List.length_nil];omega)).mono ?_;rintro e v2 ⟨rfl,d⟩;have r:=Hq d;clear d;have A:=Aa r.out.br;have B:=Aa r.out.bf))
 clear y z H1
 go_upto_region 7 with((go_at_call 334;refine(r.out.No 3 (by omega) a (by simp only[List.length_append,Eb,List.length_nil];omega)).mono ?_;rintro e v3 ⟨rfl,d⟩;have s:=Hq d;clear d;have C:=Aa s.out.br;have E:=Aa s.out.bf))
 clear A B r
 go_upto_region 8 with((go_at_call 334;refine(s.out.No 1 (by omega) ok (by simp only[List.length_append,Eb,List.length_nil];omega)).mono ?_;rintro e v4 ⟨rfl,d⟩;have t:=Hq d;clear d;have G:=Aa t.out.br;have H:=Aa t.out.bf))
 clear C E s
 go_upto_region 9 with((go_at_call 334;refine(t.out.No 2 (by omega) os (by simp only[List.length_append,Eb,List.length_nil];omega)).mono ?_;rintro e v5 ⟨rfl,d⟩;have u:=Hq d;clear d;have I:=Aa u.out.br;have J:=Aa u.out.bf))
 clear G H t
 go_upto_region 20 with((go_at_call 335;refine(u.out.mC g on N O (by simp only[List.length_append,Eb,List.length_nil];omega)).mono ?_;rintro e v6 ⟨rfl,d⟩;have K:=Hq d;clear d;have Q:=Aa K.out.br;have S:=Aa K.out.bf))
 clear I J u
 go_wp2_with((go_at_call 154;refine(K.out.done (by intro h;have:=congrArg List.length h;simp only[List.length_append,Eb,List.length_nil]at this;omega)).mono ?_;rintro e U ⟨rfl,L⟩))
 go_ret;refine⟨?_,L⟩;rw[m.out]
 simp[Rc.Ji,Rc.Mw,List.append_assoc]
theorem mD (c prev d a next j ok os f root k es:Int)(g on i:ByteArray)(n:List Rc.Ci)(o:List Rc.C9)(T D:Value)(Q:g.size≤65535)(S:on.size≤65535)(_ze:i.size≤65535)(w:World):
 Cr 302 #[.agg (Ed c prev d 3 a next j ok os g on f root i k es (T) (D))] w (.string ⟨(Rc.Eu ⟨c,prev,d,3,a,next,j,⟨ok,os,g,on⟩,f,root,⟨i,k,es⟩,n,o⟩).toArray⟩):=by
 have l:=Hq (fun W=>Pm 3 W);rw[show pY 3= .tuple #[La true false true false true,true]from rfl]at l;have m:=Hq (show Rc.Eu ⟨c,prev,d,3,a,next,j,⟨ok,os,g,on⟩,f,root,⟨i,k,es⟩,n,o⟩=Rc.Ji ⟨c,prev,d,3,a,next,j,⟨ok,os,g,on⟩,f,root,⟨i,k,es⟩,n,o⟩++Rc.G7 ⟨c,prev,d,3,a,next,j,⟨ok,os,g,on⟩,f,root,⟨i,k,es⟩,n,o⟩from rfl);rw[Rc.Q8 rfl]at m;generalize Rc.Eu ⟨c,prev,d,3,a,next,j,⟨ok,os,g,on⟩,f,root,⟨i,k,es⟩,n,o⟩=bb at m ⊢;go_enter Tryz.func302,Tryz.ntmps302
 go_upto_region 3 with((go_at_call 324;(with_reducible refine(l.out _).mono ?_);rintro e U ⟨rfl,p⟩))
 have q:=Hq (bH (R:=(Ed c prev d 3 a next j ok os g on f root i k es (T) (D))) (F:=#[true,false,true,false,true]) p);obtain⟨V,P⟩:=ex ((U.alloc (.cells #[true,false,true,false,true] 264)).alloc (.cells #[.pointer none,'s'] 273));rw[← P]at q ⊢;clear P;have x:=Aa q.out.br;have y:=Aa q.out.bf;clear p l
 go_upto_region 4 with((go_at_call 334;refine(q.out.No 1 (by omega) 3 (by simp only[List.length_nil];omega)).mono ?_;rintro e v1 ⟨rfl,b⟩;have H1:=Hq b;clear b;have z:=Aa H1.out.br;have A:=Aa H1.out.bf))
 clear x y q
 go_upto_region 6 with((go_at_call 334;refine(H1.out.tI 6 (by omega) c prev d (by simp only[List.length_append,Eb,List.length_nil];omega)).mono ?_;rintro e v2 ⟨rfl,b⟩;have r:=Hq b;clear b;have B:=Aa r.out.br;have C:=Aa r.out.bf))
 clear z A H1
 go_upto_region 7 with((go_at_call 334;refine(r.out.No 3 (by omega) a (by simp only[List.length_append,Eb,List.length_nil];omega)).mono ?_;rintro e v3 ⟨rfl,b⟩;have s:=Hq b;clear b;have E:=Aa s.out.br;have G:=Aa s.out.bf))
 clear B C r
 go_upto_region 8 with((go_at_call 334;refine(s.out.No 1 (by omega) ok (by simp only[List.length_append,Eb,List.length_nil];omega)).mono ?_;rintro e v4 ⟨rfl,b⟩;have t:=Hq b;clear b;have H:=Aa t.out.br;have I:=Aa t.out.bf))
 clear E G s
 go_upto_region 9 with((go_at_call 334;refine(t.out.No 2 (by omega) os (by simp only[List.length_append,Eb,List.length_nil];omega)).mono ?_;rintro e v5 ⟨rfl,b⟩;have u:=Hq b;clear b;have J:=Aa u.out.br;have K:=Aa u.out.bf))
 clear H I t
 go_upto_region 17 with((go_at_call 335;refine(u.out.mC g on Q S (by simp only[List.length_append,Eb,List.length_nil];omega)).mono ?_;rintro e v6 ⟨rfl,b⟩;have v:=Hq b;clear b;have L:=Aa v.out.br;have M:=Aa v.out.bf))
 clear J K u
 go_upto_region 20 with((go_at_call 334;refine(v.out.No 6 (by omega) next (by simp only[List.length_append,Eb,Nn,List.length_nil];omega)).mono ?_;rintro e Z ⟨rfl,b⟩;have N:=Hq b;clear b;have X:=Aa N.out.br;have Y:=Aa N.out.bf))
 clear L M v
 go_wp2_with((go_at_call 154;refine(N.out.done (by intro h;have:=congrArg List.length h;simp only[List.length_append,Eb,List.length_nil]at this;omega)).mono ?_;rintro e w9 ⟨rfl,O⟩))
 go_ret;refine⟨?_,O⟩;rw[m.out]
 simp[Rc.Ji,Rc.Mw,List.append_assoc]
theorem Ym (d prev f b next l ok os c root k es:Int)(g on i:ByteArray)(p:List Rc.Ci)(q:List Rc.C9)(T D:Value)(zo:g.size≤65535)(zn:on.size≤65535)(ze:i.size≤65535)(w:World):
 Cr 302 #[.agg (Ed d prev f 2 b next l ok os g on c root i k es (T) (D))] w (.string ⟨(Rc.Eu ⟨d,prev,f,2,b,next,l,⟨ok,os,g,on⟩,c,root,⟨i,k,es⟩,p,q⟩).toArray⟩):=by
 have m:=Hq (fun W=>Pm 2 W);rw[show pY 2= .tuple #[La true true false false true,true]from rfl]at m;have j:=Hq (show Rc.Eu ⟨d,prev,f,2,b,next,l,⟨ok,os,g,on⟩,c,root,⟨i,k,es⟩,p,q⟩=Rc.Ji ⟨d,prev,f,2,b,next,l,⟨ok,os,g,on⟩,c,root,⟨i,k,es⟩,p,q⟩++Rc.G7 ⟨d,prev,f,2,b,next,l,⟨ok,os,g,on⟩,c,root,⟨i,k,es⟩,p,q⟩from rfl);rw[Rc.Oa rfl]at j;generalize Rc.Eu ⟨d,prev,f,2,b,next,l,⟨ok,os,g,on⟩,c,root,⟨i,k,es⟩,p,q⟩=bb at j ⊢;go_enter Tryz.func302,Tryz.ntmps302
 go_upto_region 3 with((go_at_call 324;(with_reducible refine(m.out _).mono ?_);rintro e w1 ⟨rfl,r⟩))
 have s:=Hq (bH (R:=(Ed d prev f 2 b next l ok os g on c root i k es (T) (D))) (F:=#[true,true,false,false,true]) r);obtain⟨V,hV⟩:=ex ((w1.alloc (.cells #[true,true,false,false,true] 264)).alloc (.cells #[.pointer none,'s'] 273));rw[← hV]at s ⊢;clear hV;have E:=Aa s.out.br;have G:=Aa s.out.bf;clear r m
 go_upto_region 4 with((go_at_call 334;refine(s.out.No 1 (by omega) 2 (by simp only[List.length_nil];omega)).mono ?_;rintro e v1 ⟨rfl,a⟩;have H1:=Hq a;clear a;have H:=Aa H1.out.br;have I:=Aa H1.out.bf))
 clear E G s
 go_upto_region 6 with((go_at_call 334;refine(H1.out.tI 6 (by omega) d prev f (by simp only[List.length_append,Eb,List.length_nil];omega)).mono ?_;rintro e v2 ⟨rfl,a⟩;have u:=Hq a;clear a;have J:=Aa u.out.br;have K:=Aa u.out.bf))
 clear H I H1
 go_upto_region 7 with((go_at_call 334;refine(u.out.No 3 (by omega) b (by simp only[List.length_append,Eb,List.length_nil];omega)).mono ?_;rintro e v3 ⟨rfl,a⟩;have v:=Hq a;clear a;have L:=Aa v.out.br;have M:=Aa v.out.bf))
 clear J K u
 go_upto_region 8 with((go_at_call 334;refine(v.out.No 1 (by omega) ok (by simp only[List.length_append,Eb,List.length_nil];omega)).mono ?_;rintro e v4 ⟨rfl,a⟩;have x:=Hq a;clear a;have N:=Aa x.out.br;have O:=Aa x.out.bf))
 clear L M v
 go_upto_region 9 with((go_at_call 334;refine(x.out.No 2 (by omega) os (by simp only[List.length_append,Eb,List.length_nil];omega)).mono ?_;rintro e v5 ⟨rfl,a⟩;have y:=Hq a;clear a;have P:=Aa y.out.br;have Q:=Aa y.out.bf))
 clear N O x
 go_upto_region 11 with((go_at_call 335;refine(y.out.mC g on zo zn (by simp only[List.length_append,Eb,List.length_nil];omega)).mono ?_;rintro e v6 ⟨rfl,a⟩;have z:=Hq a;clear a;have S:=Aa z.out.br;have U:=Aa z.out.bf))
 clear P Q y
 go_upto_region 12 with((go_at_call 334;refine(z.out.No 1 (by omega) c (by simp only[List.length_append,Eb,Nn,List.length_nil];omega)).mono ?_;rintro e v7 ⟨rfl,a⟩;have t:=Hq a;clear a;have X:=Aa t.out.br;have Y:=Aa t.out.bf))
 clear S U z
 by_cases A:c=1
 ·subst A
  go_upto_region 20 with fail
  go_wp2_with((go_at_call 154;refine(t.out.done (by intro h;have:=congrArg List.length h;simp only[List.length_append,Eb,List.length_nil]at this;omega)).mono ?_;rintro e w9 ⟨rfl,n⟩))
  go_ret;refine⟨?_,n⟩;rw[j.out]
  simp[Rc.Ji,Rc.Mw,Rc.M4,List.append_assoc]
 ·have ae:(c != 1)=true:=by simpa using A
  have HH:=Hq A;clear A;go_upto_region 13 with fail
  go_upto_region 14 with((go_at_call 334;refine(t.out.wF 3 (by omega) root k (by simp only[List.length_append,Eb,Nn,List.length_nil];omega)).mono ?_;rintro e v8 ⟨rfl,a⟩;have B:=Hq a;clear a;have Z:=Aa B.out.br;have a1:=Aa B.out.bf))
  clear X Y t
  go_upto_region 15 with((go_at_call 334;refine(B.out.No 2 (by omega) es (by simp only[List.length_append,Eb,Nn,List.length_nil];omega)).mono ?_;rintro e v9 ⟨rfl,a⟩;have C:=Hq a;clear a;have a6:=Aa C.out.br;have a7:=Aa C.out.bf))
  clear Z a1 B
  go_upto_region 20 with((go_at_call 335;refine(C.out.vC i ze (by simp only[List.length_append,Eb,Nn,List.length_nil];omega)).mono ?_;rintro e v10 ⟨rfl,a⟩;have o:=Hq a;clear a;have aa:=Aa o.out.br;have ad:=Aa o.out.bf))
  clear a6 a7 C
  go_wp2_with((go_at_call 154;refine(o.out.done (by intro h;have:=congrArg List.length h;simp only[List.length_append,Eb,List.length_nil]at this;omega)).mono ?_;rintro e w9 ⟨rfl,n⟩))
  go_ret;refine⟨?_,n⟩;rw[j.out];have a8:=HH.out
  simp[a8,Rc.Ji,Rc.Mw,Rc.M4,List.append_assoc]
end Go.Proofs.YtmldoihahndcgaaGreatDoor
namespace Rc
theorem Yn {r:Rec}(h:Cv r):r.op.Bd.size≤65535∧r.op.new.size≤65535∧r.e.key.size≤65535∧r.txns.length≤1048576∧r.dirty.length≤1048576∧1≤r.kind∧r.kind≤9:=by
 have o:Nj.Bd.size=0:=rfl;have p:Nj.new.size=0:=rfl;have q:Ey.key.size=0:=rfl
 cases h with
 |small kind a prev b v f g i=>
  unfold bare;refine⟨by show Nj.Bd.size≤_;omega,by show Nj.new.size≤_;omega,by show Ey.key.size≤_;omega,by simp,by simp,?_,?_⟩<;>simp only<;>omega
 |change a prev b c op how root e f g i k d l=>
  obtain⟨_,_,_,o1,m⟩:=d;have s:e.key.size≤65535:=by
   rcases l with⟨_,_,j⟩|⟨_,_,_,_,j⟩
   ·simp only at j;rw[j];omega
   ·simp only at j;omega
  exact⟨by simp only;omega,by simp only;omega,s,by simp,by simp,by simp only;omega,by simp only;omega⟩
 |clr a prev b c op next f g i k d l=>
  obtain⟨_,_,_,o1,m⟩:=d;exact⟨by simp only;omega,by simp only;omega,by show Ey.key.size≤_;omega,by simp,by simp,by simp only;omega,by simp only;omega⟩
 |nest a prev b next f g i l=>
  exact⟨by show Nj.Bd.size≤_;omega,by show Nj.new.size≤_;omega,by show Ey.key.size≤_;omega,by simp,by simp,by simp only;omega,by simp only;omega⟩
 |image a prev b c op f g i k d=>
  obtain⟨_,_,_,o1,m⟩:=d;exact⟨by simp only;omega,by simp only;omega,by show Ey.key.size≤_;omega,by simp,by simp,by simp only;omega,by simp only;omega⟩
 |check a prev b n ts ds f g i k d=>
  obtain⟨t,u,_,_⟩:=d;simp only at t u;exact⟨by show Nj.Bd.size≤_;omega,by show Nj.new.size≤_;omega,by show Ey.key.size≤_;omega,by simp only;omega,by simp only;omega,by simp only;omega,by simp only;omega⟩
end Rc
namespace Go.Proofs.YtmldoihahndcgaaGreatDoor
open Go.RowKit
theorem Wr.Bd {w u v:World}{a f b:Nat}{R F:Array Value}{l:List UInt8}(h:Wr w a f b R F l u)(c:Ev (b+1) b u v):Bw w v:=
 h.below.trans (c.below (by have:=h.ab;have:=h.low;omega) (by have:=h.ab;have:=h.low;omega) h.below.size)
theorem mE (x:Rc.Rec)(o:Rc.Cv x)(A D:Option Addr)(c d:Nat)(w:World)(p:Iy w x A c D d)(h:x.kind=2∨x.kind=3∨x.kind=8):
 Cr 302 #[E1 x (.slice A x.txns.length c) (.slice D x.dirty.length d)] w (.string ⟨(Rc.Eu x).toArray⟩):=by
 obtain⟨g,z2,z3,-,-,-,-⟩:=Rc.Yn o;obtain⟨b,prev,e,kind,a,next,i,⟨ok,os,j,on⟩,f,root,⟨k,l,es⟩,m,n⟩:=x;simp only at g z2 z3;rcases(show kind=2∨kind=3∨kind=8 from h)with rfl|rfl|rfl
 ·exact Ym b prev e a next i ok os f root l es j on k m n _ _ g z2 z3 w
 ·exact mD b prev e a next i ok os f root l es j on k m n _ _ g z2 z3 w
 ·exact bI b prev e a next i ok os f root l es j on k m n _ _ g z2 z3 w
end Go.Proofs.YtmldoihahndcgaaGreatDoor
