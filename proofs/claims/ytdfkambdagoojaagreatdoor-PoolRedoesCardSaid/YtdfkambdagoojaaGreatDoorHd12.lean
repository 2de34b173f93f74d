import Derived.Test.YtdfkambdagoojaaGreatDoorHd00
import Derived.Test.YtdfkambdagoojaaGreatDoorHd04
import Derived.Test.YtdfkambdagoojaaGreatDoorHd11
import Derived.Test.YtdfkambdagoojaaGreatDoorHd05
set_option maxRecDepth 100000
set_option maxHeartbeats 16000000
set_option linter.unusedSimpArgs false
namespace Go.Proofs.YtdfkambdagoojaaGreatDoor
open Go.RowKit
theorem Gw (r s:Rc.Rec)(A A' B B':Option Addr)(c c' d d':Nat)(w:World)(Q:Hc w r A c B d)(R:Hc w s A' c' B' d'):
 Cr 154 #[Dp r (.slice A r.txns.length c) (.slice B r.dirty.length d),Dp s (.slice A' s.txns.length c') (.slice B' s.dirty.length d')] w (.bool (decide (r=s))):=by
 have HT:=Hq (fun W hb=>lV r.txns s.txns Q.small.1 R.small.1 A A' c c' W (Q.txns.below hb) (R.txns.below hb));have HD:=Hq (fun W hb=>bG r.dirty s.dirty Q.small.2 R.small.2 B B' d d' W (Q.dirty.below hb) (R.dirty.below hb));have ar:=Q.small.1;have au:=R.small.1;have av:=Q.small.2;have aw:=R.small.2;have HO:=Hq (fun W=>bE r.op s.op W);have HK:=Hq (fun W=>Od r.e s.e W);clear Q R;obtain⟨S,T,U,V,X,Y,Z,j,a1,a6,k,ax,ay⟩:=r;obtain⟨a7,a8,stx,aa,ad,ae,af,l,ag,ah,m,az,b0⟩:=s;simp only at HT HD HO HK ar au av aw ⊢
 by_cases F:S=a7
 rotate_left
 ·rw[decide_eq_false (fun e=>F (congrArg Rc.Rec.lsn e))]
  have b2:(S==a7)=false:=by simp[F]
  have b3:(S != a7)=true:=by simp[F]
  clear F;obtain⟨u,rs,rx,v⟩:=j;obtain⟨x,y,z,C⟩:=l;obtain⟨a,b,f⟩:=k;obtain⟨g,h,i⟩:=m;go_enter Tryz.func154,Tryz.ntmps154;go_wp2_with fail;go_ret;exact⟨by simp,Ak (Ag _ _)⟩
 subst F
 by_cases G:T=a8
 rotate_left
 ·rw[decide_eq_false (fun e=>G (congrArg Rc.Rec.prev e))]
  have b4:(T==a8)=false:=by simp[G]
  have mpr:(T != a8)=true:=by simp[G]
  clear G;obtain⟨u,rs,rx,v⟩:=j;obtain⟨x,y,z,C⟩:=l;obtain⟨a,b,f⟩:=k;obtain⟨g,h,i⟩:=m;go_enter Tryz.func154,Tryz.ntmps154;go_wp2_with fail;go_ret;exact⟨by simp,Ak (Ag _ _)⟩
 subst G
 by_cases H:U=stx
 rotate_left
 ·rw[decide_eq_false (fun e=>H (congrArg Rc.Rec.txn e))]
  have b5:(U==stx)=false:=by simp[H]
  have b6:(U != stx)=true:=by simp[H]
  clear H;obtain⟨u,rs,rx,v⟩:=j;obtain⟨x,y,z,C⟩:=l;obtain⟨a,b,f⟩:=k;obtain⟨g,h,i⟩:=m;go_enter Tryz.func154,Tryz.ntmps154;go_wp2_with fail;go_ret;exact⟨by simp,Ak (Ag _ _)⟩
 subst H
 by_cases I:V=aa
 rotate_left
 ·rw[decide_eq_false (fun e=>I (congrArg Rc.Rec.kind e))]
  have b7:(V==aa)=false:=by simp[I]
  have b8:(V != aa)=true:=by simp[I]
  clear I;obtain⟨u,rs,rx,v⟩:=j;obtain⟨x,y,z,C⟩:=l;obtain⟨a,b,f⟩:=k;obtain⟨g,h,i⟩:=m;go_enter Tryz.func154,Tryz.ntmps154;go_wp2_with fail;go_ret;exact⟨by simp,Ak (Ag _ _)⟩
 subst I
 by_cases J:X=ad
 rotate_left
 ·rw[decide_eq_false (fun e=>J (congrArg Rc.Rec.Ab e))]
  have b9:(X==ad)=false:=by simp[J]
  have ba:(X != ad)=true:=by simp[J]
  clear J;obtain⟨u,rs,rx,v⟩:=j;obtain⟨x,y,z,C⟩:=l;obtain⟨a,b,f⟩:=k;obtain⟨g,h,i⟩:=m;go_enter Tryz.func154,Tryz.ntmps154;go_wp2_with fail;go_ret;exact⟨by simp,Ak (Ag _ _)⟩
 subst J
 by_cases K:Y=ae
 rotate_left
 ·rw[decide_eq_false (fun e=>K (congrArg Rc.Rec.next e))]
  have bb:(Y==ae)=false:=by simp[K]
  have bc:(Y != ae)=true:=by simp[K]
  clear K;obtain⟨u,rs,rx,v⟩:=j;obtain⟨x,y,z,C⟩:=l;obtain⟨a,b,f⟩:=k;obtain⟨g,h,i⟩:=m;go_enter Tryz.func154,Tryz.ntmps154;go_wp2_with fail;go_ret;exact⟨by simp,Ak (Ag _ _)⟩
 subst K
 by_cases L:Z=af
 rotate_left
 ·rw[decide_eq_false (fun e=>L (congrArg Rc.Rec.num e))]
  have bd:(Z==af)=false:=by simp[L]
  have bf:(Z != af)=true:=by simp[L]
  clear L;obtain⟨u,rs,rx,v⟩:=j;obtain⟨x,y,z,C⟩:=l;obtain⟨a,b,f⟩:=k;obtain⟨g,h,i⟩:=m;go_enter Tryz.func154,Tryz.ntmps154;go_wp2_with fail;go_ret;exact⟨by simp,Ak (Ag _ _)⟩
 subst L
 cases D:decide (j=l)with
 |false=>
  rw[decide_eq_false (fun e=>of_decide_eq_false D (congrArg Rc.Rec.op e))];have ai:=HO.out;rw[D]at ai;clear D;obtain⟨u,rs,rx,v⟩:=j;obtain⟨x,y,z,C⟩:=l;obtain⟨a,b,f⟩:=k;obtain⟨g,h,i⟩:=m;go_enter Tryz.func154,Tryz.ntmps154;go_wp2_with fail;go_ret;exact⟨by simp,Ak (Ag _ _)⟩
 |true=>
 have ai:=HO.out;rw[D]at ai;have an:=Hq (of_decide_eq_true D);clear D HO
 by_cases M:a1=ag
 rotate_left
 ·rw[decide_eq_false (fun e=>M (congrArg Rc.Rec.how e))]
  have bg:(a1==ag)=false:=by simp[M]
  have bh:(a1 != ag)=true:=by simp[M]
  clear M;obtain⟨u,rs,rx,v⟩:=j;obtain⟨x,y,z,C⟩:=l;obtain⟨a,b,f⟩:=k;obtain⟨g,h,i⟩:=m;go_enter Tryz.func154,Tryz.ntmps154;go_wp2_with fail;go_ret;exact⟨by simp,Ak (Ag _ _)⟩
 subst M
 by_cases N:a6=ah
 rotate_left
 ·rw[decide_eq_false (fun e=>N (congrArg Rc.Rec.root e))]
  have bj:(a6==ah)=false:=by simp[N]
  have bk:(a6 != ah)=true:=by simp[N]
  clear N;obtain⟨u,rs,rx,v⟩:=j;obtain⟨x,y,z,C⟩:=l;obtain⟨a,b,f⟩:=k;obtain⟨g,h,i⟩:=m;go_enter Tryz.func154,Tryz.ntmps154;go_wp2_with fail;go_ret;exact⟨by simp,Ak (Ag _ _)⟩
 subst N
 cases E:decide (k=m)with
 |false=>
  rw[decide_eq_false (fun e=>of_decide_eq_false E (congrArg Rc.Rec.e e))];have aj:=HK.out;rw[E]at aj;clear E;obtain⟨u,rs,rx,v⟩:=j;obtain⟨x,y,z,C⟩:=l;obtain⟨a,b,f⟩:=k;obtain⟨g,h,i⟩:=m;go_enter Tryz.func154,Tryz.ntmps154;go_wp2_with fail;go_ret;exact⟨by simp,Ak (Ag _ _)⟩
 |true=>
 have aj:=HK.out;rw[E]at aj;have ao:=Hq (of_decide_eq_true E);clear E HK
 cases o:decide (ax=az)with
 |false=>
  have O:=Hq o;rw[decide_eq_false (fun e=>of_decide_eq_false o (congrArg Rc.Rec.txns e))];clear o;obtain⟨u,rs,rx,v⟩:=j;obtain⟨x,y,z,C⟩:=l;obtain⟨a,b,f⟩:=k;obtain⟨g,h,i⟩:=m;go_enter Tryz.func154,Tryz.ntmps154
  go_wp2_with(first|(go_at_call 199;(with_reducible refine(HT.out _ ?_).mono ?_);(exact Ak (Ag _ _));rintro e w2 ⟨rfl,n⟩;have q:=Ae (Km _ _ _) n;have t:=Ae (Gt _ _ _) n;have q1:=Aa q 17;have q2:=Aa t 17;clear q t;simp at q1 q2;rw[O.out]))
  go_ret;exact⟨by simp,Af (Ak (Ag _ _)) n⟩
 |true=>
 have aq:=Hq o;have O:=Hq (of_decide_eq_true o);clear o
 cases p:decide (ay=b0)with
 |false=>
  have P:=Hq p;rw[decide_eq_false (fun e=>of_decide_eq_false p (congrArg Rc.Rec.dirty e))];clear p;obtain⟨u,rs,rx,v⟩:=j;obtain⟨x,y,z,C⟩:=l;obtain⟨a,b,f⟩:=k;obtain⟨g,h,i⟩:=m;go_enter Tryz.func154,Tryz.ntmps154
  go_wp2_with(first|(go_at_call 199;(with_reducible refine(HT.out _ ?_).mono ?_);(exact Ak (Ag _ _));rintro e w2 ⟨rfl,n⟩;have q:=Ae (Km _ _ _) n;have t:=Ae (Gt _ _ _) n;have q1:=Aa q 17;have q2:=Aa t 17;clear q t;simp at q1 q2;rw[aq.out])|(go_at_call 200;(with_reducible refine(HD.out _ ?_).mono ?_);(exact Af (Ak (Ag _ _)) n);rintro e w3 ⟨rfl,ak⟩;rw[P.out]))
  go_ret;exact⟨by simp,Af (Af (Ak (Ag _ _)) n) ak⟩
 |true=>
 have b1:=Hq p;have P:=Hq (of_decide_eq_true p);clear p;rw[decide_eq_true (by rw[an.out,ao.out,O.out,P.out])];clear an ao O P;obtain⟨u,rs,rx,v⟩:=j;obtain⟨x,y,z,C⟩:=l;obtain⟨a,b,f⟩:=k;obtain⟨g,h,i⟩:=m;go_enter Tryz.func154,Tryz.ntmps154
 go_wp2_with(first|(go_at_call 199;(with_reducible refine(HT.out _ ?_).mono ?_);(exact Ak (Ag _ _));rintro e w2 ⟨rfl,n⟩;have q:=Ae (Km _ _ _) n;have t:=Ae (Gt _ _ _) n;have q1:=Aa q 17;have q2:=Aa t 17;clear q t;simp at q1 q2;rw[aq.out])|(go_at_call 200;(with_reducible refine(HD.out _ ?_).mono ?_);(exact Af (Ak (Ag _ _)) n);rintro e w3 ⟨rfl,ak⟩;rw[b1.out]))
 go_ret;exact⟨by simp,Af (Af (Ak (Ag _ _)) n) ak⟩
theorem Da {w:World}{g b j:Nat}{v:Value}{o:Obj}(h:w.heap[g]? =some o)(a:g≠b):(w.setCell ⟨b,j,none⟩ v).heap[g]? =some o:=(Below.heap_setCell _ _ _ _ a).trans h
theorem Hv (r:Rc.Rec)(w:World)(a:r.txns=[])(b:r.dirty=[]):Hc w r none 0 none 0:=by
 refine⟨?_,?_,by rw[a,b];exact⟨Nat.zero_le _,Nat.zero_le _⟩⟩
 ·rw[a];exact Reads.none_ _ _ _ _
 ·rw[b];exact Reads.none_ _ _ _ _
theorem Kw (r:Rc.Rec)(A B:Option Addr)(c d:Nat)(w:World)(hr:Hc w r A c B d):
 Cr 102 #[Dp r (.slice A r.txns.length c) (.slice B r.dirty.length d)] w (.bool (Rc.Et r)):=by
 obtain⟨f,prev,i,kind,Ab,next,E,⟨ok,os,n,on⟩,m,root,⟨I,J,es⟩,G,H⟩:=r;dsimp only[Dp,Ec];obtain⟨z,hz⟩:=ex (Rc.Et ⟨f,prev,i,kind,Ab,next,E,⟨ok,os,n,on⟩,m,root,⟨I,J,es⟩,G,H⟩);rw[← hz];have HZ:=Hq hz;clear hz;obtain⟨w0,ax⟩:=ex (w.alloc (.cells (Bt f prev i kind Ab next E ok os n on m root I J es (.slice A G.length c) (.slice B H.length d)) 47));have av:=Hq (show Bw w w0 from by rw[ax];exact Ag _ _);have a7:=Hq (show w0.heap[w.heap.size]? =some (.cells (Bt f prev i kind Ab next E ok os n on m root I J es (.slice A G.length c) (.slice B H.length d)) 47 (0,0))from by rw[ax];exact heap_alloc_new _ _);have a8:=Hq (fun W (hb:Bw w W)=>hr.below hb);clear hr;go_enter Tryz.func102,Tryz.ntmps102;go_upto_region 1 with fail;rw[← ax];clear ax;obtain⟨g,hg⟩:=ex w.heap.size;rw[← hg]at a7;rw[← hg];clear hg;have L:=Aa a7.out;have H1:=Hq (fun W=>Eo f W);have H2:=Hq (fun W=>Eo prev W);have H3:=Hq (fun W=>Eo i W);have ay:=Hq (show ¬ (Rc.num f∧Rc.num prev∧Rc.num i)→z=false from fun h=>HZ.out.trans (Rc.Fo fun hr=>h (Rc.zH hr)))
 by_cases U:Rc.num f
 rotate_left
 ·rw[decide_eq_false U]at H1
  have O:=Hq (ay.out (fun h=>U h.1));clear U
  go_wp2_with(go_at_call 152;(with_reducible refine(H1.out _).mono ?_);rintro e w1 ⟨rfl,R⟩;have az:=Aa (Ae a7.out R))
  go_ret;exact⟨by rw[O.out];rfl,Af av.out R⟩
 by_cases V:Rc.num prev
 rotate_left
 ·rw[decide_eq_true U]at H1
  rw[decide_eq_false V]at H2;have O:=Hq (ay.out (fun h=>V h.2.1));clear U V
  go_wp2_with(first|(go_at_call 152;(with_reducible refine(H1.out _).mono ?_);rintro e w1 ⟨rfl,R⟩;have az:=Aa (Ae a7.out R))|(go_at_call 152;(with_reducible refine(H2.out _).mono ?_);rintro e w2 ⟨rfl,aa⟩;have b5:=Aa (Ae (Ae a7.out R) aa)))
  go_ret;exact⟨by rw[O.out];rfl,Af av.out (Af R aa)⟩
 by_cases Z:Rc.num i
 rotate_left
 ·rw[decide_eq_true U]at H1
  rw[decide_eq_true V]at H2;rw[decide_eq_false Z]at H3;have O:=Hq (ay.out (fun h=>Z h.2.2));clear U V Z
  go_wp2_with(first|(go_at_call 152;(with_reducible refine(H1.out _).mono ?_);rintro e w1 ⟨rfl,R⟩;have az:=Aa (Ae a7.out R))|(go_at_call 152;(with_reducible refine(H2.out _).mono ?_);rintro e w2 ⟨rfl,aa⟩;have b5:=Aa (Ae (Ae a7.out R) aa))|(go_at_call 152;(with_reducible refine(H3.out _).mono ?_);rintro e w3 ⟨rfl,ak⟩))
  go_ret;exact⟨by rw[O.out];rfl,Af av.out (Af (Af R aa) ak)⟩
 rw[decide_eq_true U]at H1;rw[decide_eq_true V]at H2;rw[decide_eq_true Z]at H3;have aj:=Hq (And.intro U (And.intro V Z));clear U V Z ay;have b6:=Hq (fun W=>nV ⟨f,prev,i,kind,Ab,next,E,⟨ok,os,n,on⟩,m,root,⟨I,J,es⟩,G,H⟩ (.slice A G.length c) (.slice B H.length d) W);dsimp only[Dp,Ec,Rc.bare,Rc.K9,Rc.D6]at b6
 go_upto_region 4 with(first|(go_at_call 152;(with_reducible refine(H1.out _).mono ?_);rintro e w1 ⟨rfl,R⟩;have az:=Aa (Ae a7.out R))|(go_at_call 152;(with_reducible refine(H2.out _).mono ?_);rintro e w2 ⟨rfl,aa⟩;have b5:=Aa (Ae (Ae a7.out R) aa))|(go_at_call 152;(with_reducible refine(H3.out _).mono ?_);rintro e w3 ⟨rfl,ak⟩)|(with_reducible refine lL (Ae a7.out (Af (Af R aa) ak)) Ca ?_)|(go_at_call 153;(with_reducible refine(b6.out _).mono ?_);rintro e w4 ⟨rfl,aw⟩)|with_reducible refine sN (Bt f prev i kind 0 0 0 0 0 ⟨#[]⟩ ⟨#[]⟩ 0 0 ⟨#[]⟩ 0 0 (.slice none 0 0) (.slice none 0 0)) ?_)
 have Q:=Hq (Af (Af (Af (Af av.out R) aa) ak) (Ak (o:=.cells (Bt f prev i kind 0 0 0 0 0 ⟨#[]⟩ ⟨#[]⟩ 0 0 ⟨#[]⟩ 0 0 (.slice none 0 0) (.slice none 0 0)) 47) aw));have M:=Hq (Ae a7.out (Af (Af (Af R aa) ak) (Ak (o:=.cells (Bt f prev i kind 0 0 0 0 0 ⟨#[]⟩ ⟨#[]⟩ 0 0 ⟨#[]⟩ 0 0 (.slice none 0 0) (.slice none 0 0)) 47) aw)));have P:=Hq (heap_alloc_new w4 (.cells (Bt f prev i kind 0 0 0 0 0 ⟨#[]⟩ ⟨#[]⟩ 0 0 ⟨#[]⟩ 0 0 (.slice none 0 0) (.slice none 0 0)) 47));have bg:g<w4.heap.size:=Nat.lt_of_lt_of_le (C8 a7.out) (Af (Af (Af R aa) ak) aw).size;have bh:w.heap.size≤w4.heap.size:=(Af (Af (Af (Af av.out R) aa) ak) aw).size;obtain⟨a,b0⟩:=ex w4.heap.size;obtain⟨W5,b1⟩:=ex (w4.alloc (.cells (Bt f prev i kind 0 0 0 0 0 ⟨#[]⟩ ⟨#[]⟩ 0 0 ⟨#[]⟩ 0 0 (.slice none 0 0) (.slice none 0 0)) 47));rw[← b0,← b1]at P;rw[← b1]at Q M;rw[← b0]at bg bh;rw[← b0,← b1];clear b0 b1 R aa ak aw az b5 L b6 H1 H2 H3 a7
 by_cases b7:1≤kind∧kind≤9
 rotate_left
 ·have O:=Hq (show z=false from HZ.out.trans (Rc.Fo (Rc.vX b7)))
  have k1:(kind==1)=false:=by simp;omega
  have k2:(kind==2)=false:=by simp;omega
  have k3:(kind==3)=false:=by simp;omega
  have k4:(kind==4)=false:=by simp;omega
  have k5:(kind==5)=false:=by simp;omega
  have k6:(kind==6)=false:=by simp;omega
  have k7:(kind==7)=false:=by simp;omega
  have k8:(kind==8)=false:=by simp;omega
  have k9:(kind==9)=false:=by simp;omega
  clear b7;have L:=Aa M.out;go_wp2_with fail;go_ret;exact⟨by rw[O.out];rfl,Q.out⟩
 have h9:(kind=1∨kind=5∨kind=6∨kind=7)∨kind=2∨kind=3∨kind=4∨kind=8∨kind=9:=by omega
 clear b7;rcases h9 with h9|rfl|rfl|rfl|rfl|rfl
 ·rcases h9 with rfl|rfl|rfl|rfl
  ·obtain⟨U,V,Z⟩:=aj.out
   have y:=Hq (show z=decide ((⟨f,prev,i,1,0,0,0,⟨0,0,⟨#[]⟩,⟨#[]⟩⟩,0,0,⟨⟨#[]⟩,0,0⟩,[],[]⟩:Rc.Rec)=⟨f,prev,i,1,Ab,next,E,⟨ok,os,n,on⟩,m,root,⟨I,J,es⟩,G,H⟩)from HZ.out.trans (Rc.Gu ((Rc.Ts (by omega) ⟨U,V,Z⟩).trans decide_eq_true_iff.symm)));clear U V Z;have L:=Aa M.out;have k:=M;have C:=P;have t:=Q;obtain⟨W6,D⟩:=ex W5;rw[← D]at k C t;rw[← D];clear D M P Q L;have L:=Aa k.out;have x:=Hq (Gw (⟨f,prev,i,1,0,0,0,⟨0,0,⟨#[]⟩,⟨#[]⟩⟩,0,0,⟨⟨#[]⟩,0,0⟩,[],[]⟩:Rc.Rec) ⟨f,prev,i,1,Ab,next,E,⟨ok,os,n,on⟩,m,root,⟨I,J,es⟩,G,H⟩ none A none B 0 c 0 d W6 (Hv _ _ rfl rfl) (a8.out _ t.out));dsimp only[Dp,Ec,List.length_nil]at x;generalize decide ((⟨f,prev,i,1,0,0,0,⟨0,0,⟨#[]⟩,⟨#[]⟩⟩,0,0,⟨⟨#[]⟩,0,0⟩,[],[]⟩:Rc.Rec)=⟨f,prev,i,1,Ab,next,E,⟨ok,os,n,on⟩,m,root,⟨I,J,es⟩,G,H⟩)=q at x y
   go_wp2_with(first|with_reducible refine lL C.out Ca ?_|with_reducible refine lL k.out Ca ?_|(go_at_call 154;(with_reducible refine x.out.mono ?_);rintro e w7 ⟨rfl,l⟩;have X:=Aa (Ae k.out l);have Y:=Af t.out l))
   go_ret;exact⟨by rw[y.out];rfl,Y⟩
  ·obtain⟨U,V,Z⟩:=aj.out
   have y:=Hq (show z=decide ((⟨f,prev,i,5,0,0,0,⟨0,0,⟨#[]⟩,⟨#[]⟩⟩,0,0,⟨⟨#[]⟩,0,0⟩,[],[]⟩:Rc.Rec)=⟨f,prev,i,5,Ab,next,E,⟨ok,os,n,on⟩,m,root,⟨I,J,es⟩,G,H⟩)from HZ.out.trans (Rc.Gu ((Rc.Ts (by omega) ⟨U,V,Z⟩).trans decide_eq_true_iff.symm)));clear U V Z;have L:=Aa M.out;have k:=M;have C:=P;have t:=Q;obtain⟨W6,D⟩:=ex W5;rw[← D]at k C t;rw[← D];clear D M P Q L;have L:=Aa k.out;have x:=Hq (Gw (⟨f,prev,i,5,0,0,0,⟨0,0,⟨#[]⟩,⟨#[]⟩⟩,0,0,⟨⟨#[]⟩,0,0⟩,[],[]⟩:Rc.Rec) ⟨f,prev,i,5,Ab,next,E,⟨ok,os,n,on⟩,m,root,⟨I,J,es⟩,G,H⟩ none A none B 0 c 0 d W6 (Hv _ _ rfl rfl) (a8.out _ t.out));dsimp only[Dp,Ec,List.length_nil]at x;generalize decide ((⟨f,prev,i,5,0,0,0,⟨0,0,⟨#[]⟩,⟨#[]⟩⟩,0,0,⟨⟨#[]⟩,0,0⟩,[],[]⟩:Rc.Rec)=⟨f,prev,i,5,Ab,next,E,⟨ok,os,n,on⟩,m,root,⟨I,J,es⟩,G,H⟩)=q at x y
   go_wp2_with(first|with_reducible refine lL C.out Ca ?_|with_reducible refine lL k.out Ca ?_|(go_at_call 154;(with_reducible refine x.out.mono ?_);rintro e w7 ⟨rfl,l⟩;have X:=Aa (Ae k.out l);have Y:=Af t.out l))
   go_ret;exact⟨by rw[y.out];rfl,Y⟩
  ·obtain⟨U,V,Z⟩:=aj.out
   have y:=Hq (show z=decide ((⟨f,prev,i,6,0,0,0,⟨0,0,⟨#[]⟩,⟨#[]⟩⟩,0,0,⟨⟨#[]⟩,0,0⟩,[],[]⟩:Rc.Rec)=⟨f,prev,i,6,Ab,next,E,⟨ok,os,n,on⟩,m,root,⟨I,J,es⟩,G,H⟩)from HZ.out.trans (Rc.Gu ((Rc.Ts (by omega) ⟨U,V,Z⟩).trans decide_eq_true_iff.symm)));clear U V Z;have L:=Aa M.out;have k:=M;have C:=P;have t:=Q;obtain⟨W6,D⟩:=ex W5;rw[← D]at k C t;rw[← D];clear D M P Q L;have L:=Aa k.out;have x:=Hq (Gw (⟨f,prev,i,6,0,0,0,⟨0,0,⟨#[]⟩,⟨#[]⟩⟩,0,0,⟨⟨#[]⟩,0,0⟩,[],[]⟩:Rc.Rec) ⟨f,prev,i,6,Ab,next,E,⟨ok,os,n,on⟩,m,root,⟨I,J,es⟩,G,H⟩ none A none B 0 c 0 d W6 (Hv _ _ rfl rfl) (a8.out _ t.out));dsimp only[Dp,Ec,List.length_nil]at x;generalize decide ((⟨f,prev,i,6,0,0,0,⟨0,0,⟨#[]⟩,⟨#[]⟩⟩,0,0,⟨⟨#[]⟩,0,0⟩,[],[]⟩:Rc.Rec)=⟨f,prev,i,6,Ab,next,E,⟨ok,os,n,on⟩,m,root,⟨I,J,es⟩,G,H⟩)=q at x y
   go_wp2_with(first|with_reducible refine lL C.out Ca ?_|with_reducible refine lL k.out Ca ?_|(go_at_call 154;(with_reducible refine x.out.mono ?_);rintro e w7 ⟨rfl,l⟩;have X:=Aa (Ae k.out l);have Y:=Af t.out l))
   go_ret;exact⟨by rw[y.out];rfl,Y⟩
  ·obtain⟨U,V,Z⟩:=aj.out
   have y:=Hq (show z=decide ((⟨f,prev,i,7,0,0,0,⟨0,0,⟨#[]⟩,⟨#[]⟩⟩,0,0,⟨⟨#[]⟩,0,0⟩,[],[]⟩:Rc.Rec)=⟨f,prev,i,7,Ab,next,E,⟨ok,os,n,on⟩,m,root,⟨I,J,es⟩,G,H⟩)from HZ.out.trans (Rc.Gu ((Rc.Ts (by omega) ⟨U,V,Z⟩).trans decide_eq_true_iff.symm)));clear U V Z;have L:=Aa M.out;have k:=M;have C:=P;have t:=Q;obtain⟨W6,D⟩:=ex W5;rw[← D]at k C t;rw[← D];clear D M P Q L;have L:=Aa k.out;have x:=Hq (Gw (⟨f,prev,i,7,0,0,0,⟨0,0,⟨#[]⟩,⟨#[]⟩⟩,0,0,⟨⟨#[]⟩,0,0⟩,[],[]⟩:Rc.Rec) ⟨f,prev,i,7,Ab,next,E,⟨ok,os,n,on⟩,m,root,⟨I,J,es⟩,G,H⟩ none A none B 0 c 0 d W6 (Hv _ _ rfl rfl) (a8.out _ t.out));dsimp only[Dp,Ec,List.length_nil]at x;generalize decide ((⟨f,prev,i,7,0,0,0,⟨0,0,⟨#[]⟩,⟨#[]⟩⟩,0,0,⟨⟨#[]⟩,0,0⟩,[],[]⟩:Rc.Rec)=⟨f,prev,i,7,Ab,next,E,⟨ok,os,n,on⟩,m,root,⟨I,J,es⟩,G,H⟩)=q at x y
   go_wp2_with(first|with_reducible refine lL C.out Ca ?_|with_reducible refine lL k.out Ca ?_|(go_at_call 154;(with_reducible refine x.out.mono ?_);rintro e w7 ⟨rfl,l⟩;have X:=Aa (Ae k.out l);have Y:=Af t.out l))
   go_ret;exact⟨by rw[y.out];rfl,Y⟩
 ·obtain⟨U,V,Z⟩:=aj.out
  have y:=Hq (show z=(decide ((⟨f,prev,i,2,Ab,0,0,⟨ok,os,n,on⟩,m,root,⟨I,J,es⟩,[],[]⟩:Rc.Rec)=⟨f,prev,i,2,Ab,next,E,⟨ok,os,n,on⟩,m,root,⟨I,J,es⟩,G,H⟩)&&(decide (Rc.pg Ab∧Rc.Jr ⟨ok,os,n,on⟩∧Rc.F7 ⟨f,prev,i,2,Ab,next,E,⟨ok,os,n,on⟩,m,root,⟨I,J,es⟩,G,H⟩)))from HZ.out.trans (Rc.Gu ((Rc.r_2 ⟨U,V,Z⟩).trans (by simp only[Bool.and_eq_true,decide_eq_true_eq];(try exact Iff.rfl)))));clear U V Z;have L:=Aa M.out;go_upto_region 11 with fail;have X0:=Ae M.out (Below.refl _ W5).drew;have G0:=Ae P.out (Below.refl _ W5).drew;have a1:=Af Q.out (Below.refl _ W5).drew;refine Hw (S:=(fun u=>u.heap[g]? =some (.cells (Bt f prev i 2 Ab next E ok os n on m root I J es (.slice A G.length c) (.slice B H.length d)) 47 (0,0)))) (fun s=>?_);generalize W5.drew=V0 at s X0 G0 a1 ⊢;refine Be 0 ?_;refine Be 1 ?_;refine Be 2 ?_;refine Be 3 ?_;refine Be 4 ?_;refine Be 5 ?_;refine Be 6 ?_;refine Be 7 ?_;refine Be 8 ?_;refine Be 9 ?_;refine Be 10 ?_;refine D3 11 fun K T=>?_;have ae:=Aa G0;have af:=Aj G0
  go_simp
  have X1:=(Da (b:=a) (j:=4) (v:=.int .i64 Ab) X0 (by omega));have G1:(V0.setCell ⟨a,4,none⟩ (.int .i64 Ab)).heap[a]? =some (.cells (Bt f prev i 2 Ab 0 0 0 0 ⟨#[]⟩ ⟨#[]⟩ 0 0 ⟨#[]⟩ 0 0 (.slice none 0 0) (.slice none 0 0)) 47 (0,0)):=(by have h:=(Cb 4 G0 (.int .i64 Ab));simpa using h)
  try clear hSn
  have hSn:=X1;refine Db T (fun s=>?_);clear T K;refine Be 12 ?_;refine D3 13 fun K T=>?_;have ag:=Aa G1;have ah:=Aj G1
  go_simp
  have X2:=(Da (b:=a) (j:=10) (v:=.string on) (Da (b:=a) (j:=9) (v:=.string n) (Da (b:=a) (j:=8) (v:=.int .i64 os) (Da (b:=a) (j:=7) (v:=.int .i64 ok) X1 (by omega)) (by omega)) (by omega)) (by omega));have G2:(((((V0.setCell ⟨a,4,none⟩ (.int .i64 Ab)).setCell ⟨a,7,none⟩ (.int .i64 ok)).setCell ⟨a,8,none⟩ (.int .i64 os)).setCell ⟨a,9,none⟩ (.string n)).setCell ⟨a,10,none⟩ (.string on)).heap[a]? =some (.cells (Bt f prev i 2 Ab 0 0 ok os n on 0 0 ⟨#[]⟩ 0 0 (.slice none 0 0) (.slice none 0 0)) 47 (0,0)):=(by have h:=(Cb 10 (Cb 9 (Cb 8 (Cb 7 G1 (.int .i64 ok)) (.int .i64 os)) (.string n)) (.string on));simpa using h)
  try clear hSn
  have hSn:=X2;refine Db T (fun s=>?_);clear T K;refine Be 14 ?_;refine D3 15 fun K T=>?_;have an:=Aa G2;have ao:=Aj G2
  go_simp
  have X3:=(Da (b:=a) (j:=11) (v:=.int .i64 m) X2 (by omega));have G3:((((((V0.setCell ⟨a,4,none⟩ (.int .i64 Ab)).setCell ⟨a,7,none⟩ (.int .i64 ok)).setCell ⟨a,8,none⟩ (.int .i64 os)).setCell ⟨a,9,none⟩ (.string n)).setCell ⟨a,10,none⟩ (.string on)).setCell ⟨a,11,none⟩ (.int .i64 m)).heap[a]? =some (.cells (Bt f prev i 2 Ab 0 0 ok os n on m 0 ⟨#[]⟩ 0 0 (.slice none 0 0) (.slice none 0 0)) 47 (0,0)):=(by have h:=(Cb 11 G2 (.int .i64 m));simpa using h)
  try clear hSn
  have hSn:=X3;refine Db T (fun s=>?_);clear T K;refine Be 16 ?_;refine D3 17 fun K T=>?_;have bb:=Aa G3;have bc:=Aj G3
  go_simp
  have X4:=(Da (b:=a) (j:=12) (v:=.int .i64 root) X3 (by omega));have G4:(((((((V0.setCell ⟨a,4,none⟩ (.int .i64 Ab)).setCell ⟨a,7,none⟩ (.int .i64 ok)).setCell ⟨a,8,none⟩ (.int .i64 os)).setCell ⟨a,9,none⟩ (.string n)).setCell ⟨a,10,none⟩ (.string on)).setCell ⟨a,11,none⟩ (.int .i64 m)).setCell ⟨a,12,none⟩ (.int .i64 root)).heap[a]? =some (.cells (Bt f prev i 2 Ab 0 0 ok os n on m root ⟨#[]⟩ 0 0 (.slice none 0 0) (.slice none 0 0)) 47 (0,0)):=(by have h:=(Cb 12 G3 (.int .i64 root));simpa using h)
  try clear hSn
  have hSn:=X4;refine Db T (fun s=>?_);clear T K;refine Be 18 ?_;refine D3 19 fun K T=>?_;have bd:=Aa G4;have bf:=Aj G4
  go_simp
  have X5:=(Da (b:=a) (j:=15) (v:=.int .i64 es) (Da (b:=a) (j:=14) (v:=.int .i64 J) (Da (b:=a) (j:=13) (v:=.string I) X4 (by omega)) (by omega)) (by omega));have G5:((((((((((V0.setCell ⟨a,4,none⟩ (.int .i64 Ab)).setCell ⟨a,7,none⟩ (.int .i64 ok)).setCell ⟨a,8,none⟩ (.int .i64 os)).setCell ⟨a,9,none⟩ (.string n)).setCell ⟨a,10,none⟩ (.string on)).setCell ⟨a,11,none⟩ (.int .i64 m)).setCell ⟨a,12,none⟩ (.int .i64 root)).setCell ⟨a,13,none⟩ (.string I)).setCell ⟨a,14,none⟩ (.int .i64 J)).setCell ⟨a,15,none⟩ (.int .i64 es)).heap[a]? =some (.cells (Bt f prev i 2 Ab 0 0 ok os n on m root I J es (.slice none 0 0) (.slice none 0 0)) 47 (0,0)):=(by have h:=(Cb 15 (Cb 14 (Cb 13 G4 (.string I)) (.int .i64 J)) (.int .i64 es));simpa using h)
  try clear hSn
  have hSn:=X5;refine Db T (fun s=>?_);clear T K;refine wpAnyH_done Kr ?_ _;clear s hSn;have k:=Hq (show((((((((((V0.setCell ⟨a,4,none⟩ (.int .i64 Ab)).setCell ⟨a,7,none⟩ (.int .i64 ok)).setCell ⟨a,8,none⟩ (.int .i64 os)).setCell ⟨a,9,none⟩ (.string n)).setCell ⟨a,10,none⟩ (.string on)).setCell ⟨a,11,none⟩ (.int .i64 m)).setCell ⟨a,12,none⟩ (.int .i64 root)).setCell ⟨a,13,none⟩ (.string I)).setCell ⟨a,14,none⟩ (.int .i64 J)).setCell ⟨a,15,none⟩ (.int .i64 es)).heap[g]? =some (.cells (Bt f prev i 2 Ab next E ok os n on m root I J es (.slice A G.length c) (.slice B H.length d)) 47 (0,0))from X5);have C:=Hq (show((((((((((V0.setCell ⟨a,4,none⟩ (.int .i64 Ab)).setCell ⟨a,7,none⟩ (.int .i64 ok)).setCell ⟨a,8,none⟩ (.int .i64 os)).setCell ⟨a,9,none⟩ (.string n)).setCell ⟨a,10,none⟩ (.string on)).setCell ⟨a,11,none⟩ (.int .i64 m)).setCell ⟨a,12,none⟩ (.int .i64 root)).setCell ⟨a,13,none⟩ (.string I)).setCell ⟨a,14,none⟩ (.int .i64 J)).setCell ⟨a,15,none⟩ (.int .i64 es)).heap[a]? =some (.cells (Bt f prev i 2 Ab 0 0 ok os n on m root I J es (.slice none 0 0) (.slice none 0 0)) 47 (0,0))from by have h:=G5;simpa using h);have t:=Hq (show Bw w ((((((((((V0.setCell ⟨a,4,none⟩ (.int .i64 Ab)).setCell ⟨a,7,none⟩ (.int .i64 ok)).setCell ⟨a,8,none⟩ (.int .i64 os)).setCell ⟨a,9,none⟩ (.string n)).setCell ⟨a,10,none⟩ (.string on)).setCell ⟨a,11,none⟩ (.int .i64 m)).setCell ⟨a,12,none⟩ (.int .i64 root)).setCell ⟨a,13,none⟩ (.string I)).setCell ⟨a,14,none⟩ (.int .i64 J)).setCell ⟨a,15,none⟩ (.int .i64 es))from((((((((((a1.setCell (p:=⟨a,4,none⟩) (by show _≤a;omega) (.int .i64 Ab)).setCell (p:=⟨a,7,none⟩) (by show _≤a;omega) (.int .i64 ok)).setCell (p:=⟨a,8,none⟩) (by show _≤a;omega) (.int .i64 os)).setCell (p:=⟨a,9,none⟩) (by show _≤a;omega) (.string n)).setCell (p:=⟨a,10,none⟩) (by show _≤a;omega) (.string on)).setCell (p:=⟨a,11,none⟩) (by show _≤a;omega) (.int .i64 m)).setCell (p:=⟨a,12,none⟩) (by show _≤a;omega) (.int .i64 root)).setCell (p:=⟨a,13,none⟩) (by show _≤a;omega) (.string I)).setCell (p:=⟨a,14,none⟩) (by show _≤a;omega) (.int .i64 J)).setCell (p:=⟨a,15,none⟩) (by show _≤a;omega) (.int .i64 es)));obtain⟨W6,D⟩:=ex ((((((((((V0.setCell ⟨a,4,none⟩ (.int .i64 Ab)).setCell ⟨a,7,none⟩ (.int .i64 ok)).setCell ⟨a,8,none⟩ (.int .i64 os)).setCell ⟨a,9,none⟩ (.string n)).setCell ⟨a,10,none⟩ (.string on)).setCell ⟨a,11,none⟩ (.int .i64 m)).setCell ⟨a,12,none⟩ (.int .i64 root)).setCell ⟨a,13,none⟩ (.string I)).setCell ⟨a,14,none⟩ (.int .i64 J)).setCell ⟨a,15,none⟩ (.int .i64 es));rw[← D]at k C t;rw[← D];clear D M P Q L X0 G0 a1 X1 G1 ae af X2 G2 ag ah X3 G3 an ao X4 G4 bb bc X5 G5 bd bf;have L:=Aa k.out;have x:=Hq (Gw (⟨f,prev,i,2,Ab,0,0,⟨ok,os,n,on⟩,m,root,⟨I,J,es⟩,[],[]⟩:Rc.Rec) ⟨f,prev,i,2,Ab,next,E,⟨ok,os,n,on⟩,m,root,⟨I,J,es⟩,G,H⟩ none A none B 0 c 0 d W6 (Hv _ _ rfl rfl) (a8.out _ t.out))
  dsimp only[Dp,Ec,List.length_nil]at x;generalize decide ((⟨f,prev,i,2,Ab,0,0,⟨ok,os,n,on⟩,m,root,⟨I,J,es⟩,[],[]⟩:Rc.Rec)=⟨f,prev,i,2,Ab,next,E,⟨ok,os,n,on⟩,m,root,⟨I,J,es⟩,G,H⟩)=q at x y
  cases q with
  |false=>
   have O:=Hq (show z=false from y.out.trans (Bool.false_and _))
   go_wp2_with(first|with_reducible refine lL C.out Ca ?_|with_reducible refine lL k.out Ca ?_|(go_at_call 154;(with_reducible refine x.out.mono ?_);rintro e w7 ⟨rfl,l⟩;have X:=Aa (Ae k.out l);have Y:=Af t.out l))
   go_ret;exact⟨by rw[O.out];rfl,Y⟩
  |true=>
   have N:=Hq (y.out.trans (Bool.true_and _));clear y;have b8:=Hq (fun W=>cZ ⟨f,prev,i,2,Ab,next,E,⟨ok,os,n,on⟩,m,root,⟨I,J,es⟩,G,H⟩ (.slice A G.length c) (.slice B H.length d) W)
   (try dsimp only[Dp,Ec,Ou]at b8)
   generalize decide (Rc.pg Ab∧Rc.Jr ⟨ok,os,n,on⟩∧Rc.F7 ⟨f,prev,i,2,Ab,next,E,⟨ok,os,n,on⟩,m,root,⟨I,J,es⟩,G,H⟩)=p0 at b8 N
   go_wp2_with(first|with_reducible refine lL C.out Ca ?_|with_reducible refine lL k.out Ca ?_|(go_at_call 154;(with_reducible refine x.out.mono ?_);rintro e w7 ⟨rfl,l⟩;have X:=Aa (Ae k.out l);have Y:=Af t.out l)|with_reducible refine lL (Ae k.out l) Ca ?_|(go_at_call 155;(with_reducible refine(b8.out _).mono ?_);rintro e w8 ⟨rfl,F⟩;have aq:=Aa (Ae (Ae k.out l) F);have B8:=Af Y F))
   go_ret;exact⟨by rw[N.out];simp,B8⟩
 ·obtain⟨U,V,Z⟩:=aj.out
  have y:=Hq (show z=(decide ((⟨f,prev,i,3,Ab,next,0,⟨ok,os,n,on⟩,0,0,⟨⟨#[]⟩,0,0⟩,[],[]⟩:Rc.Rec)=⟨f,prev,i,3,Ab,next,E,⟨ok,os,n,on⟩,m,root,⟨I,J,es⟩,G,H⟩)&&(decide (Rc.pg Ab)&&(decide (Rc.Jr ⟨ok,os,n,on⟩)&&(decide (Rc.num next)))))from HZ.out.trans (Rc.Gu ((Rc.r_3 ⟨U,V,Z⟩).trans (by simp only[Bool.and_eq_true,decide_eq_true_eq];(try exact Iff.rfl)))));clear U V Z;have L:=Aa M.out;go_upto_region 14 with fail;have X0:=Ae M.out (Below.refl _ W5).drew;have G0:=Ae P.out (Below.refl _ W5).drew;have a1:=Af Q.out (Below.refl _ W5).drew;refine Hw (S:=(fun u=>u.heap[g]? =some (.cells (Bt f prev i 3 Ab next E ok os n on m root I J es (.slice A G.length c) (.slice B H.length d)) 47 (0,0)))) (fun s=>?_);generalize W5.drew=V0 at s X0 G0 a1 ⊢;refine Be 0 ?_;refine Be 1 ?_;refine Be 2 ?_;refine Be 3 ?_;refine Be 4 ?_;refine Be 5 ?_;refine Be 6 ?_;refine D3 7 fun K T=>?_;have ae:=Aa G0;have af:=Aj G0
  go_simp
  have X1:=(Da (b:=a) (j:=4) (v:=.int .i64 Ab) X0 (by omega));have G1:(V0.setCell ⟨a,4,none⟩ (.int .i64 Ab)).heap[a]? =some (.cells (Bt f prev i 3 Ab 0 0 0 0 ⟨#[]⟩ ⟨#[]⟩ 0 0 ⟨#[]⟩ 0 0 (.slice none 0 0) (.slice none 0 0)) 47 (0,0)):=(by have h:=(Cb 4 G0 (.int .i64 Ab));simpa using h)
  try clear hSn
  have hSn:=X1;refine Db T (fun s=>?_);clear T K;refine Be 8 ?_;refine D3 9 fun K T=>?_;have ag:=Aa G1;have ah:=Aj G1
  go_simp
  have X2:=(Da (b:=a) (j:=10) (v:=.string on) (Da (b:=a) (j:=9) (v:=.string n) (Da (b:=a) (j:=8) (v:=.int .i64 os) (Da (b:=a) (j:=7) (v:=.int .i64 ok) X1 (by omega)) (by omega)) (by omega)) (by omega));have G2:(((((V0.setCell ⟨a,4,none⟩ (.int .i64 Ab)).setCell ⟨a,7,none⟩ (.int .i64 ok)).setCell ⟨a,8,none⟩ (.int .i64 os)).setCell ⟨a,9,none⟩ (.string n)).setCell ⟨a,10,none⟩ (.string on)).heap[a]? =some (.cells (Bt f prev i 3 Ab 0 0 ok os n on 0 0 ⟨#[]⟩ 0 0 (.slice none 0 0) (.slice none 0 0)) 47 (0,0)):=(by have h:=(Cb 10 (Cb 9 (Cb 8 (Cb 7 G1 (.int .i64 ok)) (.int .i64 os)) (.string n)) (.string on));simpa using h)
  try clear hSn
  have hSn:=X2;refine Db T (fun s=>?_);clear T K;refine Be 10 ?_;refine D3 11 fun K T=>?_;have an:=Aa G2;have ao:=Aj G2
  go_simp
  have X3:=(Da (b:=a) (j:=5) (v:=.int .i64 next) X2 (by omega));have G3:((((((V0.setCell ⟨a,4,none⟩ (.int .i64 Ab)).setCell ⟨a,7,none⟩ (.int .i64 ok)).setCell ⟨a,8,none⟩ (.int .i64 os)).setCell ⟨a,9,none⟩ (.string n)).setCell ⟨a,10,none⟩ (.string on)).setCell ⟨a,5,none⟩ (.int .i64 next)).heap[a]? =some (.cells (Bt f prev i 3 Ab next 0 ok os n on 0 0 ⟨#[]⟩ 0 0 (.slice none 0 0) (.slice none 0 0)) 47 (0,0)):=(by have h:=(Cb 5 G2 (.int .i64 next));simpa using h)
  try clear hSn
  have hSn:=X3;refine Db T (fun s=>?_);clear T K;refine wpAnyH_done Kr ?_ _;clear s hSn;have k:=Hq (show((((((V0.setCell ⟨a,4,none⟩ (.int .i64 Ab)).setCell ⟨a,7,none⟩ (.int .i64 ok)).setCell ⟨a,8,none⟩ (.int .i64 os)).setCell ⟨a,9,none⟩ (.string n)).setCell ⟨a,10,none⟩ (.string on)).setCell ⟨a,5,none⟩ (.int .i64 next)).heap[g]? =some (.cells (Bt f prev i 3 Ab next E ok os n on m root I J es (.slice A G.length c) (.slice B H.length d)) 47 (0,0))from X3);have C:=Hq (show((((((V0.setCell ⟨a,4,none⟩ (.int .i64 Ab)).setCell ⟨a,7,none⟩ (.int .i64 ok)).setCell ⟨a,8,none⟩ (.int .i64 os)).setCell ⟨a,9,none⟩ (.string n)).setCell ⟨a,10,none⟩ (.string on)).setCell ⟨a,5,none⟩ (.int .i64 next)).heap[a]? =some (.cells (Bt f prev i 3 Ab next 0 ok os n on 0 0 ⟨#[]⟩ 0 0 (.slice none 0 0) (.slice none 0 0)) 47 (0,0))from by have h:=G3;simpa using h);have t:=Hq (show Bw w ((((((V0.setCell ⟨a,4,none⟩ (.int .i64 Ab)).setCell ⟨a,7,none⟩ (.int .i64 ok)).setCell ⟨a,8,none⟩ (.int .i64 os)).setCell ⟨a,9,none⟩ (.string n)).setCell ⟨a,10,none⟩ (.string on)).setCell ⟨a,5,none⟩ (.int .i64 next))from((((((a1.setCell (p:=⟨a,4,none⟩) (by show _≤a;omega) (.int .i64 Ab)).setCell (p:=⟨a,7,none⟩) (by show _≤a;omega) (.int .i64 ok)).setCell (p:=⟨a,8,none⟩) (by show _≤a;omega) (.int .i64 os)).setCell (p:=⟨a,9,none⟩) (by show _≤a;omega) (.string n)).setCell (p:=⟨a,10,none⟩) (by show _≤a;omega) (.string on)).setCell (p:=⟨a,5,none⟩) (by show _≤a;omega) (.int .i64 next)));obtain⟨W6,D⟩:=ex ((((((V0.setCell ⟨a,4,none⟩ (.int .i64 Ab)).setCell ⟨a,7,none⟩ (.int .i64 ok)).setCell ⟨a,8,none⟩ (.int .i64 os)).setCell ⟨a,9,none⟩ (.string n)).setCell ⟨a,10,none⟩ (.string on)).setCell ⟨a,5,none⟩ (.int .i64 next));rw[← D]at k C t;rw[← D];clear D M P Q L X0 G0 a1 X1 G1 ae af X2 G2 ag ah X3 G3 an ao;have L:=Aa k.out;have x:=Hq (Gw (⟨f,prev,i,3,Ab,next,0,⟨ok,os,n,on⟩,0,0,⟨⟨#[]⟩,0,0⟩,[],[]⟩:Rc.Rec) ⟨f,prev,i,3,Ab,next,E,⟨ok,os,n,on⟩,m,root,⟨I,J,es⟩,G,H⟩ none A none B 0 c 0 d W6 (Hv _ _ rfl rfl) (a8.out _ t.out));dsimp only[Dp,Ec,List.length_nil]at x;generalize decide ((⟨f,prev,i,3,Ab,next,0,⟨ok,os,n,on⟩,0,0,⟨⟨#[]⟩,0,0⟩,[],[]⟩:Rc.Rec)=⟨f,prev,i,3,Ab,next,E,⟨ok,os,n,on⟩,m,root,⟨I,J,es⟩,G,H⟩)=q at x y
  cases q with
  |false=>
   have O:=Hq (show z=false from y.out.trans (Bool.false_and _))
   go_wp2_with(first|with_reducible refine lL C.out Ca ?_|with_reducible refine lL k.out Ca ?_|(go_at_call 154;(with_reducible refine x.out.mono ?_);rintro e w7 ⟨rfl,l⟩;have X:=Aa (Ae k.out l);have Y:=Af t.out l))
   go_ret;exact⟨by rw[O.out];rfl,Y⟩
  |true=>
   have N:=Hq (y.out.trans (Bool.true_and _));clear y;have ai:=Hq (fun W=>I7 Ab W)
   (try dsimp only[Dp,Ec,Ou]at ai)
   generalize decide (Rc.pg Ab)=p0 at ai N
   cases p0 with
   |false=>
    have O:=Hq (show z=false from N.out.trans (Bool.false_and _))
    go_wp2_with(first|with_reducible refine lL C.out Ca ?_|with_reducible refine lL k.out Ca ?_|(go_at_call 154;(with_reducible refine x.out.mono ?_);rintro e w7 ⟨rfl,l⟩;have X:=Aa (Ae k.out l);have Y:=Af t.out l)|(go_at_call 156;(with_reducible refine(ai.out _).mono ?_);rintro e w8 ⟨rfl,F⟩;have aq:=Aa (Ae (Ae k.out l) F);have B8:=Af Y F))
    go_ret;exact⟨by rw[O.out];rfl,B8⟩
   |true=>
   have a6:=Hq (N.out.trans (Bool.true_and _));have ar:=Hq (fun W=>Zg ⟨ok,os,n,on⟩ W)
   (try dsimp only[Dp,Ec,Ou]at ar)
   generalize decide (Rc.Jr ⟨ok,os,n,on⟩)=p1 at ar a6
   cases p1 with
   |false=>
    have O:=Hq (show z=false from a6.out.trans (Bool.false_and _))
    go_wp2_with(first|with_reducible refine lL C.out Ca ?_|with_reducible refine lL k.out Ca ?_|(go_at_call 154;(with_reducible refine x.out.mono ?_);rintro e w7 ⟨rfl,l⟩;have X:=Aa (Ae k.out l);have Y:=Af t.out l)|(go_at_call 156;(with_reducible refine(ai.out _).mono ?_);rintro e w8 ⟨rfl,F⟩;have aq:=Aa (Ae (Ae k.out l) F);have B8:=Af Y F)|(go_at_call 157;(with_reducible refine(ar.out _).mono ?_);rintro e w9 ⟨rfl,ad⟩;have b9:=Aa (Ae (Ae (Ae k.out l) F) ad);have B9:=Af B8 ad))
    go_ret;exact⟨by rw[O.out];rfl,B9⟩
   |true=>
   have b3:=Hq (a6.out.trans (Bool.true_and _));have au:=Hq (fun W=>Eo next W)
   (try dsimp only[Dp,Ec,Ou]at au)
   generalize decide (Rc.num next)=p2 at au b3
   go_wp2_with(first|with_reducible refine lL C.out Ca ?_|with_reducible refine lL k.out Ca ?_|(go_at_call 154;(with_reducible refine x.out.mono ?_);rintro e w7 ⟨rfl,l⟩;have X:=Aa (Ae k.out l);have Y:=Af t.out l)|(go_at_call 156;(with_reducible refine(ai.out _).mono ?_);rintro e w8 ⟨rfl,F⟩;have aq:=Aa (Ae (Ae k.out l) F);have B8:=Af Y F)|(go_at_call 157;(with_reducible refine(ar.out _).mono ?_);rintro e w9 ⟨rfl,ad⟩;have b9:=Aa (Ae (Ae (Ae k.out l) F) ad);have B9:=Af B8 ad)|(go_at_call 152;(with_reducible refine(au.out _).mono ?_);rintro e bn ⟨rfl,b4⟩;have bm:=Aa (Ae (Ae (Ae (Ae k.out l) F) ad) b4);have bj:=Af B9 b4))
   go_ret;exact⟨by rw[b3.out];simp,bj⟩
 ·obtain⟨U,V,Z⟩:=aj.out
  have y:=Hq (show z=(decide ((⟨f,prev,i,4,0,next,0,⟨0,0,⟨#[]⟩,⟨#[]⟩⟩,0,0,⟨⟨#[]⟩,0,0⟩,[],[]⟩:Rc.Rec)=⟨f,prev,i,4,Ab,next,E,⟨ok,os,n,on⟩,m,root,⟨I,J,es⟩,G,H⟩)&&(decide (Rc.num next)))from HZ.out.trans (Rc.Gu ((Rc.r_4 ⟨U,V,Z⟩).trans (by simp only[Bool.and_eq_true,decide_eq_true_eq];(try exact Iff.rfl)))));clear U V Z;have L:=Aa M.out;have bk:=Aa P.out;have bl:=Aj P.out;go_upto_region 18 with fail;have k:=Hq (show(W5.setCell ⟨a,5,none⟩ (.int .i64 next)).heap[g]? =some (.cells (Bt f prev i 4 Ab next E ok os n on m root I J es (.slice A G.length c) (.slice B H.length d)) 47 (0,0))from Da (b:=a) M.out (by omega));have C:=Hq (show(W5.setCell ⟨a,5,none⟩ (.int .i64 next)).heap[a]? =some (.cells (Bt f prev i 4 0 next 0 0 0 ⟨#[]⟩ ⟨#[]⟩ 0 0 ⟨#[]⟩ 0 0 (.slice none 0 0) (.slice none 0 0)) 47 (0,0))from by have h:=Cb 5 P.out (.int .i64 next);simpa using h);have t:=Hq (show Bw w (W5.setCell ⟨a,5,none⟩ (.int .i64 next))from Q.out.setCell (p:=⟨a,5,none⟩) (by show _≤a;omega) (.int .i64 next));obtain⟨W6,D⟩:=ex (W5.setCell ⟨a,5,none⟩ (.int .i64 next));rw[← D]at k C t;rw[← D];clear D M P Q L bk bl;have L:=Aa k.out;have x:=Hq (Gw (⟨f,prev,i,4,0,next,0,⟨0,0,⟨#[]⟩,⟨#[]⟩⟩,0,0,⟨⟨#[]⟩,0,0⟩,[],[]⟩:Rc.Rec) ⟨f,prev,i,4,Ab,next,E,⟨ok,os,n,on⟩,m,root,⟨I,J,es⟩,G,H⟩ none A none B 0 c 0 d W6 (Hv _ _ rfl rfl) (a8.out _ t.out));dsimp only[Dp,Ec,List.length_nil]at x;generalize decide ((⟨f,prev,i,4,0,next,0,⟨0,0,⟨#[]⟩,⟨#[]⟩⟩,0,0,⟨⟨#[]⟩,0,0⟩,[],[]⟩:Rc.Rec)=⟨f,prev,i,4,Ab,next,E,⟨ok,os,n,on⟩,m,root,⟨I,J,es⟩,G,H⟩)=q at x y
  cases q with
  |false=>
   have O:=Hq (show z=false from y.out.trans (Bool.false_and _))
   go_wp2_with(first|with_reducible refine lL C.out Ca ?_|with_reducible refine lL k.out Ca ?_|(go_at_call 154;(with_reducible refine x.out.mono ?_);rintro e w7 ⟨rfl,l⟩;have X:=Aa (Ae k.out l);have Y:=Af t.out l))
   go_ret;exact⟨by rw[O.out];rfl,Y⟩
  |true=>
   have N:=Hq (y.out.trans (Bool.true_and _));clear y;have au:=Hq (fun W=>Eo next W)
   (try dsimp only[Dp,Ec,Ou]at au)
   generalize decide (Rc.num next)=p0 at au N
   go_wp2_with(first|with_reducible refine lL C.out Ca ?_|with_reducible refine lL k.out Ca ?_|(go_at_call 154;(with_reducible refine x.out.mono ?_);rintro e w7 ⟨rfl,l⟩;have X:=Aa (Ae k.out l);have Y:=Af t.out l)|(go_at_call 152;(with_reducible refine(au.out _).mono ?_);rintro e w8 ⟨rfl,F⟩;have aq:=Aa (Ae (Ae k.out l) F);have B8:=Af Y F))
   go_ret;exact⟨by rw[N.out];simp,B8⟩
 ·obtain⟨U,V,Z⟩:=aj.out
  have y:=Hq (show z=(decide ((⟨f,prev,i,8,Ab,0,0,⟨ok,os,n,on⟩,0,0,⟨⟨#[]⟩,0,0⟩,[],[]⟩:Rc.Rec)=⟨f,prev,i,8,Ab,next,E,⟨ok,os,n,on⟩,m,root,⟨I,J,es⟩,G,H⟩)&&(decide (Rc.pg Ab)&&(decide (Rc.Jr ⟨ok,os,n,on⟩))))from HZ.out.trans (Rc.Gu ((Rc.r_8 ⟨U,V,Z⟩).trans (by simp only[Bool.and_eq_true,decide_eq_true_eq];(try exact Iff.rfl)))));clear U V Z;have L:=Aa M.out;go_upto_region 20 with fail;have X0:=Ae M.out (Below.refl _ W5).drew;have G0:=Ae P.out (Below.refl _ W5).drew;have a1:=Af Q.out (Below.refl _ W5).drew;refine Hw (S:=(fun u=>u.heap[g]? =some (.cells (Bt f prev i 8 Ab next E ok os n on m root I J es (.slice A G.length c) (.slice B H.length d)) 47 (0,0)))) (fun s=>?_);generalize W5.drew=V0 at s X0 G0 a1 ⊢;refine Be 0 ?_;refine Be 1 ?_;refine Be 2 ?_;refine Be 3 ?_;refine Be 4 ?_;refine D3 5 fun K T=>?_;have ae:=Aa G0;have af:=Aj G0
  go_simp
  have X1:=(Da (b:=a) (j:=4) (v:=.int .i64 Ab) X0 (by omega));have G1:(V0.setCell ⟨a,4,none⟩ (.int .i64 Ab)).heap[a]? =some (.cells (Bt f prev i 8 Ab 0 0 0 0 ⟨#[]⟩ ⟨#[]⟩ 0 0 ⟨#[]⟩ 0 0 (.slice none 0 0) (.slice none 0 0)) 47 (0,0)):=(by have h:=(Cb 4 G0 (.int .i64 Ab));simpa using h)
  try clear hSn
  have hSn:=X1;refine Db T (fun s=>?_);clear T K;refine Be 6 ?_;refine D3 7 fun K T=>?_;have ag:=Aa G1;have ah:=Aj G1
  go_simp
  have X2:=(Da (b:=a) (j:=10) (v:=.string on) (Da (b:=a) (j:=9) (v:=.string n) (Da (b:=a) (j:=8) (v:=.int .i64 os) (Da (b:=a) (j:=7) (v:=.int .i64 ok) X1 (by omega)) (by omega)) (by omega)) (by omega));have G2:(((((V0.setCell ⟨a,4,none⟩ (.int .i64 Ab)).setCell ⟨a,7,none⟩ (.int .i64 ok)).setCell ⟨a,8,none⟩ (.int .i64 os)).setCell ⟨a,9,none⟩ (.string n)).setCell ⟨a,10,none⟩ (.string on)).heap[a]? =some (.cells (Bt f prev i 8 Ab 0 0 ok os n on 0 0 ⟨#[]⟩ 0 0 (.slice none 0 0) (.slice none 0 0)) 47 (0,0)):=(by have h:=(Cb 10 (Cb 9 (Cb 8 (Cb 7 G1 (.int .i64 ok)) (.int .i64 os)) (.string n)) (.string on));simpa using h)
  try clear hSn
  have hSn:=X2;refine Db T (fun s=>?_);clear T K;refine wpAnyH_done Kr ?_ _;clear s hSn;have k:=Hq (show(((((V0.setCell ⟨a,4,none⟩ (.int .i64 Ab)).setCell ⟨a,7,none⟩ (.int .i64 ok)).setCell ⟨a,8,none⟩ (.int .i64 os)).setCell ⟨a,9,none⟩ (.string n)).setCell ⟨a,10,none⟩ (.string on)).heap[g]? =some (.cells (Bt f prev i 8 Ab next E ok os n on m root I J es (.slice A G.length c) (.slice B H.length d)) 47 (0,0))from X2);have C:=Hq (show(((((V0.setCell ⟨a,4,none⟩ (.int .i64 Ab)).setCell ⟨a,7,none⟩ (.int .i64 ok)).setCell ⟨a,8,none⟩ (.int .i64 os)).setCell ⟨a,9,none⟩ (.string n)).setCell ⟨a,10,none⟩ (.string on)).heap[a]? =some (.cells (Bt f prev i 8 Ab 0 0 ok os n on 0 0 ⟨#[]⟩ 0 0 (.slice none 0 0) (.slice none 0 0)) 47 (0,0))from by have h:=G2;simpa using h);have t:=Hq (show Bw w (((((V0.setCell ⟨a,4,none⟩ (.int .i64 Ab)).setCell ⟨a,7,none⟩ (.int .i64 ok)).setCell ⟨a,8,none⟩ (.int .i64 os)).setCell ⟨a,9,none⟩ (.string n)).setCell ⟨a,10,none⟩ (.string on))from(((((a1.setCell (p:=⟨a,4,none⟩) (by show _≤a;omega) (.int .i64 Ab)).setCell (p:=⟨a,7,none⟩) (by show _≤a;omega) (.int .i64 ok)).setCell (p:=⟨a,8,none⟩) (by show _≤a;omega) (.int .i64 os)).setCell (p:=⟨a,9,none⟩) (by show _≤a;omega) (.string n)).setCell (p:=⟨a,10,none⟩) (by show _≤a;omega) (.string on)));obtain⟨W6,D⟩:=ex (((((V0.setCell ⟨a,4,none⟩ (.int .i64 Ab)).setCell ⟨a,7,none⟩ (.int .i64 ok)).setCell ⟨a,8,none⟩ (.int .i64 os)).setCell ⟨a,9,none⟩ (.string n)).setCell ⟨a,10,none⟩ (.string on));rw[← D]at k C t;rw[← D];clear D M P Q L X0 G0 a1 X1 G1 ae af X2 G2 ag ah;have L:=Aa k.out;have x:=Hq (Gw (⟨f,prev,i,8,Ab,0,0,⟨ok,os,n,on⟩,0,0,⟨⟨#[]⟩,0,0⟩,[],[]⟩:Rc.Rec) ⟨f,prev,i,8,Ab,next,E,⟨ok,os,n,on⟩,m,root,⟨I,J,es⟩,G,H⟩ none A none B 0 c 0 d W6 (Hv _ _ rfl rfl) (a8.out _ t.out));dsimp only[Dp,Ec,List.length_nil]at x;generalize decide ((⟨f,prev,i,8,Ab,0,0,⟨ok,os,n,on⟩,0,0,⟨⟨#[]⟩,0,0⟩,[],[]⟩:Rc.Rec)=⟨f,prev,i,8,Ab,next,E,⟨ok,os,n,on⟩,m,root,⟨I,J,es⟩,G,H⟩)=q at x y
  cases q with
  |false=>
   have O:=Hq (show z=false from y.out.trans (Bool.false_and _))
   go_wp2_with(first|with_reducible refine lL C.out Ca ?_|with_reducible refine lL k.out Ca ?_|(go_at_call 154;(with_reducible refine x.out.mono ?_);rintro e w7 ⟨rfl,l⟩;have X:=Aa (Ae k.out l);have Y:=Af t.out l))
   go_ret;exact⟨by rw[O.out];rfl,Y⟩
  |true=>
   have N:=Hq (y.out.trans (Bool.true_and _));clear y;have ai:=Hq (fun W=>I7 Ab W)
   (try dsimp only[Dp,Ec,Ou]at ai)
   generalize decide (Rc.pg Ab)=p0 at ai N
   cases p0 with
   |false=>
    have O:=Hq (show z=false from N.out.trans (Bool.false_and _))
    go_wp2_with(first|with_reducible refine lL C.out Ca ?_|with_reducible refine lL k.out Ca ?_|(go_at_call 154;(with_reducible refine x.out.mono ?_);rintro e w7 ⟨rfl,l⟩;have X:=Aa (Ae k.out l);have Y:=Af t.out l)|(go_at_call 156;(with_reducible refine(ai.out _).mono ?_);rintro e w8 ⟨rfl,F⟩;have aq:=Aa (Ae (Ae k.out l) F);have B8:=Af Y F))
    go_ret;exact⟨by rw[O.out];rfl,B8⟩
   |true=>
   have a6:=Hq (N.out.trans (Bool.true_and _));have ar:=Hq (fun W=>Zg ⟨ok,os,n,on⟩ W)
   (try dsimp only[Dp,Ec,Ou]at ar)
   generalize decide (Rc.Jr ⟨ok,os,n,on⟩)=p1 at ar a6
   go_wp2_with(first|with_reducible refine lL C.out Ca ?_|with_reducible refine lL k.out Ca ?_|(go_at_call 154;(with_reducible refine x.out.mono ?_);rintro e w7 ⟨rfl,l⟩;have X:=Aa (Ae k.out l);have Y:=Af t.out l)|(go_at_call 156;(with_reducible refine(ai.out _).mono ?_);rintro e w8 ⟨rfl,F⟩;have aq:=Aa (Ae (Ae k.out l) F);have B8:=Af Y F)|(go_at_call 157;(with_reducible refine(ar.out _).mono ?_);rintro e w9 ⟨rfl,ad⟩;have b9:=Aa (Ae (Ae (Ae k.out l) F) ad);have B9:=Af B8 ad))
   go_ret;exact⟨by rw[a6.out];simp,B9⟩
 ·obtain⟨U,V,Z⟩:=aj.out
  have y:=Hq (show z=(decide ((⟨f,prev,i,9,0,0,E,⟨0,0,⟨#[]⟩,⟨#[]⟩⟩,0,0,⟨⟨#[]⟩,0,0⟩,G,H⟩:Rc.Rec)=⟨f,prev,i,9,Ab,next,E,⟨ok,os,n,on⟩,m,root,⟨I,J,es⟩,G,H⟩)&&(decide (Rc.num E)&&(decide (Rc.Kl ⟨f,prev,i,9,Ab,next,E,⟨ok,os,n,on⟩,m,root,⟨I,J,es⟩,G,H⟩))))from HZ.out.trans (Rc.Gu ((Rc.r_9 ⟨U,V,Z⟩).trans (by simp only[Bool.and_eq_true,decide_eq_true_eq];(try exact Iff.rfl)))));clear U V Z;have L:=Aa M.out;go_upto_region 23 with fail;have X0:=Ae M.out (Below.refl _ W5).drew;have G0:=Ae P.out (Below.refl _ W5).drew;have a1:=Af Q.out (Below.refl _ W5).drew;refine Hw (S:=(fun u=>u.heap[g]? =some (.cells (Bt f prev i 9 Ab next E ok os n on m root I J es (.slice A G.length c) (.slice B H.length d)) 47 (0,0)))) (fun s=>?_);generalize W5.drew=V0 at s X0 G0 a1 ⊢;refine Be 0 ?_;refine Be 1 ?_;refine Be 2 ?_;refine Be 3 ?_;refine Be 4 ?_;refine Be 5 ?_;refine Be 6 ?_;refine D3 7 fun K T=>?_;have ae:=Aa G0;have af:=Aj G0
  go_simp
  have X1:=(Da (b:=a) (j:=6) (v:=.int .i64 E) X0 (by omega));have G1:(V0.setCell ⟨a,6,none⟩ (.int .i64 E)).heap[a]? =some (.cells (Bt f prev i 9 0 0 E 0 0 ⟨#[]⟩ ⟨#[]⟩ 0 0 ⟨#[]⟩ 0 0 (.slice none 0 0) (.slice none 0 0)) 47 (0,0)):=(by have h:=(Cb 6 G0 (.int .i64 E));simpa using h)
  try clear hSn
  have hSn:=X1;refine Db T (fun s=>?_);clear T K;refine Be 8 ?_;refine D3 9 fun K T=>?_;have ag:=Aa G1;have ah:=Aj G1
  go_simp
  have X2:=(Da (b:=a) (j:=16) (v:=.slice A G.length c) X1 (by omega));have G2:((V0.setCell ⟨a,6,none⟩ (.int .i64 E)).setCell ⟨a,16,none⟩ (.slice A G.length c)).heap[a]? =some (.cells (Bt f prev i 9 0 0 E 0 0 ⟨#[]⟩ ⟨#[]⟩ 0 0 ⟨#[]⟩ 0 0 (.slice A G.length c) (.slice none 0 0)) 47 (0,0)):=(by have h:=(Cb 16 G1 (.slice A G.length c));simpa using h)
  try clear hSn
  have hSn:=X2;refine Db T (fun s=>?_);clear T K;refine Be 10 ?_;refine D3 11 fun K T=>?_;have an:=Aa G2;have ao:=Aj G2
  go_simp
  have X3:=(Da (b:=a) (j:=17) (v:=.slice B H.length d) X2 (by omega));have G3:(((V0.setCell ⟨a,6,none⟩ (.int .i64 E)).setCell ⟨a,16,none⟩ (.slice A G.length c)).setCell ⟨a,17,none⟩ (.slice B H.length d)).heap[a]? =some (.cells (Bt f prev i 9 0 0 E 0 0 ⟨#[]⟩ ⟨#[]⟩ 0 0 ⟨#[]⟩ 0 0 (.slice A G.length c) (.slice B H.length d)) 47 (0,0)):=(by have h:=(Cb 17 G2 (.slice B H.length d));simpa using h)
  try clear hSn
  have hSn:=X3;refine Db T (fun s=>?_);clear T K;refine wpAnyH_done Kr ?_ _;clear s hSn;have k:=Hq (show(((V0.setCell ⟨a,6,none⟩ (.int .i64 E)).setCell ⟨a,16,none⟩ (.slice A G.length c)).setCell ⟨a,17,none⟩ (.slice B H.length d)).heap[g]? =some (.cells (Bt f prev i 9 Ab next E ok os n on m root I J es (.slice A G.length c) (.slice B H.length d)) 47 (0,0))from X3);have C:=Hq (show(((V0.setCell ⟨a,6,none⟩ (.int .i64 E)).setCell ⟨a,16,none⟩ (.slice A G.length c)).setCell ⟨a,17,none⟩ (.slice B H.length d)).heap[a]? =some (.cells (Bt f prev i 9 0 0 E 0 0 ⟨#[]⟩ ⟨#[]⟩ 0 0 ⟨#[]⟩ 0 0 (.slice A G.length c) (.slice B H.length d)) 47 (0,0))from by have h:=G3;simpa using h);have t:=Hq (show Bw w (((V0.setCell ⟨a,6,none⟩ (.int .i64 E)).setCell ⟨a,16,none⟩ (.slice A G.length c)).setCell ⟨a,17,none⟩ (.slice B H.length d))from(((a1.setCell (p:=⟨a,6,none⟩) (by show _≤a;omega) (.int .i64 E)).setCell (p:=⟨a,16,none⟩) (by show _≤a;omega) (.slice A G.length c)).setCell (p:=⟨a,17,none⟩) (by show _≤a;omega) (.slice B H.length d)));obtain⟨W6,D⟩:=ex (((V0.setCell ⟨a,6,none⟩ (.int .i64 E)).setCell ⟨a,16,none⟩ (.slice A G.length c)).setCell ⟨a,17,none⟩ (.slice B H.length d));rw[← D]at k C t;rw[← D];clear D M P Q L X0 G0 a1 X1 G1 ae af X2 G2 ag ah X3 G3 an ao;have L:=Aa k.out;have x:=Hq (Gw (⟨f,prev,i,9,0,0,E,⟨0,0,⟨#[]⟩,⟨#[]⟩⟩,0,0,⟨⟨#[]⟩,0,0⟩,G,H⟩:Rc.Rec) ⟨f,prev,i,9,Ab,next,E,⟨ok,os,n,on⟩,m,root,⟨I,J,es⟩,G,H⟩ A A B B c c d d W6 ⟨(a8.out _ t.out).txns,(a8.out _ t.out).dirty,(a8.out _ t.out).small⟩ (a8.out _ t.out));dsimp only[Dp,Ec,List.length_nil]at x;generalize decide ((⟨f,prev,i,9,0,0,E,⟨0,0,⟨#[]⟩,⟨#[]⟩⟩,0,0,⟨⟨#[]⟩,0,0⟩,G,H⟩:Rc.Rec)=⟨f,prev,i,9,Ab,next,E,⟨ok,os,n,on⟩,m,root,⟨I,J,es⟩,G,H⟩)=q at x y
  cases q with
  |false=>
   have O:=Hq (show z=false from y.out.trans (Bool.false_and _))
   go_wp2_with(first|with_reducible refine lL C.out Ca ?_|with_reducible refine lL k.out Ca ?_|(go_at_call 154;(with_reducible refine x.out.mono ?_);rintro e w7 ⟨rfl,l⟩;have X:=Aa (Ae k.out l);have Y:=Af t.out l))
   go_ret;exact⟨by rw[O.out];rfl,Y⟩
  |true=>
   have N:=Hq (y.out.trans (Bool.true_and _));clear y;have b2:=Hq (fun W=>Eo E W)
   (try dsimp only[Dp,Ec,Ou]at b2)
   generalize decide (Rc.num E)=p0 at b2 N
   cases p0 with
   |false=>
    have O:=Hq (show z=false from N.out.trans (Bool.false_and _))
    go_wp2_with(first|with_reducible refine lL C.out Ca ?_|with_reducible refine lL k.out Ca ?_|(go_at_call 154;(with_reducible refine x.out.mono ?_);rintro e w7 ⟨rfl,l⟩;have X:=Aa (Ae k.out l);have Y:=Af t.out l)|(go_at_call 152;(with_reducible refine(b2.out _).mono ?_);rintro e w8 ⟨rfl,F⟩;have aq:=Aa (Ae (Ae k.out l) F);have B8:=Af Y F))
    go_ret;exact⟨by rw[O.out];rfl,B8⟩
   |true=>
   have a6:=Hq (N.out.trans (Bool.true_and _));have ba:=Hq (fun W (hb:Bw w W)=>gW ⟨f,prev,i,9,Ab,next,E,⟨ok,os,n,on⟩,m,root,⟨I,J,es⟩,G,H⟩ A B c d W (a8.out W hb))
   (try dsimp only[Dp,Ec,Ou]at ba)
   generalize decide (Rc.Kl ⟨f,prev,i,9,Ab,next,E,⟨ok,os,n,on⟩,m,root,⟨I,J,es⟩,G,H⟩)=p1 at ba a6
   go_wp2_with(first|with_reducible refine lL C.out Ca ?_|with_reducible refine lL k.out Ca ?_|(go_at_call 154;(with_reducible refine x.out.mono ?_);rintro e w7 ⟨rfl,l⟩;have X:=Aa (Ae k.out l);have Y:=Af t.out l)|(go_at_call 152;(with_reducible refine(b2.out _).mono ?_);rintro e w8 ⟨rfl,F⟩;have aq:=Aa (Ae (Ae k.out l) F);have B8:=Af Y F)|with_reducible refine lL (Ae (Ae k.out l) F) Ca ?_|(go_at_call 158;(with_reducible refine(ba.out _ B8).mono ?_);rintro e w9 ⟨rfl,ad⟩;have b9:=Aa (Ae (Ae (Ae k.out l) F) ad);have B9:=Af B8 ad))
   go_ret;exact⟨by rw[a6.out];simp,B9⟩
end Go.Proofs.YtdfkambdagoojaaGreatDoor
