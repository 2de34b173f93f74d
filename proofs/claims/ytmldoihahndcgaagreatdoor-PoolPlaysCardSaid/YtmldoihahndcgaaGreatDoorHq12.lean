import Derived.Test.YtmldoihahndcgaaGreatDoorHq00
import Derived.Test.YtmldoihahndcgaaGreatDoorHq04
import Derived.Test.YtmldoihahndcgaaGreatDoorHq11
import Derived.Test.YtmldoihahndcgaaGreatDoorHq05
set_option maxRecDepth 100000
set_option maxHeartbeats 16000000
set_option linter.unusedSimpArgs false
namespace Go.Proofs.YtmldoihahndcgaaGreatDoor
open Go.RowKit
theorem Mt (r s:Rc.Rec)(A A' B B':Option Addr)(c c' d d':Nat)(w:World)(Q:Iy w r A c B d)(R:Iy w s A' c' B' d'):
 Cr 269 #[E1 r (.slice A r.txns.length c) (.slice B r.dirty.length d),E1 s (.slice A' s.txns.length c') (.slice B' s.dirty.length d')] w (.bool (decide (r=s))):=by
 have HT:=Hq (fun W hb=>gH r.txns s.txns Q.small.1 R.small.1 A A' c c' W (Q.txns.below hb) (R.txns.below hb));have HD:=Hq (fun W hb=>X8 r.dirty s.dirty Q.small.2 R.small.2 B B' d d' W (Q.dirty.below hb) (R.dirty.below hb));have aq:=Q.small.1;have ar:=R.small.1;have au:=Q.small.2;have av:=R.small.2;have HO:=Hq (fun W=>Xz r.op s.op W);have HK:=Hq (fun W=>Mf r.e s.e W);clear Q R;obtain⟨S,T,U,V,X,Y,Z,j,a1,a6,k,aw,ax⟩:=r;obtain⟨a7,a8,stx,aa,ad,ae,af,l,ag,ah,m,ay,az⟩:=s;simp only at HT HD HO HK aq ar au av ⊢
 by_cases F:S=a7
 rotate_left
 ·rw[decide_eq_false (fun e=>F (congrArg Rc.Rec.lsn e))]
  have b1:(S==a7)=false:=by simp[F]
  have b2:(S != a7)=true:=by simp[F]
  clear F;obtain⟨u,rs,rx,v⟩:=j;obtain⟨x,y,z,C⟩:=l;obtain⟨a,b,f⟩:=k;obtain⟨g,h,i⟩:=m;go_enter Tryz.func269,Tryz.ntmps269;go_wp2_with fail;go_ret;exact⟨by simp,Ar (Ad _ _)⟩
 subst F
 by_cases G:T=a8
 rotate_left
 ·rw[decide_eq_false (fun e=>G (congrArg Rc.Rec.prev e))]
  have b3:(T==a8)=false:=by simp[G]
  have mpr:(T != a8)=true:=by simp[G]
  clear G;obtain⟨u,rs,rx,v⟩:=j;obtain⟨x,y,z,C⟩:=l;obtain⟨a,b,f⟩:=k;obtain⟨g,h,i⟩:=m;go_enter Tryz.func269,Tryz.ntmps269;go_wp2_with fail;go_ret;exact⟨by simp,Ar (Ad _ _)⟩
 subst G
 by_cases H:U=stx
 rotate_left
 ·rw[decide_eq_false (fun e=>H (congrArg Rc.Rec.txn e))]
  have b4:(U==stx)=false:=by simp[H]
  have b5:(U != stx)=true:=by simp[H]
  clear H;obtain⟨u,rs,rx,v⟩:=j;obtain⟨x,y,z,C⟩:=l;obtain⟨a,b,f⟩:=k;obtain⟨g,h,i⟩:=m;go_enter Tryz.func269,Tryz.ntmps269;go_wp2_with fail;go_ret;exact⟨by simp,Ar (Ad _ _)⟩
 subst H
 by_cases I:V=aa
 rotate_left
 ·rw[decide_eq_false (fun e=>I (congrArg Rc.Rec.kind e))]
  have b6:(V==aa)=false:=by simp[I]
  have b7:(V != aa)=true:=by simp[I]
  clear I;obtain⟨u,rs,rx,v⟩:=j;obtain⟨x,y,z,C⟩:=l;obtain⟨a,b,f⟩:=k;obtain⟨g,h,i⟩:=m;go_enter Tryz.func269,Tryz.ntmps269;go_wp2_with fail;go_ret;exact⟨by simp,Ar (Ad _ _)⟩
 subst I
 by_cases J:X=ad
 rotate_left
 ·rw[decide_eq_false (fun e=>J (congrArg Rc.Rec.page e))]
  have b8:(X==ad)=false:=by simp[J]
  have b9:(X != ad)=true:=by simp[J]
  clear J;obtain⟨u,rs,rx,v⟩:=j;obtain⟨x,y,z,C⟩:=l;obtain⟨a,b,f⟩:=k;obtain⟨g,h,i⟩:=m;go_enter Tryz.func269,Tryz.ntmps269;go_wp2_with fail;go_ret;exact⟨by simp,Ar (Ad _ _)⟩
 subst J
 by_cases K:Y=ae
 rotate_left
 ·rw[decide_eq_false (fun e=>K (congrArg Rc.Rec.next e))]
  have ba:(Y==ae)=false:=by simp[K]
  have bb:(Y != ae)=true:=by simp[K]
  clear K;obtain⟨u,rs,rx,v⟩:=j;obtain⟨x,y,z,C⟩:=l;obtain⟨a,b,f⟩:=k;obtain⟨g,h,i⟩:=m;go_enter Tryz.func269,Tryz.ntmps269;go_wp2_with fail;go_ret;exact⟨by simp,Ar (Ad _ _)⟩
 subst K
 by_cases L:Z=af
 rotate_left
 ·rw[decide_eq_false (fun e=>L (congrArg Rc.Rec.num e))]
  have bc:(Z==af)=false:=by simp[L]
  have bd:(Z != af)=true:=by simp[L]
  clear L;obtain⟨u,rs,rx,v⟩:=j;obtain⟨x,y,z,C⟩:=l;obtain⟨a,b,f⟩:=k;obtain⟨g,h,i⟩:=m;go_enter Tryz.func269,Tryz.ntmps269;go_wp2_with fail;go_ret;exact⟨by simp,Ar (Ad _ _)⟩
 subst L
 cases D:decide (j=l)with
 |false=>
  rw[decide_eq_false (fun e=>of_decide_eq_false D (congrArg Rc.Rec.op e))];have ai:=HO.out;rw[D]at ai;clear D;obtain⟨u,rs,rx,v⟩:=j;obtain⟨x,y,z,C⟩:=l;obtain⟨a,b,f⟩:=k;obtain⟨g,h,i⟩:=m;go_enter Tryz.func269,Tryz.ntmps269;go_wp2_with fail;go_ret;exact⟨by simp,Ar (Ad _ _)⟩
 |true=>
 have ai:=HO.out;rw[D]at ai;have al:=Hq (of_decide_eq_true D);clear D HO
 by_cases M:a1=ag
 rotate_left
 ·rw[decide_eq_false (fun e=>M (congrArg Rc.Rec.how e))]
  have bf:(a1==ag)=false:=by simp[M]
  have bg:(a1 != ag)=true:=by simp[M]
  clear M;obtain⟨u,rs,rx,v⟩:=j;obtain⟨x,y,z,C⟩:=l;obtain⟨a,b,f⟩:=k;obtain⟨g,h,i⟩:=m;go_enter Tryz.func269,Tryz.ntmps269;go_wp2_with fail;go_ret;exact⟨by simp,Ar (Ad _ _)⟩
 subst M
 by_cases N:a6=ah
 rotate_left
 ·rw[decide_eq_false (fun e=>N (congrArg Rc.Rec.root e))]
  have bh:(a6==ah)=false:=by simp[N]
  have bj:(a6 != ah)=true:=by simp[N]
  clear N;obtain⟨u,rs,rx,v⟩:=j;obtain⟨x,y,z,C⟩:=l;obtain⟨a,b,f⟩:=k;obtain⟨g,h,i⟩:=m;go_enter Tryz.func269,Tryz.ntmps269;go_wp2_with fail;go_ret;exact⟨by simp,Ar (Ad _ _)⟩
 subst N
 cases E:decide (k=m)with
 |false=>
  rw[decide_eq_false (fun e=>of_decide_eq_false E (congrArg Rc.Rec.e e))];have aj:=HK.out;rw[E]at aj;clear E;obtain⟨u,rs,rx,v⟩:=j;obtain⟨x,y,z,C⟩:=l;obtain⟨a,b,f⟩:=k;obtain⟨g,h,i⟩:=m;go_enter Tryz.func269,Tryz.ntmps269;go_wp2_with fail;go_ret;exact⟨by simp,Ar (Ad _ _)⟩
 |true=>
 have aj:=HK.out;rw[E]at aj;have an:=Hq (of_decide_eq_true E);clear E HK
 cases o:decide (aw=ay)with
 |false=>
  have O:=Hq o;rw[decide_eq_false (fun e=>of_decide_eq_false o (congrArg Rc.Rec.txns e))];clear o;obtain⟨u,rs,rx,v⟩:=j;obtain⟨x,y,z,C⟩:=l;obtain⟨a,b,f⟩:=k;obtain⟨g,h,i⟩:=m;go_enter Tryz.func269,Tryz.ntmps269
  go_wp2_with(first|(go_at_call 313;(with_reducible refine(HT.out _ ?_).mono ?_);(exact Ar (Ad _ _));rintro e w2 ⟨rfl,n⟩;have q:=Ac (Qd _ _ _) n;have t:=Ac (Gd _ _ _) n;have q1:=Aa q 17;have q2:=Aa t 17;clear q t;simp at q1 q2;rw[O.out]))
  go_ret;exact⟨by simp,Ae (Ar (Ad _ _)) n⟩
 |true=>
 have ao:=Hq o;have O:=Hq (of_decide_eq_true o);clear o
 cases p:decide (ax=az)with
 |false=>
  have P:=Hq p;rw[decide_eq_false (fun e=>of_decide_eq_false p (congrArg Rc.Rec.dirty e))];clear p;obtain⟨u,rs,rx,v⟩:=j;obtain⟨x,y,z,C⟩:=l;obtain⟨a,b,f⟩:=k;obtain⟨g,h,i⟩:=m;go_enter Tryz.func269,Tryz.ntmps269
  go_wp2_with(first|(go_at_call 313;(with_reducible refine(HT.out _ ?_).mono ?_);(exact Ar (Ad _ _));rintro e w2 ⟨rfl,n⟩;have q:=Ac (Qd _ _ _) n;have t:=Ac (Gd _ _ _) n;have q1:=Aa q 17;have q2:=Aa t 17;clear q t;simp at q1 q2;rw[ao.out])|(go_at_call 314;(with_reducible refine(HD.out _ ?_).mono ?_);(exact Ae (Ar (Ad _ _)) n);rintro e w3 ⟨rfl,ak⟩;rw[P.out]))
  go_ret;exact⟨by simp,Ae (Ae (Ar (Ad _ _)) n) ak⟩
 |true=>
 have b0:=Hq p;have P:=Hq (of_decide_eq_true p);clear p;rw[decide_eq_true (by rw[al.out,an.out,O.out,P.out])];clear al an O P;obtain⟨u,rs,rx,v⟩:=j;obtain⟨x,y,z,C⟩:=l;obtain⟨a,b,f⟩:=k;obtain⟨g,h,i⟩:=m;go_enter Tryz.func269,Tryz.ntmps269
 go_wp2_with(first|(go_at_call 313;(with_reducible refine(HT.out _ ?_).mono ?_);(exact Ar (Ad _ _));rintro e w2 ⟨rfl,n⟩;have q:=Ac (Qd _ _ _) n;have t:=Ac (Gd _ _ _) n;have q1:=Aa q 17;have q2:=Aa t 17;clear q t;simp at q1 q2;rw[ao.out])|(go_at_call 314;(with_reducible refine(HD.out _ ?_).mono ?_);(exact Ae (Ar (Ad _ _)) n);rintro e w3 ⟨rfl,ak⟩;rw[b0.out]))
 go_ret;exact⟨by simp,Ae (Ae (Ar (Ad _ _)) n) ak⟩
theorem Dl {w:World}{g b j:Nat}{v:Value}{o:Obj}(h:w.heap[g]? =some o)(a:g≠b):(w.setCell ⟨b,j,none⟩ v).heap[g]? =some o:=(Below.heap_setCell _ _ _ _ a).trans h
theorem Mu (r:Rc.Rec)(w:World)(a:r.txns=[])(b:r.dirty=[]):Iy w r none 0 none 0:=by
 refine⟨?_,?_,by rw[a,b];exact⟨Nat.zero_le _,Nat.zero_le _⟩⟩
 ·rw[a];exact Reads.none_ _ _ _ _
 ·rw[b];exact Reads.none_ _ _ _ _
theorem Td (r:Rc.Rec)(A B:Option Addr)(c d:Nat)(w:World)(hr:Iy w r A c B d)(b5:r.kind=1∨r.kind=2∨r.kind=3∨r.kind=8):
 Cr 225 #[E1 r (.slice A r.txns.length c) (.slice B r.dirty.length d)] w (.bool (Rc.Fb r)):=by
 obtain⟨i,prev,k,kind,a,next,U,⟨ok,os,s,on⟩,l,root,⟨E,F,es⟩,N,O⟩:=r;have bb:=Hq (show kind=1∨kind=2∨kind=3∨kind=8 from b5);clear b5;dsimp only[E1,D7];obtain⟨z,hz⟩:=ex (Rc.Fb ⟨i,prev,k,kind,a,next,U,⟨ok,os,s,on⟩,l,root,⟨E,F,es⟩,N,O⟩);rw[← hz];have HZ:=Hq hz;clear hz;obtain⟨w0,aq⟩:=ex (w.alloc (.cells (Ed i prev k kind a next U ok os s on l root E F es (.slice A N.length c) (.slice B O.length d)) 88));have aj:=Hq (show Bw w w0 from by rw[aq];exact Ad _ _);have P:=Hq (show w0.heap[w.heap.size]? =some (.cells (Ed i prev k kind a next U ok os s on l root E F es (.slice A N.length c) (.slice B O.length d)) 88 (0,0))from by rw[aq];exact heap_alloc_new _ _);have ar:=Hq (fun W (hb:Bw w W)=>hr.below hb);clear hr;go_enter Tryz.func225,Tryz.ntmps225;go_upto_region 1 with fail;rw[← aq];clear aq;obtain⟨g,hg⟩:=ex w.heap.size;rw[← hg]at P;rw[← hg];clear hg;have Q:=Aa P.out;have H1:=Hq (fun W=>J2 i W);have H2:=Hq (fun W=>J2 prev W);have H3:=Hq (fun W=>J2 k W);have au:=Hq (show ¬ (Rc.num i∧Rc.num prev∧Rc.num k)→z=false from fun h=>HZ.out.trans (Rc.Fx fun hr=>h (Rc.tW hr)))
 by_cases X:Rc.num i
 rotate_left
 ·rw[decide_eq_false X]at H1
  have G:=Hq (au.out (fun h=>X h.1));clear X
  go_wp2_with(go_at_call 267;(with_reducible refine(H1.out _).mono ?_);rintro e w1 ⟨rfl,D⟩;have av:=Aa (Ac P.out D))
  go_ret;exact⟨by rw[G.out];rfl,Ae aj.out D⟩
 by_cases Z:Rc.num prev
 rotate_left
 ·rw[decide_eq_true X]at H1
  rw[decide_eq_false Z]at H2;have G:=Hq (au.out (fun h=>Z h.2.1));clear X Z
  go_wp2_with(first|(go_at_call 267;(with_reducible refine(H1.out _).mono ?_);rintro e w1 ⟨rfl,D⟩;have av:=Aa (Ac P.out D))|(go_at_call 267;(with_reducible refine(H2.out _).mono ?_);rintro e w2 ⟨rfl,R⟩;have b1:=Aa (Ac (Ac P.out D) R)))
  go_ret;exact⟨by rw[G.out];rfl,Ae aj.out (Ae D R)⟩
 by_cases h3:Rc.num k
 rotate_left
 ·rw[decide_eq_true X]at H1
  rw[decide_eq_true Z]at H2;rw[decide_eq_false h3]at H3;have G:=Hq (au.out (fun h=>h3 h.2.2));clear X Z h3
  go_wp2_with(first|(go_at_call 267;(with_reducible refine(H1.out _).mono ?_);rintro e w1 ⟨rfl,D⟩;have av:=Aa (Ac P.out D))|(go_at_call 267;(with_reducible refine(H2.out _).mono ?_);rintro e w2 ⟨rfl,R⟩;have b1:=Aa (Ac (Ac P.out D) R))|(go_at_call 267;(with_reducible refine(H3.out _).mono ?_);rintro e w3 ⟨rfl,ad⟩))
  go_ret;exact⟨by rw[G.out];rfl,Ae aj.out (Ae (Ae D R) ad)⟩
 rw[decide_eq_true X]at H1;rw[decide_eq_true Z]at H2;rw[decide_eq_true h3]at H3;have aw:=Hq (And.intro X (And.intro Z h3));clear X Z h3 au;have b2:=Hq (fun W=>iW ⟨i,prev,k,kind,a,next,U,⟨ok,os,s,on⟩,l,root,⟨E,F,es⟩,N,O⟩ (.slice A N.length c) (.slice B O.length d) W);dsimp only[E1,D7,Rc.bare,Rc.Nj,Rc.Ey]at b2
 go_upto_region 4 with(first|(go_at_call 267;(with_reducible refine(H1.out _).mono ?_);rintro e w1 ⟨rfl,D⟩;have av:=Aa (Ac P.out D))|(go_at_call 267;(with_reducible refine(H2.out _).mono ?_);rintro e w2 ⟨rfl,R⟩;have b1:=Aa (Ac (Ac P.out D) R))|(go_at_call 267;(with_reducible refine(H3.out _).mono ?_);rintro e w3 ⟨rfl,ad⟩)|(with_reducible refine lL (Ac P.out (Ae (Ae D R) ad)) Ds ?_)|(go_at_call 268;(with_reducible refine(b2.out _).mono ?_);rintro e w4 ⟨rfl,ak⟩)|with_reducible refine sN (Ed i prev k kind 0 0 0 0 0 ⟨#[]⟩ ⟨#[]⟩ 0 0 ⟨#[]⟩ 0 0 (.slice none 0 0) (.slice none 0 0)) ?_)
 have a6:=Hq (Ae (Ae (Ae (Ae aj.out D) R) ad) (Ar (o:=.cells (Ed i prev k kind 0 0 0 0 0 ⟨#[]⟩ ⟨#[]⟩ 0 0 ⟨#[]⟩ 0 0 (.slice none 0 0) (.slice none 0 0)) 88) ak));have T:=Hq (Ac P.out (Ae (Ae (Ae D R) ad) (Ar (o:=.cells (Ed i prev k kind 0 0 0 0 0 ⟨#[]⟩ ⟨#[]⟩ 0 0 ⟨#[]⟩ 0 0 (.slice none 0 0) (.slice none 0 0)) 88) ak)));have a7:=Hq (heap_alloc_new w4 (.cells (Ed i prev k kind 0 0 0 0 0 ⟨#[]⟩ ⟨#[]⟩ 0 0 ⟨#[]⟩ 0 0 (.slice none 0 0) (.slice none 0 0)) 88));have bc:g<w4.heap.size:=Nat.lt_of_lt_of_le (C0 P.out) (Ae (Ae (Ae D R) ad) ak).size;have bd:w.heap.size≤w4.heap.size:=(Ae (Ae (Ae (Ae aj.out D) R) ad) ak).size;obtain⟨f,ax⟩:=ex w4.heap.size;obtain⟨W5,ay⟩:=ex (w4.alloc (.cells (Ed i prev k kind 0 0 0 0 0 ⟨#[]⟩ ⟨#[]⟩ 0 0 ⟨#[]⟩ 0 0 (.slice none 0 0) (.slice none 0 0)) 88));rw[← ax,← ay]at a7;rw[← ay]at a6 T;rw[← ax]at bc bd;rw[← ax,← ay];clear ax ay D R ad ak av b1 Q b2 H1 H2 H3 P;rcases bb.out with rfl|rfl|rfl|rfl
 ·obtain⟨X,Z,h3⟩:=aw.out
  have H:=Hq (show z=decide ((⟨i,prev,k,1,0,0,0,⟨0,0,⟨#[]⟩,⟨#[]⟩⟩,0,0,⟨⟨#[]⟩,0,0⟩,[],[]⟩:Rc.Rec)=⟨i,prev,k,1,a,next,U,⟨ok,os,s,on⟩,l,root,⟨E,F,es⟩,N,O⟩)from HZ.out.trans (Rc.Mg ((Rc.qU (by omega) ⟨X,Z,h3⟩).trans decide_eq_true_iff.symm)));clear X Z h3;have Q:=Aa T.out;have m:=T;have I:=a7;have x:=a6;obtain⟨W6,L⟩:=ex W5;rw[← L]at m I x;rw[← L];clear L T a7 a6 Q;have Q:=Aa m.out;have y:=Hq (Mt (⟨i,prev,k,1,0,0,0,⟨0,0,⟨#[]⟩,⟨#[]⟩⟩,0,0,⟨⟨#[]⟩,0,0⟩,[],[]⟩:Rc.Rec) ⟨i,prev,k,1,a,next,U,⟨ok,os,s,on⟩,l,root,⟨E,F,es⟩,N,O⟩ none A none B 0 c 0 d W6 (Mu _ _ rfl rfl) (ar.out _ x.out));dsimp only[E1,D7,List.length_nil]at y;generalize decide ((⟨i,prev,k,1,0,0,0,⟨0,0,⟨#[]⟩,⟨#[]⟩⟩,0,0,⟨⟨#[]⟩,0,0⟩,[],[]⟩:Rc.Rec)=⟨i,prev,k,1,a,next,U,⟨ok,os,s,on⟩,l,root,⟨E,F,es⟩,N,O⟩)=q at y H
  go_wp2_with(first|with_reducible refine lL I.out Ds ?_|with_reducible refine lL m.out Ds ?_|(go_at_call 269;(with_reducible refine y.out.mono ?_);rintro e w7 ⟨rfl,n⟩;have a8:=Aa (Ac m.out n);have B7:=Ae x.out n))
  go_ret;exact⟨by rw[H.out];rfl,B7⟩
 ·obtain⟨X,Z,h3⟩:=aw.out
  have H:=Hq (show z=(decide ((⟨i,prev,k,2,a,0,0,⟨ok,os,s,on⟩,l,root,⟨E,F,es⟩,[],[]⟩:Rc.Rec)=⟨i,prev,k,2,a,next,U,⟨ok,os,s,on⟩,l,root,⟨E,F,es⟩,N,O⟩)&&(decide (Rc.pg a∧Rc.Iv ⟨ok,os,s,on⟩∧Rc.F0 ⟨i,prev,k,2,a,next,U,⟨ok,os,s,on⟩,l,root,⟨E,F,es⟩,N,O⟩)))from HZ.out.trans (Rc.Mg ((Rc.xO ⟨X,Z,h3⟩).trans (by simp only[Bool.and_eq_true,decide_eq_true_eq];(try exact Iff.rfl)))));clear X Z h3;have Q:=Aa T.out;go_upto_region 11 with fail;have X0:=Ac T.out (Below.refl _ W5).drew;have G0:=Ac a7.out (Below.refl _ W5).drew;have V:=Ae a6.out (Below.refl _ W5).drew;refine E4 (S:=(fun u=>u.heap[g]? =some (.cells (Ed i prev k 2 a next U ok os s on l root E F es (.slice A N.length c) (.slice B O.length d)) 88 (0,0)))) (fun t=>?_);generalize W5.drew=V0 at t X0 G0 V ⊢;refine Au 0 ?_;refine Au 1 ?_;refine Au 2 ?_;refine Au 3 ?_;refine Au 4 ?_;refine Au 5 ?_;refine Au 6 ?_;refine Au 7 ?_;refine Au 8 ?_;refine Au 9 ?_;refine Au 10 ?_;refine Bx 11 fun K M=>?_;have ae:=Aa G0;have af:=Ao G0
  go_simp
  have X1:=(Dl (b:=f) (j:=4) (v:=.int .i64 a) X0 (by omega));have G1:(V0.setCell ⟨f,4,none⟩ (.int .i64 a)).heap[f]? =some (.cells (Ed i prev k 2 a 0 0 0 0 ⟨#[]⟩ ⟨#[]⟩ 0 0 ⟨#[]⟩ 0 0 (.slice none 0 0) (.slice none 0 0)) 88 (0,0)):=(by have h:=(Bs 4 G0 (.int .i64 a));simpa using h)
  try clear hSn
  have hSn:=X1;refine Bl M (fun t=>?_);clear M K;refine Au 12 ?_;refine Bx 13 fun K M=>?_;have ag:=Aa G1;have ah:=Ao G1
  go_simp
  have X2:=(Dl (b:=f) (j:=10) (v:=.string on) (Dl (b:=f) (j:=9) (v:=.string s) (Dl (b:=f) (j:=8) (v:=.int .i64 os) (Dl (b:=f) (j:=7) (v:=.int .i64 ok) X1 (by omega)) (by omega)) (by omega)) (by omega));have G2:(((((V0.setCell ⟨f,4,none⟩ (.int .i64 a)).setCell ⟨f,7,none⟩ (.int .i64 ok)).setCell ⟨f,8,none⟩ (.int .i64 os)).setCell ⟨f,9,none⟩ (.string s)).setCell ⟨f,10,none⟩ (.string on)).heap[f]? =some (.cells (Ed i prev k 2 a 0 0 ok os s on 0 0 ⟨#[]⟩ 0 0 (.slice none 0 0) (.slice none 0 0)) 88 (0,0)):=(by have h:=(Bs 10 (Bs 9 (Bs 8 (Bs 7 G1 (.int .i64 ok)) (.int .i64 os)) (.string s)) (.string on));simpa using h)
  try clear hSn
  have hSn:=X2;refine Bl M (fun t=>?_);clear M K;refine Au 14 ?_;refine Bx 15 fun K M=>?_;have al:=Aa G2;have an:=Ao G2
  go_simp
  have X3:=(Dl (b:=f) (j:=11) (v:=.int .i64 l) X2 (by omega));have G3:((((((V0.setCell ⟨f,4,none⟩ (.int .i64 a)).setCell ⟨f,7,none⟩ (.int .i64 ok)).setCell ⟨f,8,none⟩ (.int .i64 os)).setCell ⟨f,9,none⟩ (.string s)).setCell ⟨f,10,none⟩ (.string on)).setCell ⟨f,11,none⟩ (.int .i64 l)).heap[f]? =some (.cells (Ed i prev k 2 a 0 0 ok os s on l 0 ⟨#[]⟩ 0 0 (.slice none 0 0) (.slice none 0 0)) 88 (0,0)):=(by have h:=(Bs 11 G2 (.int .i64 l));simpa using h)
  try clear hSn
  have hSn:=X3;refine Bl M (fun t=>?_);clear M K;refine Au 16 ?_;refine Bx 17 fun K M=>?_;have b6:=Aa G3;have b7:=Ao G3
  go_simp
  have X4:=(Dl (b:=f) (j:=12) (v:=.int .i64 root) X3 (by omega));have G4:(((((((V0.setCell ⟨f,4,none⟩ (.int .i64 a)).setCell ⟨f,7,none⟩ (.int .i64 ok)).setCell ⟨f,8,none⟩ (.int .i64 os)).setCell ⟨f,9,none⟩ (.string s)).setCell ⟨f,10,none⟩ (.string on)).setCell ⟨f,11,none⟩ (.int .i64 l)).setCell ⟨f,12,none⟩ (.int .i64 root)).heap[f]? =some (.cells (Ed i prev k 2 a 0 0 ok os s on l root ⟨#[]⟩ 0 0 (.slice none 0 0) (.slice none 0 0)) 88 (0,0)):=(by have h:=(Bs 12 G3 (.int .i64 root));simpa using h)
  try clear hSn
  have hSn:=X4;refine Bl M (fun t=>?_);clear M K;refine Au 18 ?_;refine Bx 19 fun K M=>?_;have b8:=Aa G4;have b9:=Ao G4
  go_simp
  have X5:=(Dl (b:=f) (j:=15) (v:=.int .i64 es) (Dl (b:=f) (j:=14) (v:=.int .i64 F) (Dl (b:=f) (j:=13) (v:=.string E) X4 (by omega)) (by omega)) (by omega));have G5:((((((((((V0.setCell ⟨f,4,none⟩ (.int .i64 a)).setCell ⟨f,7,none⟩ (.int .i64 ok)).setCell ⟨f,8,none⟩ (.int .i64 os)).setCell ⟨f,9,none⟩ (.string s)).setCell ⟨f,10,none⟩ (.string on)).setCell ⟨f,11,none⟩ (.int .i64 l)).setCell ⟨f,12,none⟩ (.int .i64 root)).setCell ⟨f,13,none⟩ (.string E)).setCell ⟨f,14,none⟩ (.int .i64 F)).setCell ⟨f,15,none⟩ (.int .i64 es)).heap[f]? =some (.cells (Ed i prev k 2 a 0 0 ok os s on l root E F es (.slice none 0 0) (.slice none 0 0)) 88 (0,0)):=(by have h:=(Bs 15 (Bs 14 (Bs 13 G4 (.string E)) (.int .i64 F)) (.int .i64 es));simpa using h)
  try clear hSn
  have hSn:=X5;refine Bl M (fun t=>?_);clear M K;refine wpAnyH_done Kr ?_ _;clear t hSn;have m:=Hq (show((((((((((V0.setCell ⟨f,4,none⟩ (.int .i64 a)).setCell ⟨f,7,none⟩ (.int .i64 ok)).setCell ⟨f,8,none⟩ (.int .i64 os)).setCell ⟨f,9,none⟩ (.string s)).setCell ⟨f,10,none⟩ (.string on)).setCell ⟨f,11,none⟩ (.int .i64 l)).setCell ⟨f,12,none⟩ (.int .i64 root)).setCell ⟨f,13,none⟩ (.string E)).setCell ⟨f,14,none⟩ (.int .i64 F)).setCell ⟨f,15,none⟩ (.int .i64 es)).heap[g]? =some (.cells (Ed i prev k 2 a next U ok os s on l root E F es (.slice A N.length c) (.slice B O.length d)) 88 (0,0))from X5);have I:=Hq (show((((((((((V0.setCell ⟨f,4,none⟩ (.int .i64 a)).setCell ⟨f,7,none⟩ (.int .i64 ok)).setCell ⟨f,8,none⟩ (.int .i64 os)).setCell ⟨f,9,none⟩ (.string s)).setCell ⟨f,10,none⟩ (.string on)).setCell ⟨f,11,none⟩ (.int .i64 l)).setCell ⟨f,12,none⟩ (.int .i64 root)).setCell ⟨f,13,none⟩ (.string E)).setCell ⟨f,14,none⟩ (.int .i64 F)).setCell ⟨f,15,none⟩ (.int .i64 es)).heap[f]? =some (.cells (Ed i prev k 2 a 0 0 ok os s on l root E F es (.slice none 0 0) (.slice none 0 0)) 88 (0,0))from by have h:=G5;simpa using h);have x:=Hq (show Bw w ((((((((((V0.setCell ⟨f,4,none⟩ (.int .i64 a)).setCell ⟨f,7,none⟩ (.int .i64 ok)).setCell ⟨f,8,none⟩ (.int .i64 os)).setCell ⟨f,9,none⟩ (.string s)).setCell ⟨f,10,none⟩ (.string on)).setCell ⟨f,11,none⟩ (.int .i64 l)).setCell ⟨f,12,none⟩ (.int .i64 root)).setCell ⟨f,13,none⟩ (.string E)).setCell ⟨f,14,none⟩ (.int .i64 F)).setCell ⟨f,15,none⟩ (.int .i64 es))from((((((((((V.setCell (p:=⟨f,4,none⟩) (by show _≤f;omega) (.int .i64 a)).setCell (p:=⟨f,7,none⟩) (by show _≤f;omega) (.int .i64 ok)).setCell (p:=⟨f,8,none⟩) (by show _≤f;omega) (.int .i64 os)).setCell (p:=⟨f,9,none⟩) (by show _≤f;omega) (.string s)).setCell (p:=⟨f,10,none⟩) (by show _≤f;omega) (.string on)).setCell (p:=⟨f,11,none⟩) (by show _≤f;omega) (.int .i64 l)).setCell (p:=⟨f,12,none⟩) (by show _≤f;omega) (.int .i64 root)).setCell (p:=⟨f,13,none⟩) (by show _≤f;omega) (.string E)).setCell (p:=⟨f,14,none⟩) (by show _≤f;omega) (.int .i64 F)).setCell (p:=⟨f,15,none⟩) (by show _≤f;omega) (.int .i64 es)));obtain⟨W6,L⟩:=ex ((((((((((V0.setCell ⟨f,4,none⟩ (.int .i64 a)).setCell ⟨f,7,none⟩ (.int .i64 ok)).setCell ⟨f,8,none⟩ (.int .i64 os)).setCell ⟨f,9,none⟩ (.string s)).setCell ⟨f,10,none⟩ (.string on)).setCell ⟨f,11,none⟩ (.int .i64 l)).setCell ⟨f,12,none⟩ (.int .i64 root)).setCell ⟨f,13,none⟩ (.string E)).setCell ⟨f,14,none⟩ (.int .i64 F)).setCell ⟨f,15,none⟩ (.int .i64 es));rw[← L]at m I x;rw[← L];clear L T a7 a6 Q X0 G0 V X1 G1 ae af X2 G2 ag ah X3 G3 al an X4 G4 b6 b7 X5 G5 b8 b9;have Q:=Aa m.out;have y:=Hq (Mt (⟨i,prev,k,2,a,0,0,⟨ok,os,s,on⟩,l,root,⟨E,F,es⟩,[],[]⟩:Rc.Rec) ⟨i,prev,k,2,a,next,U,⟨ok,os,s,on⟩,l,root,⟨E,F,es⟩,N,O⟩ none A none B 0 c 0 d W6 (Mu _ _ rfl rfl) (ar.out _ x.out))
  dsimp only[E1,D7,List.length_nil]at y;generalize decide ((⟨i,prev,k,2,a,0,0,⟨ok,os,s,on⟩,l,root,⟨E,F,es⟩,[],[]⟩:Rc.Rec)=⟨i,prev,k,2,a,next,U,⟨ok,os,s,on⟩,l,root,⟨E,F,es⟩,N,O⟩)=q at y H
  cases q with
  |false=>
   have G:=Hq (show z=false from H.out.trans (Bool.false_and _))
   go_wp2_with(first|with_reducible refine lL I.out Ds ?_|with_reducible refine lL m.out Ds ?_|(go_at_call 269;(with_reducible refine y.out.mono ?_);rintro e w7 ⟨rfl,n⟩;have a8:=Aa (Ac m.out n);have B7:=Ae x.out n))
   go_ret;exact⟨by rw[G.out];rfl,B7⟩
  |true=>
   have J:=Hq (H.out.trans (Bool.true_and _));clear H;have b3:=Hq (fun W=>Zc ⟨i,prev,k,2,a,next,U,⟨ok,os,s,on⟩,l,root,⟨E,F,es⟩,N,O⟩ (.slice A N.length c) (.slice B O.length d) W)
   (try dsimp only[E1,D7,lT]at b3)
   generalize decide (Rc.pg a∧Rc.Iv ⟨ok,os,s,on⟩∧Rc.F0 ⟨i,prev,k,2,a,next,U,⟨ok,os,s,on⟩,l,root,⟨E,F,es⟩,N,O⟩)=p0 at b3 J
   go_wp2_with(first|with_reducible refine lL I.out Ds ?_|with_reducible refine lL m.out Ds ?_|(go_at_call 269;(with_reducible refine y.out.mono ?_);rintro e w7 ⟨rfl,n⟩;have a8:=Aa (Ac m.out n);have B7:=Ae x.out n)|with_reducible refine lL (Ac m.out n) Ds ?_|(go_at_call 270;(with_reducible refine(b3.out _).mono ?_);rintro e w8 ⟨rfl,C⟩;have ao:=Aa (Ac (Ac m.out n) C);have B8:=Ae B7 C))
   go_ret;exact⟨by rw[J.out];simp,B8⟩
 ·obtain⟨X,Z,h3⟩:=aw.out
  have H:=Hq (show z=(decide ((⟨i,prev,k,3,a,next,0,⟨ok,os,s,on⟩,0,0,⟨⟨#[]⟩,0,0⟩,[],[]⟩:Rc.Rec)=⟨i,prev,k,3,a,next,U,⟨ok,os,s,on⟩,l,root,⟨E,F,es⟩,N,O⟩)&&(decide (Rc.pg a)&&(decide (Rc.Iv ⟨ok,os,s,on⟩)&&(decide (Rc.num next)))))from HZ.out.trans (Rc.Mg ((Rc.xP ⟨X,Z,h3⟩).trans (by simp only[Bool.and_eq_true,decide_eq_true_eq];(try exact Iff.rfl)))));clear X Z h3;have Q:=Aa T.out;go_upto_region 14 with fail;have X0:=Ac T.out (Below.refl _ W5).drew;have G0:=Ac a7.out (Below.refl _ W5).drew;have V:=Ae a6.out (Below.refl _ W5).drew;refine E4 (S:=(fun u=>u.heap[g]? =some (.cells (Ed i prev k 3 a next U ok os s on l root E F es (.slice A N.length c) (.slice B O.length d)) 88 (0,0)))) (fun t=>?_);generalize W5.drew=V0 at t X0 G0 V ⊢;refine Au 0 ?_;refine Au 1 ?_;refine Au 2 ?_;refine Au 3 ?_;refine Au 4 ?_;refine Au 5 ?_;refine Au 6 ?_;refine Bx 7 fun K M=>?_;have ae:=Aa G0;have af:=Ao G0
  go_simp
  have X1:=(Dl (b:=f) (j:=4) (v:=.int .i64 a) X0 (by omega));have G1:(V0.setCell ⟨f,4,none⟩ (.int .i64 a)).heap[f]? =some (.cells (Ed i prev k 3 a 0 0 0 0 ⟨#[]⟩ ⟨#[]⟩ 0 0 ⟨#[]⟩ 0 0 (.slice none 0 0) (.slice none 0 0)) 88 (0,0)):=(by have h:=(Bs 4 G0 (.int .i64 a));simpa using h)
  try clear hSn
  have hSn:=X1;refine Bl M (fun t=>?_);clear M K;refine Au 8 ?_;refine Bx 9 fun K M=>?_;have ag:=Aa G1;have ah:=Ao G1
  go_simp
  have X2:=(Dl (b:=f) (j:=10) (v:=.string on) (Dl (b:=f) (j:=9) (v:=.string s) (Dl (b:=f) (j:=8) (v:=.int .i64 os) (Dl (b:=f) (j:=7) (v:=.int .i64 ok) X1 (by omega)) (by omega)) (by omega)) (by omega));have G2:(((((V0.setCell ⟨f,4,none⟩ (.int .i64 a)).setCell ⟨f,7,none⟩ (.int .i64 ok)).setCell ⟨f,8,none⟩ (.int .i64 os)).setCell ⟨f,9,none⟩ (.string s)).setCell ⟨f,10,none⟩ (.string on)).heap[f]? =some (.cells (Ed i prev k 3 a 0 0 ok os s on 0 0 ⟨#[]⟩ 0 0 (.slice none 0 0) (.slice none 0 0)) 88 (0,0)):=(by have h:=(Bs 10 (Bs 9 (Bs 8 (Bs 7 G1 (.int .i64 ok)) (.int .i64 os)) (.string s)) (.string on));simpa using h)
  try clear hSn
  have hSn:=X2;refine Bl M (fun t=>?_);clear M K;refine Au 10 ?_;refine Bx 11 fun K M=>?_;have al:=Aa G2;have an:=Ao G2
  go_simp
  have X3:=(Dl (b:=f) (j:=5) (v:=.int .i64 next) X2 (by omega));have G3:((((((V0.setCell ⟨f,4,none⟩ (.int .i64 a)).setCell ⟨f,7,none⟩ (.int .i64 ok)).setCell ⟨f,8,none⟩ (.int .i64 os)).setCell ⟨f,9,none⟩ (.string s)).setCell ⟨f,10,none⟩ (.string on)).setCell ⟨f,5,none⟩ (.int .i64 next)).heap[f]? =some (.cells (Ed i prev k 3 a next 0 ok os s on 0 0 ⟨#[]⟩ 0 0 (.slice none 0 0) (.slice none 0 0)) 88 (0,0)):=(by have h:=(Bs 5 G2 (.int .i64 next));simpa using h)
  try clear hSn
  have hSn:=X3;refine Bl M (fun t=>?_);clear M K;refine wpAnyH_done Kr ?_ _;clear t hSn;have m:=Hq (show((((((V0.setCell ⟨f,4,none⟩ (.int .i64 a)).setCell ⟨f,7,none⟩ (.int .i64 ok)).setCell ⟨f,8,none⟩ (.int .i64 os)).setCell ⟨f,9,none⟩ (.string s)).setCell ⟨f,10,none⟩ (.string on)).setCell ⟨f,5,none⟩ (.int .i64 next)).heap[g]? =some (.cells (Ed i prev k 3 a next U ok os s on l root E F es (.slice A N.length c) (.slice B O.length d)) 88 (0,0))from X3);have I:=Hq (show((((((V0.setCell ⟨f,4,none⟩ (.int .i64 a)).setCell ⟨f,7,none⟩ (.int .i64 ok)).setCell ⟨f,8,none⟩ (.int .i64 os)).setCell ⟨f,9,none⟩ (.string s)).setCell ⟨f,10,none⟩ (.string on)).setCell ⟨f,5,none⟩ (.int .i64 next)).heap[f]? =some (.cells (Ed i prev k 3 a next 0 ok os s on 0 0 ⟨#[]⟩ 0 0 (.slice none 0 0) (.slice none 0 0)) 88 (0,0))from by have h:=G3;simpa using h);have x:=Hq (show Bw w ((((((V0.setCell ⟨f,4,none⟩ (.int .i64 a)).setCell ⟨f,7,none⟩ (.int .i64 ok)).setCell ⟨f,8,none⟩ (.int .i64 os)).setCell ⟨f,9,none⟩ (.string s)).setCell ⟨f,10,none⟩ (.string on)).setCell ⟨f,5,none⟩ (.int .i64 next))from((((((V.setCell (p:=⟨f,4,none⟩) (by show _≤f;omega) (.int .i64 a)).setCell (p:=⟨f,7,none⟩) (by show _≤f;omega) (.int .i64 ok)).setCell (p:=⟨f,8,none⟩) (by show _≤f;omega) (.int .i64 os)).setCell (p:=⟨f,9,none⟩) (by show _≤f;omega) (.string s)).setCell (p:=⟨f,10,none⟩) (by show _≤f;omega) (.string on)).setCell (p:=⟨f,5,none⟩) (by show _≤f;omega) (.int .i64 next)));obtain⟨W6,L⟩:=ex ((((((V0.setCell ⟨f,4,none⟩ (.int .i64 a)).setCell ⟨f,7,none⟩ (.int .i64 ok)).setCell ⟨f,8,none⟩ (.int .i64 os)).setCell ⟨f,9,none⟩ (.string s)).setCell ⟨f,10,none⟩ (.string on)).setCell ⟨f,5,none⟩ (.int .i64 next));rw[← L]at m I x;rw[← L];clear L T a7 a6 Q X0 G0 V X1 G1 ae af X2 G2 ag ah X3 G3 al an;have Q:=Aa m.out;have y:=Hq (Mt (⟨i,prev,k,3,a,next,0,⟨ok,os,s,on⟩,0,0,⟨⟨#[]⟩,0,0⟩,[],[]⟩:Rc.Rec) ⟨i,prev,k,3,a,next,U,⟨ok,os,s,on⟩,l,root,⟨E,F,es⟩,N,O⟩ none A none B 0 c 0 d W6 (Mu _ _ rfl rfl) (ar.out _ x.out));dsimp only[E1,D7,List.length_nil]at y;generalize decide ((⟨i,prev,k,3,a,next,0,⟨ok,os,s,on⟩,0,0,⟨⟨#[]⟩,0,0⟩,[],[]⟩:Rc.Rec)=⟨i,prev,k,3,a,next,U,⟨ok,os,s,on⟩,l,root,⟨E,F,es⟩,N,O⟩)=q at y H
  cases q with
  |false=>
   have G:=Hq (show z=false from H.out.trans (Bool.false_and _))
   go_wp2_with(first|with_reducible refine lL I.out Ds ?_|with_reducible refine lL m.out Ds ?_|(go_at_call 269;(with_reducible refine y.out.mono ?_);rintro e w7 ⟨rfl,n⟩;have a8:=Aa (Ac m.out n);have B7:=Ae x.out n))
   go_ret;exact⟨by rw[G.out];rfl,B7⟩
  |true=>
   have J:=Hq (H.out.trans (Bool.true_and _));clear H;have Y:=Hq (fun W=>Kn a W)
   (try dsimp only[E1,D7,lT]at Y)
   generalize decide (Rc.pg a)=p0 at Y J
   cases p0 with
   |false=>
    have G:=Hq (show z=false from J.out.trans (Bool.false_and _))
    go_wp2_with(first|with_reducible refine lL I.out Ds ?_|with_reducible refine lL m.out Ds ?_|(go_at_call 269;(with_reducible refine y.out.mono ?_);rintro e w7 ⟨rfl,n⟩;have a8:=Aa (Ac m.out n);have B7:=Ae x.out n)|(go_at_call 271;(with_reducible refine(Y.out _).mono ?_);rintro e w8 ⟨rfl,C⟩;have ao:=Aa (Ac (Ac m.out n) C);have B8:=Ae B7 C))
    go_ret;exact⟨by rw[G.out];rfl,B8⟩
   |true=>
   have a1:=Hq (J.out.trans (Bool.true_and _));have ai:=Hq (fun W=>Wl ⟨ok,os,s,on⟩ W)
   (try dsimp only[E1,D7,lT]at ai)
   generalize decide (Rc.Iv ⟨ok,os,s,on⟩)=p1 at ai a1
   cases p1 with
   |false=>
    have G:=Hq (show z=false from a1.out.trans (Bool.false_and _))
    go_wp2_with(first|with_reducible refine lL I.out Ds ?_|with_reducible refine lL m.out Ds ?_|(go_at_call 269;(with_reducible refine y.out.mono ?_);rintro e w7 ⟨rfl,n⟩;have a8:=Aa (Ac m.out n);have B7:=Ae x.out n)|(go_at_call 271;(with_reducible refine(Y.out _).mono ?_);rintro e w8 ⟨rfl,C⟩;have ao:=Aa (Ac (Ac m.out n) C);have B8:=Ae B7 C)|(go_at_call 272;(with_reducible refine(ai.out _).mono ?_);rintro e w9 ⟨rfl,aa⟩;have ba:=Aa (Ac (Ac (Ac m.out n) C) aa);have B9:=Ae B8 aa))
    go_ret;exact⟨by rw[G.out];rfl,B9⟩
   |true=>
   have az:=Hq (a1.out.trans (Bool.true_and _));have b4:=Hq (fun W=>J2 next W)
   (try dsimp only[E1,D7,lT]at b4)
   generalize decide (Rc.num next)=p2 at b4 az
   go_wp2_with(first|with_reducible refine lL I.out Ds ?_|with_reducible refine lL m.out Ds ?_|(go_at_call 269;(with_reducible refine y.out.mono ?_);rintro e w7 ⟨rfl,n⟩;have a8:=Aa (Ac m.out n);have B7:=Ae x.out n)|(go_at_call 271;(with_reducible refine(Y.out _).mono ?_);rintro e w8 ⟨rfl,C⟩;have ao:=Aa (Ac (Ac m.out n) C);have B8:=Ae B7 C)|(go_at_call 272;(with_reducible refine(ai.out _).mono ?_);rintro e w9 ⟨rfl,aa⟩;have ba:=Aa (Ac (Ac (Ac m.out n) C) aa);have B9:=Ae B8 aa)|(go_at_call 267;(with_reducible refine(b4.out _).mono ?_);rintro e bh ⟨rfl,b0⟩;have bg:=Aa (Ac (Ac (Ac (Ac m.out n) C) aa) b0);have bf:=Ae B9 b0))
   go_ret;exact⟨by rw[az.out];simp,bf⟩
 ·obtain⟨X,Z,h3⟩:=aw.out
  have H:=Hq (show z=(decide ((⟨i,prev,k,8,a,0,0,⟨ok,os,s,on⟩,0,0,⟨⟨#[]⟩,0,0⟩,[],[]⟩:Rc.Rec)=⟨i,prev,k,8,a,next,U,⟨ok,os,s,on⟩,l,root,⟨E,F,es⟩,N,O⟩)&&(decide (Rc.pg a)&&(decide (Rc.Iv ⟨ok,os,s,on⟩))))from HZ.out.trans (Rc.Mg ((Rc.xQ ⟨X,Z,h3⟩).trans (by simp only[Bool.and_eq_true,decide_eq_true_eq];(try exact Iff.rfl)))));clear X Z h3;have Q:=Aa T.out;go_upto_region 20 with fail;have X0:=Ac T.out (Below.refl _ W5).drew;have G0:=Ac a7.out (Below.refl _ W5).drew;have V:=Ae a6.out (Below.refl _ W5).drew;refine E4 (S:=(fun u=>u.heap[g]? =some (.cells (Ed i prev k 8 a next U ok os s on l root E F es (.slice A N.length c) (.slice B O.length d)) 88 (0,0)))) (fun t=>?_);generalize W5.drew=V0 at t X0 G0 V ⊢;refine Au 0 ?_;refine Au 1 ?_;refine Au 2 ?_;refine Au 3 ?_;refine Au 4 ?_;refine Bx 5 fun K M=>?_;have ae:=Aa G0;have af:=Ao G0
  go_simp
  have X1:=(Dl (b:=f) (j:=4) (v:=.int .i64 a) X0 (by omega));have G1:(V0.setCell ⟨f,4,none⟩ (.int .i64 a)).heap[f]? =some (.cells (Ed i prev k 8 a 0 0 0 0 ⟨#[]⟩ ⟨#[]⟩ 0 0 ⟨#[]⟩ 0 0 (.slice none 0 0) (.slice none 0 0)) 88 (0,0)):=(by have h:=(Bs 4 G0 (.int .i64 a));simpa using h)
  try clear hSn
  have hSn:=X1;refine Bl M (fun t=>?_);clear M K;refine Au 6 ?_;refine Bx 7 fun K M=>?_;have ag:=Aa G1;have ah:=Ao G1
  go_simp
  have X2:=(Dl (b:=f) (j:=10) (v:=.string on) (Dl (b:=f) (j:=9) (v:=.string s) (Dl (b:=f) (j:=8) (v:=.int .i64 os) (Dl (b:=f) (j:=7) (v:=.int .i64 ok) X1 (by omega)) (by omega)) (by omega)) (by omega));have G2:(((((V0.setCell ⟨f,4,none⟩ (.int .i64 a)).setCell ⟨f,7,none⟩ (.int .i64 ok)).setCell ⟨f,8,none⟩ (.int .i64 os)).setCell ⟨f,9,none⟩ (.string s)).setCell ⟨f,10,none⟩ (.string on)).heap[f]? =some (.cells (Ed i prev k 8 a 0 0 ok os s on 0 0 ⟨#[]⟩ 0 0 (.slice none 0 0) (.slice none 0 0)) 88 (0,0)):=(by have h:=(Bs 10 (Bs 9 (Bs 8 (Bs 7 G1 (.int .i64 ok)) (.int .i64 os)) (.string s)) (.string on));simpa using h)
  try clear hSn
  have hSn:=X2;refine Bl M (fun t=>?_);clear M K;refine wpAnyH_done Kr ?_ _;clear t hSn;have m:=Hq (show(((((V0.setCell ⟨f,4,none⟩ (.int .i64 a)).setCell ⟨f,7,none⟩ (.int .i64 ok)).setCell ⟨f,8,none⟩ (.int .i64 os)).setCell ⟨f,9,none⟩ (.string s)).setCell ⟨f,10,none⟩ (.string on)).heap[g]? =some (.cells (Ed i prev k 8 a next U ok os s on l root E F es (.slice A N.length c) (.slice B O.length d)) 88 (0,0))from X2);have I:=Hq (show(((((V0.setCell ⟨f,4,none⟩ (.int .i64 a)).setCell ⟨f,7,none⟩ (.int .i64 ok)).setCell ⟨f,8,none⟩ (.int .i64 os)).setCell ⟨f,9,none⟩ (.string s)).setCell ⟨f,10,none⟩ (.string on)).heap[f]? =some (.cells (Ed i prev k 8 a 0 0 ok os s on 0 0 ⟨#[]⟩ 0 0 (.slice none 0 0) (.slice none 0 0)) 88 (0,0))from by have h:=G2;simpa using h);have x:=Hq (show Bw w (((((V0.setCell ⟨f,4,none⟩ (.int .i64 a)).setCell ⟨f,7,none⟩ (.int .i64 ok)).setCell ⟨f,8,none⟩ (.int .i64 os)).setCell ⟨f,9,none⟩ (.string s)).setCell ⟨f,10,none⟩ (.string on))from(((((V.setCell (p:=⟨f,4,none⟩) (by show _≤f;omega) (.int .i64 a)).setCell (p:=⟨f,7,none⟩) (by show _≤f;omega) (.int .i64 ok)).setCell (p:=⟨f,8,none⟩) (by show _≤f;omega) (.int .i64 os)).setCell (p:=⟨f,9,none⟩) (by show _≤f;omega) (.string s)).setCell (p:=⟨f,10,none⟩) (by show _≤f;omega) (.string on)));obtain⟨W6,L⟩:=ex (((((V0.setCell ⟨f,4,none⟩ (.int .i64 a)).setCell ⟨f,7,none⟩ (.int .i64 ok)).setCell ⟨f,8,none⟩ (.int .i64 os)).setCell ⟨f,9,none⟩ (.string s)).setCell ⟨f,10,none⟩ (.string on));rw[← L]at m I x;rw[← L];clear L T a7 a6 Q X0 G0 V X1 G1 ae af X2 G2 ag ah;have Q:=Aa m.out;have y:=Hq (Mt (⟨i,prev,k,8,a,0,0,⟨ok,os,s,on⟩,0,0,⟨⟨#[]⟩,0,0⟩,[],[]⟩:Rc.Rec) ⟨i,prev,k,8,a,next,U,⟨ok,os,s,on⟩,l,root,⟨E,F,es⟩,N,O⟩ none A none B 0 c 0 d W6 (Mu _ _ rfl rfl) (ar.out _ x.out));dsimp only[E1,D7,List.length_nil]at y;generalize decide ((⟨i,prev,k,8,a,0,0,⟨ok,os,s,on⟩,0,0,⟨⟨#[]⟩,0,0⟩,[],[]⟩:Rc.Rec)=⟨i,prev,k,8,a,next,U,⟨ok,os,s,on⟩,l,root,⟨E,F,es⟩,N,O⟩)=q at y H
  cases q with
  |false=>
   have G:=Hq (show z=false from H.out.trans (Bool.false_and _))
   go_wp2_with(first|with_reducible refine lL I.out Ds ?_|with_reducible refine lL m.out Ds ?_|(go_at_call 269;(with_reducible refine y.out.mono ?_);rintro e w7 ⟨rfl,n⟩;have a8:=Aa (Ac m.out n);have B7:=Ae x.out n))
   go_ret;exact⟨by rw[G.out];rfl,B7⟩
  |true=>
   have J:=Hq (H.out.trans (Bool.true_and _));clear H;have Y:=Hq (fun W=>Kn a W)
   (try dsimp only[E1,D7,lT]at Y)
   generalize decide (Rc.pg a)=p0 at Y J
   cases p0 with
   |false=>
    have G:=Hq (show z=false from J.out.trans (Bool.false_and _))
    go_wp2_with(first|with_reducible refine lL I.out Ds ?_|with_reducible refine lL m.out Ds ?_|(go_at_call 269;(with_reducible refine y.out.mono ?_);rintro e w7 ⟨rfl,n⟩;have a8:=Aa (Ac m.out n);have B7:=Ae x.out n)|(go_at_call 271;(with_reducible refine(Y.out _).mono ?_);rintro e w8 ⟨rfl,C⟩;have ao:=Aa (Ac (Ac m.out n) C);have B8:=Ae B7 C))
    go_ret;exact⟨by rw[G.out];rfl,B8⟩
   |true=>
   have a1:=Hq (J.out.trans (Bool.true_and _));have ai:=Hq (fun W=>Wl ⟨ok,os,s,on⟩ W)
   (try dsimp only[E1,D7,lT]at ai)
   generalize decide (Rc.Iv ⟨ok,os,s,on⟩)=p1 at ai a1
   go_wp2_with(first|with_reducible refine lL I.out Ds ?_|with_reducible refine lL m.out Ds ?_|(go_at_call 269;(with_reducible refine y.out.mono ?_);rintro e w7 ⟨rfl,n⟩;have a8:=Aa (Ac m.out n);have B7:=Ae x.out n)|(go_at_call 271;(with_reducible refine(Y.out _).mono ?_);rintro e w8 ⟨rfl,C⟩;have ao:=Aa (Ac (Ac m.out n) C);have B8:=Ae B7 C)|(go_at_call 272;(with_reducible refine(ai.out _).mono ?_);rintro e w9 ⟨rfl,aa⟩;have ba:=Aa (Ac (Ac (Ac m.out n) C) aa);have B9:=Ae B8 aa))
   go_ret;exact⟨by rw[a1.out];simp,B9⟩
end Go.Proofs.YtmldoihahndcgaaGreatDoor
