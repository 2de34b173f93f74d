import Derived.Test.YtmldoihahndcgaaGreatDoorHs00
import Derived.Test.YtmldoihahndcgaaGreatDoorHs03
import Derived.Test.YtmldoihahndcgaaGreatDoorHs11
import Derived.Test.YtmldoihahndcgaaGreatDoorHs04
set_option maxRecDepth 100000
set_option maxHeartbeats 16000000
set_option linter.unusedSimpArgs false
namespace Go.Proofs.YtmldoihahndcgaaGreatDoor
open Go.RowKit
theorem Mk (r s:Rc.Rec)(A A' B B':Option Addr)(c c' d d':Nat)(w:World)(Q:Hv w r A c B d)(R:Hv w s A' c' B' d'):
 Cr 269 #[D7 r (.slice A r.txns.length c) (.slice B r.dirty.length d),D7 s (.slice A' s.txns.length c') (.slice B' s.dirty.length d')] w (.bool (decide (r=s))):=by
 have HT:=Hq (fun W hb=>gN r.txns s.txns Q.small.1 R.small.1 A A' c c' W (Q.txns.below hb) (R.txns.below hb));have HD:=Hq (fun W hb=>Yc r.dirty s.dirty Q.small.2 R.small.2 B B' d d' W (Q.dirty.below hb) (R.dirty.below hb));have ar:=Q.small.1;have au:=R.small.1;have av:=Q.small.2;have aw:=R.small.2;have HO:=Hq (fun W=>X8 r.op s.op W);have HK:=Hq (fun W=>L8 r.e s.e W);clear Q R;obtain⟨S,T,U,V,X,Y,Z,j,a1,a6,k,ax,ay⟩:=r;obtain⟨a7,a8,stx,aa,ad,ae,af,l,ag,ah,m,az,b0⟩:=s;simp only at HT HD HO HK ar au av aw ⊢
 by_cases F:S=a7
 rotate_left
 ·rw[decide_eq_false (fun e=>F (congrArg Rc.Rec.lsn e))]
  have b2:(S==a7)=false:=by simp[F]
  have b3:(S != a7)=true:=by simp[F]
  clear F;obtain⟨u,rs,rx,v⟩:=j;obtain⟨x,y,z,C⟩:=l;obtain⟨a,b,f⟩:=k;obtain⟨g,h,i⟩:=m;go_enter Tryz.func269,Tryz.ntmps269;go_wp2_with fail;go_ret;exact⟨by simp,Ak (Ab _ _)⟩
 subst F
 by_cases G:T=a8
 rotate_left
 ·rw[decide_eq_false (fun e=>G (congrArg Rc.Rec.prev e))]
  have b4:(T==a8)=false:=by simp[G]
  have mpr:(T != a8)=true:=by simp[G]
  clear G;obtain⟨u,rs,rx,v⟩:=j;obtain⟨x,y,z,C⟩:=l;obtain⟨a,b,f⟩:=k;obtain⟨g,h,i⟩:=m;go_enter Tryz.func269,Tryz.ntmps269;go_wp2_with fail;go_ret;exact⟨by simp,Ak (Ab _ _)⟩
 subst G
 by_cases H:U=stx
 rotate_left
 ·rw[decide_eq_false (fun e=>H (congrArg Rc.Rec.txn e))]
  have b5:(U==stx)=false:=by simp[H]
  have b6:(U != stx)=true:=by simp[H]
  clear H;obtain⟨u,rs,rx,v⟩:=j;obtain⟨x,y,z,C⟩:=l;obtain⟨a,b,f⟩:=k;obtain⟨g,h,i⟩:=m;go_enter Tryz.func269,Tryz.ntmps269;go_wp2_with fail;go_ret;exact⟨by simp,Ak (Ab _ _)⟩
 subst H
 by_cases I:V=aa
 rotate_left
 ·rw[decide_eq_false (fun e=>I (congrArg Rc.Rec.kind e))]
  have b7:(V==aa)=false:=by simp[I]
  have b8:(V != aa)=true:=by simp[I]
  clear I;obtain⟨u,rs,rx,v⟩:=j;obtain⟨x,y,z,C⟩:=l;obtain⟨a,b,f⟩:=k;obtain⟨g,h,i⟩:=m;go_enter Tryz.func269,Tryz.ntmps269;go_wp2_with fail;go_ret;exact⟨by simp,Ak (Ab _ _)⟩
 subst I
 by_cases J:X=ad
 rotate_left
 ·rw[decide_eq_false (fun e=>J (congrArg Rc.Rec.Ac e))]
  have b9:(X==ad)=false:=by simp[J]
  have ba:(X != ad)=true:=by simp[J]
  clear J;obtain⟨u,rs,rx,v⟩:=j;obtain⟨x,y,z,C⟩:=l;obtain⟨a,b,f⟩:=k;obtain⟨g,h,i⟩:=m;go_enter Tryz.func269,Tryz.ntmps269;go_wp2_with fail;go_ret;exact⟨by simp,Ak (Ab _ _)⟩
 subst J
 by_cases K:Y=ae
 rotate_left
 ·rw[decide_eq_false (fun e=>K (congrArg Rc.Rec.next e))]
  have bb:(Y==ae)=false:=by simp[K]
  have bc:(Y != ae)=true:=by simp[K]
  clear K;obtain⟨u,rs,rx,v⟩:=j;obtain⟨x,y,z,C⟩:=l;obtain⟨a,b,f⟩:=k;obtain⟨g,h,i⟩:=m;go_enter Tryz.func269,Tryz.ntmps269;go_wp2_with fail;go_ret;exact⟨by simp,Ak (Ab _ _)⟩
 subst K
 by_cases L:Z=af
 rotate_left
 ·rw[decide_eq_false (fun e=>L (congrArg Rc.Rec.num e))]
  have bd:(Z==af)=false:=by simp[L]
  have bf:(Z != af)=true:=by simp[L]
  clear L;obtain⟨u,rs,rx,v⟩:=j;obtain⟨x,y,z,C⟩:=l;obtain⟨a,b,f⟩:=k;obtain⟨g,h,i⟩:=m;go_enter Tryz.func269,Tryz.ntmps269;go_wp2_with fail;go_ret;exact⟨by simp,Ak (Ab _ _)⟩
 subst L
 cases D:decide (j=l)with
 |false=>
  rw[decide_eq_false (fun e=>of_decide_eq_false D (congrArg Rc.Rec.op e))];have ai:=HO.out;rw[D]at ai;clear D;obtain⟨u,rs,rx,v⟩:=j;obtain⟨x,y,z,C⟩:=l;obtain⟨a,b,f⟩:=k;obtain⟨g,h,i⟩:=m;go_enter Tryz.func269,Tryz.ntmps269;go_wp2_with fail;go_ret;exact⟨by simp,Ak (Ab _ _)⟩
 |true=>
 have ai:=HO.out;rw[D]at ai;have an:=Hq (of_decide_eq_true D);clear D HO
 by_cases M:a1=ag
 rotate_left
 ·rw[decide_eq_false (fun e=>M (congrArg Rc.Rec.how e))]
  have bg:(a1==ag)=false:=by simp[M]
  have bh:(a1 != ag)=true:=by simp[M]
  clear M;obtain⟨u,rs,rx,v⟩:=j;obtain⟨x,y,z,C⟩:=l;obtain⟨a,b,f⟩:=k;obtain⟨g,h,i⟩:=m;go_enter Tryz.func269,Tryz.ntmps269;go_wp2_with fail;go_ret;exact⟨by simp,Ak (Ab _ _)⟩
 subst M
 by_cases N:a6=ah
 rotate_left
 ·rw[decide_eq_false (fun e=>N (congrArg Rc.Rec.root e))]
  have bj:(a6==ah)=false:=by simp[N]
  have bk:(a6 != ah)=true:=by simp[N]
  clear N;obtain⟨u,rs,rx,v⟩:=j;obtain⟨x,y,z,C⟩:=l;obtain⟨a,b,f⟩:=k;obtain⟨g,h,i⟩:=m;go_enter Tryz.func269,Tryz.ntmps269;go_wp2_with fail;go_ret;exact⟨by simp,Ak (Ab _ _)⟩
 subst N
 cases E:decide (k=m)with
 |false=>
  rw[decide_eq_false (fun e=>of_decide_eq_false E (congrArg Rc.Rec.e e))];have aj:=HK.out;rw[E]at aj;clear E;obtain⟨u,rs,rx,v⟩:=j;obtain⟨x,y,z,C⟩:=l;obtain⟨a,b,f⟩:=k;obtain⟨g,h,i⟩:=m;go_enter Tryz.func269,Tryz.ntmps269;go_wp2_with fail;go_ret;exact⟨by simp,Ak (Ab _ _)⟩
 |true=>
 have aj:=HK.out;rw[E]at aj;have ao:=Hq (of_decide_eq_true E);clear E HK
 cases o:decide (ax=az)with
 |false=>
  have O:=Hq o;rw[decide_eq_false (fun e=>of_decide_eq_false o (congrArg Rc.Rec.txns e))];clear o;obtain⟨u,rs,rx,v⟩:=j;obtain⟨x,y,z,C⟩:=l;obtain⟨a,b,f⟩:=k;obtain⟨g,h,i⟩:=m;go_enter Tryz.func269,Tryz.ntmps269
  go_wp2_with(first|(go_at_call 313;(with_reducible refine(HT.out _ ?_).mono ?_);(exact Ak (Ab _ _));rintro e w2 ⟨rfl,n⟩;have q:=Ae (P1 _ _ _) n;have t:=Ae (Fc _ _ _) n;have q1:=Aa q 17;have q2:=Aa t 17;clear q t;simp at q1 q2;rw[O.out]))
  go_ret;exact⟨by simp,Ad (Ak (Ab _ _)) n⟩
 |true=>
 have aq:=Hq o;have O:=Hq (of_decide_eq_true o);clear o
 cases p:decide (ay=b0)with
 |false=>
  have P:=Hq p;rw[decide_eq_false (fun e=>of_decide_eq_false p (congrArg Rc.Rec.dirty e))];clear p;obtain⟨u,rs,rx,v⟩:=j;obtain⟨x,y,z,C⟩:=l;obtain⟨a,b,f⟩:=k;obtain⟨g,h,i⟩:=m;go_enter Tryz.func269,Tryz.ntmps269
  go_wp2_with(first|(go_at_call 313;(with_reducible refine(HT.out _ ?_).mono ?_);(exact Ak (Ab _ _));rintro e w2 ⟨rfl,n⟩;have q:=Ae (P1 _ _ _) n;have t:=Ae (Fc _ _ _) n;have q1:=Aa q 17;have q2:=Aa t 17;clear q t;simp at q1 q2;rw[aq.out])|(go_at_call 314;(with_reducible refine(HD.out _ ?_).mono ?_);(exact Ad (Ak (Ab _ _)) n);rintro e w3 ⟨rfl,ak⟩;rw[P.out]))
  go_ret;exact⟨by simp,Ad (Ad (Ak (Ab _ _)) n) ak⟩
 |true=>
 have b1:=Hq p;have P:=Hq (of_decide_eq_true p);clear p;rw[decide_eq_true (by rw[an.out,ao.out,O.out,P.out])];clear an ao O P;obtain⟨u,rs,rx,v⟩:=j;obtain⟨x,y,z,C⟩:=l;obtain⟨a,b,f⟩:=k;obtain⟨g,h,i⟩:=m;go_enter Tryz.func269,Tryz.ntmps269
 go_wp2_with(first|(go_at_call 313;(with_reducible refine(HT.out _ ?_).mono ?_);(exact Ak (Ab _ _));rintro e w2 ⟨rfl,n⟩;have q:=Ae (P1 _ _ _) n;have t:=Ae (Fc _ _ _) n;have q1:=Aa q 17;have q2:=Aa t 17;clear q t;simp at q1 q2;rw[aq.out])|(go_at_call 314;(with_reducible refine(HD.out _ ?_).mono ?_);(exact Ad (Ak (Ab _ _)) n);rintro e w3 ⟨rfl,ak⟩;rw[b1.out]))
 go_ret;exact⟨by simp,Ad (Ad (Ak (Ab _ _)) n) ak⟩
theorem Dd {w:World}{g b j:Nat}{v:Value}{o:Obj}(h:w.heap[g]? =some o)(a:g≠b):(w.setCell ⟨b,j,none⟩ v).heap[g]? =some o:=(Below.heap_setCell _ _ _ _ a).trans h
theorem Ml (r:Rc.Rec)(w:World)(a:r.txns=[])(b:r.dirty=[]):Hv w r none 0 none 0:=by
 refine⟨?_,?_,by rw[a,b];exact⟨Nat.zero_le _,Nat.zero_le _⟩⟩
 ·rw[a];exact Reads.none_ _ _ _ _
 ·rw[b];exact Reads.none_ _ _ _ _
theorem Ss (r:Rc.Rec)(A B:Option Addr)(c d:Nat)(w:World)(hr:Hv w r A c B d)(b5:r.kind=1∨r.kind=2∨r.kind=3∨r.kind=8):
 Cr 225 #[D7 r (.slice A r.txns.length c) (.slice B r.dirty.length d)] w (.bool (Rc.Dy r)):=by
 obtain⟨f,prev,i,kind,Ac,next,T,⟨ok,os,n,on⟩,k,root,⟨D,E,es⟩,M,N⟩:=r;have bb:=Hq (show kind=1∨kind=2∨kind=3∨kind=8 from b5);clear b5;dsimp only[D7,Dz];obtain⟨z,hz⟩:=ex (Rc.Dy ⟨f,prev,i,kind,Ac,next,T,⟨ok,os,n,on⟩,k,root,⟨D,E,es⟩,M,N⟩);rw[← hz];have HZ:=Hq hz;clear hz;obtain⟨w0,aq⟩:=ex (w.alloc (.cells (Ct f prev i kind Ac next T ok os n on k root D E es (.slice A M.length c) (.slice B N.length d)) 88));have ai:=Hq (show Bw w w0 from by rw[aq];exact Ab _ _);have O:=Hq (show w0.heap[w.heap.size]? =some (.cells (Ct f prev i kind Ac next T ok os n on k root D E es (.slice A M.length c) (.slice B N.length d)) 88 (0,0))from by rw[aq];exact heap_alloc_new _ _);have ar:=Hq (fun W (hb:Bw w W)=>hr.below hb);clear hr;go_enter Tryz.func225,Tryz.ntmps225;go_upto_region 1 with fail;rw[← aq];clear aq;obtain⟨g,hg⟩:=ex w.heap.size;rw[← hg]at O;rw[← hg];clear hg;have P:=Aa O.out;have H1:=Hq (fun W=>Jl f W);have H2:=Hq (fun W=>Jl prev W);have H3:=Hq (fun W=>Jl i W);have au:=Hq (show ¬ (Rc.num f∧Rc.num prev∧Rc.num i)→z=false from fun h=>HZ.out.trans (Rc.Cz fun hr=>h (Rc.sC hr)))
 by_cases V:Rc.num f
 rotate_left
 ·rw[decide_eq_false V]at H1
  have F:=Hq (au.out (fun h=>V h.1));clear V
  go_wp2_with(go_at_call 267;(with_reducible refine(H1.out _).mono ?_);rintro e w1 ⟨rfl,C⟩;have av:=Aa (Ae O.out C))
  go_ret;exact⟨by rw[F.out];rfl,Ad ai.out C⟩
 by_cases Y:Rc.num prev
 rotate_left
 ·rw[decide_eq_true V]at H1
  rw[decide_eq_false Y]at H2;have F:=Hq (au.out (fun h=>Y h.2.1));clear V Y
  go_wp2_with(first|(go_at_call 267;(with_reducible refine(H1.out _).mono ?_);rintro e w1 ⟨rfl,C⟩;have av:=Aa (Ae O.out C))|(go_at_call 267;(with_reducible refine(H2.out _).mono ?_);rintro e w2 ⟨rfl,Q⟩;have b1:=Aa (Ae (Ae O.out C) Q)))
  go_ret;exact⟨by rw[F.out];rfl,Ad ai.out (Ad C Q)⟩
 by_cases h3:Rc.num i
 rotate_left
 ·rw[decide_eq_true V]at H1
  rw[decide_eq_true Y]at H2;rw[decide_eq_false h3]at H3;have F:=Hq (au.out (fun h=>h3 h.2.2));clear V Y h3
  go_wp2_with(first|(go_at_call 267;(with_reducible refine(H1.out _).mono ?_);rintro e w1 ⟨rfl,C⟩;have av:=Aa (Ae O.out C))|(go_at_call 267;(with_reducible refine(H2.out _).mono ?_);rintro e w2 ⟨rfl,Q⟩;have b1:=Aa (Ae (Ae O.out C) Q))|(go_at_call 267;(with_reducible refine(H3.out _).mono ?_);rintro e w3 ⟨rfl,aa⟩))
  go_ret;exact⟨by rw[F.out];rfl,Ad ai.out (Ad (Ad C Q) aa)⟩
 rw[decide_eq_true V]at H1;rw[decide_eq_true Y]at H2;rw[decide_eq_true h3]at H3;have aw:=Hq (And.intro V (And.intro Y h3));clear V Y h3 au;have b2:=Hq (fun W=>jQ ⟨f,prev,i,kind,Ac,next,T,⟨ok,os,n,on⟩,k,root,⟨D,E,es⟩,M,N⟩ (.slice A M.length c) (.slice B N.length d) W);dsimp only[D7,Dz,Rc.bare,Rc.Jr,Rc.Cm]at b2
 go_upto_region 4 with(first|(go_at_call 267;(with_reducible refine(H1.out _).mono ?_);rintro e w1 ⟨rfl,C⟩;have av:=Aa (Ae O.out C))|(go_at_call 267;(with_reducible refine(H2.out _).mono ?_);rintro e w2 ⟨rfl,Q⟩;have b1:=Aa (Ae (Ae O.out C) Q))|(go_at_call 267;(with_reducible refine(H3.out _).mono ?_);rintro e w3 ⟨rfl,aa⟩)|(with_reducible refine lL (Ae O.out (Ad (Ad C Q) aa)) Da ?_)|(go_at_call 268;(with_reducible refine(b2.out _).mono ?_);rintro e w4 ⟨rfl,aj⟩)|with_reducible refine sN (Ct f prev i kind 0 0 0 0 0 ⟨#[]⟩ ⟨#[]⟩ 0 0 ⟨#[]⟩ 0 0 (.slice none 0 0) (.slice none 0 0)) ?_)
 have a1:=Hq (Ad (Ad (Ad (Ad ai.out C) Q) aa) (Ak (o:=.cells (Ct f prev i kind 0 0 0 0 0 ⟨#[]⟩ ⟨#[]⟩ 0 0 ⟨#[]⟩ 0 0 (.slice none 0 0) (.slice none 0 0)) 88) aj));have R:=Hq (Ae O.out (Ad (Ad (Ad C Q) aa) (Ak (o:=.cells (Ct f prev i kind 0 0 0 0 0 ⟨#[]⟩ ⟨#[]⟩ 0 0 ⟨#[]⟩ 0 0 (.slice none 0 0) (.slice none 0 0)) 88) aj)));have a6:=Hq (heap_alloc_new w4 (.cells (Ct f prev i kind 0 0 0 0 0 ⟨#[]⟩ ⟨#[]⟩ 0 0 ⟨#[]⟩ 0 0 (.slice none 0 0) (.slice none 0 0)) 88));have bc:g<w4.heap.size:=Nat.lt_of_lt_of_le (By O.out) (Ad (Ad (Ad C Q) aa) aj).size;have bd:w.heap.size≤w4.heap.size:=(Ad (Ad (Ad (Ad ai.out C) Q) aa) aj).size;obtain⟨a,ax⟩:=ex w4.heap.size;obtain⟨W5,ay⟩:=ex (w4.alloc (.cells (Ct f prev i kind 0 0 0 0 0 ⟨#[]⟩ ⟨#[]⟩ 0 0 ⟨#[]⟩ 0 0 (.slice none 0 0) (.slice none 0 0)) 88));rw[← ax,← ay]at a6;rw[← ay]at a1 R;rw[← ax]at bc bd;rw[← ax,← ay];clear ax ay C Q aa aj av b1 P b2 H1 H2 H3 O;rcases bb.out with rfl|rfl|rfl|rfl
 ·obtain⟨V,Y,h3⟩:=aw.out
  have G:=Hq (show z=decide ((⟨f,prev,i,1,0,0,0,⟨0,0,⟨#[]⟩,⟨#[]⟩⟩,0,0,⟨⟨#[]⟩,0,0⟩,[],[]⟩:Rc.Rec)=⟨f,prev,i,1,Ac,next,T,⟨ok,os,n,on⟩,k,root,⟨D,E,es⟩,M,N⟩)from HZ.out.trans (Rc.Ma ((Rc.qL (by omega) ⟨V,Y,h3⟩).trans decide_eq_true_iff.symm)));clear V Y h3;have P:=Aa R.out;have l:=R;have H:=a6;have t:=a1;obtain⟨W6,J⟩:=ex W5;rw[← J]at l H t;rw[← J];clear J R a6 a1 P;have P:=Aa l.out;have x:=Hq (Mk (⟨f,prev,i,1,0,0,0,⟨0,0,⟨#[]⟩,⟨#[]⟩⟩,0,0,⟨⟨#[]⟩,0,0⟩,[],[]⟩:Rc.Rec) ⟨f,prev,i,1,Ac,next,T,⟨ok,os,n,on⟩,k,root,⟨D,E,es⟩,M,N⟩ none A none B 0 c 0 d W6 (Ml _ _ rfl rfl) (ar.out _ t.out));dsimp only[D7,Dz,List.length_nil]at x;generalize decide ((⟨f,prev,i,1,0,0,0,⟨0,0,⟨#[]⟩,⟨#[]⟩⟩,0,0,⟨⟨#[]⟩,0,0⟩,[],[]⟩:Rc.Rec)=⟨f,prev,i,1,Ac,next,T,⟨ok,os,n,on⟩,k,root,⟨D,E,es⟩,M,N⟩)=q at x G
  go_wp2_with(first|with_reducible refine lL H.out Da ?_|with_reducible refine lL l.out Da ?_|(go_at_call 269;(with_reducible refine x.out.mono ?_);rintro e w7 ⟨rfl,m⟩;have a7:=Aa (Ae l.out m);have B7:=Ad t.out m))
  go_ret;exact⟨by rw[G.out];rfl,B7⟩
 ·obtain⟨V,Y,h3⟩:=aw.out
  have G:=Hq (show z=(decide ((⟨f,prev,i,2,Ac,0,0,⟨ok,os,n,on⟩,k,root,⟨D,E,es⟩,[],[]⟩:Rc.Rec)=⟨f,prev,i,2,Ac,next,T,⟨ok,os,n,on⟩,k,root,⟨D,E,es⟩,M,N⟩)&&(decide (Rc.pg Ac∧Rc.Ij ⟨ok,os,n,on⟩∧Rc.Fs ⟨f,prev,i,2,Ac,next,T,⟨ok,os,n,on⟩,k,root,⟨D,E,es⟩,M,N⟩)))from HZ.out.trans (Rc.Ma ((Rc.vB ⟨V,Y,h3⟩).trans (by simp only[Bool.and_eq_true,decide_eq_true_eq];(try exact Iff.rfl)))));clear V Y h3;have P:=Aa R.out;go_upto_region 11 with fail;have X0:=Ae R.out (Below.refl _ W5).drew;have G0:=Ae a6.out (Below.refl _ W5).drew;have U:=Ad a1.out (Below.refl _ W5).drew;refine Gd (S:=(fun u=>u.heap[g]? =some (.cells (Ct f prev i 2 Ac next T ok os n on k root D E es (.slice A M.length c) (.slice B N.length d)) 88 (0,0)))) (fun s=>?_);generalize W5.drew=V0 at s X0 G0 U ⊢;refine Au 0 ?_;refine Au 1 ?_;refine Au 2 ?_;refine Au 3 ?_;refine Au 4 ?_;refine Au 5 ?_;refine Au 6 ?_;refine Au 7 ?_;refine Au 8 ?_;refine Au 9 ?_;refine Au 10 ?_;refine Ch 11 fun K L=>?_;have ad:=Aa G0;have ae:=Ap G0
  go_simp
  have X1:=(Dd (b:=a) (j:=4) (v:=.int .i64 Ac) X0 (by omega));have G1:(V0.setCell ⟨a,4,none⟩ (.int .i64 Ac)).heap[a]? =some (.cells (Ct f prev i 2 Ac 0 0 0 0 ⟨#[]⟩ ⟨#[]⟩ 0 0 ⟨#[]⟩ 0 0 (.slice none 0 0) (.slice none 0 0)) 88 (0,0)):=(by have h:=(Cb 4 G0 (.int .i64 Ac));simpa using h)
  try clear hSn
  have hSn:=X1;refine Bq L (fun s=>?_);clear L K;refine Au 12 ?_;refine Ch 13 fun K L=>?_;have af:=Aa G1;have ag:=Ap G1
  go_simp
  have X2:=(Dd (b:=a) (j:=10) (v:=.string on) (Dd (b:=a) (j:=9) (v:=.string n) (Dd (b:=a) (j:=8) (v:=.int .i64 os) (Dd (b:=a) (j:=7) (v:=.int .i64 ok) X1 (by omega)) (by omega)) (by omega)) (by omega));have G2:(((((V0.setCell ⟨a,4,none⟩ (.int .i64 Ac)).setCell ⟨a,7,none⟩ (.int .i64 ok)).setCell ⟨a,8,none⟩ (.int .i64 os)).setCell ⟨a,9,none⟩ (.string n)).setCell ⟨a,10,none⟩ (.string on)).heap[a]? =some (.cells (Ct f prev i 2 Ac 0 0 ok os n on 0 0 ⟨#[]⟩ 0 0 (.slice none 0 0) (.slice none 0 0)) 88 (0,0)):=(by have h:=(Cb 10 (Cb 9 (Cb 8 (Cb 7 G1 (.int .i64 ok)) (.int .i64 os)) (.string n)) (.string on));simpa using h)
  try clear hSn
  have hSn:=X2;refine Bq L (fun s=>?_);clear L K;refine Au 14 ?_;refine Ch 15 fun K L=>?_;have ak:=Aa G2;have an:=Ap G2
  go_simp
  have X3:=(Dd (b:=a) (j:=11) (v:=.int .i64 k) X2 (by omega));have G3:((((((V0.setCell ⟨a,4,none⟩ (.int .i64 Ac)).setCell ⟨a,7,none⟩ (.int .i64 ok)).setCell ⟨a,8,none⟩ (.int .i64 os)).setCell ⟨a,9,none⟩ (.string n)).setCell ⟨a,10,none⟩ (.string on)).setCell ⟨a,11,none⟩ (.int .i64 k)).heap[a]? =some (.cells (Ct f prev i 2 Ac 0 0 ok os n on k 0 ⟨#[]⟩ 0 0 (.slice none 0 0) (.slice none 0 0)) 88 (0,0)):=(by have h:=(Cb 11 G2 (.int .i64 k));simpa using h)
  try clear hSn
  have hSn:=X3;refine Bq L (fun s=>?_);clear L K;refine Au 16 ?_;refine Ch 17 fun K L=>?_;have b6:=Aa G3;have b7:=Ap G3
  go_simp
  have X4:=(Dd (b:=a) (j:=12) (v:=.int .i64 root) X3 (by omega));have G4:(((((((V0.setCell ⟨a,4,none⟩ (.int .i64 Ac)).setCell ⟨a,7,none⟩ (.int .i64 ok)).setCell ⟨a,8,none⟩ (.int .i64 os)).setCell ⟨a,9,none⟩ (.string n)).setCell ⟨a,10,none⟩ (.string on)).setCell ⟨a,11,none⟩ (.int .i64 k)).setCell ⟨a,12,none⟩ (.int .i64 root)).heap[a]? =some (.cells (Ct f prev i 2 Ac 0 0 ok os n on k root ⟨#[]⟩ 0 0 (.slice none 0 0) (.slice none 0 0)) 88 (0,0)):=(by have h:=(Cb 12 G3 (.int .i64 root));simpa using h)
  try clear hSn
  have hSn:=X4;refine Bq L (fun s=>?_);clear L K;refine Au 18 ?_;refine Ch 19 fun K L=>?_;have b8:=Aa G4;have b9:=Ap G4
  go_simp
  have X5:=(Dd (b:=a) (j:=15) (v:=.int .i64 es) (Dd (b:=a) (j:=14) (v:=.int .i64 E) (Dd (b:=a) (j:=13) (v:=.string D) X4 (by omega)) (by omega)) (by omega));have G5:((((((((((V0.setCell ⟨a,4,none⟩ (.int .i64 Ac)).setCell ⟨a,7,none⟩ (.int .i64 ok)).setCell ⟨a,8,none⟩ (.int .i64 os)).setCell ⟨a,9,none⟩ (.string n)).setCell ⟨a,10,none⟩ (.string on)).setCell ⟨a,11,none⟩ (.int .i64 k)).setCell ⟨a,12,none⟩ (.int .i64 root)).setCell ⟨a,13,none⟩ (.string D)).setCell ⟨a,14,none⟩ (.int .i64 E)).setCell ⟨a,15,none⟩ (.int .i64 es)).heap[a]? =some (.cells (Ct f prev i 2 Ac 0 0 ok os n on k root D E es (.slice none 0 0) (.slice none 0 0)) 88 (0,0)):=(by have h:=(Cb 15 (Cb 14 (Cb 13 G4 (.string D)) (.int .i64 E)) (.int .i64 es));simpa using h)
  try clear hSn
  have hSn:=X5;refine Bq L (fun s=>?_);clear L K;refine wpAnyH_done Kr ?_ _;clear s hSn;have l:=Hq (show((((((((((V0.setCell ⟨a,4,none⟩ (.int .i64 Ac)).setCell ⟨a,7,none⟩ (.int .i64 ok)).setCell ⟨a,8,none⟩ (.int .i64 os)).setCell ⟨a,9,none⟩ (.string n)).setCell ⟨a,10,none⟩ (.string on)).setCell ⟨a,11,none⟩ (.int .i64 k)).setCell ⟨a,12,none⟩ (.int .i64 root)).setCell ⟨a,13,none⟩ (.string D)).setCell ⟨a,14,none⟩ (.int .i64 E)).setCell ⟨a,15,none⟩ (.int .i64 es)).heap[g]? =some (.cells (Ct f prev i 2 Ac next T ok os n on k root D E es (.slice A M.length c) (.slice B N.length d)) 88 (0,0))from X5);have H:=Hq (show((((((((((V0.setCell ⟨a,4,none⟩ (.int .i64 Ac)).setCell ⟨a,7,none⟩ (.int .i64 ok)).setCell ⟨a,8,none⟩ (.int .i64 os)).setCell ⟨a,9,none⟩ (.string n)).setCell ⟨a,10,none⟩ (.string on)).setCell ⟨a,11,none⟩ (.int .i64 k)).setCell ⟨a,12,none⟩ (.int .i64 root)).setCell ⟨a,13,none⟩ (.string D)).setCell ⟨a,14,none⟩ (.int .i64 E)).setCell ⟨a,15,none⟩ (.int .i64 es)).heap[a]? =some (.cells (Ct f prev i 2 Ac 0 0 ok os n on k root D E es (.slice none 0 0) (.slice none 0 0)) 88 (0,0))from by have h:=G5;simpa using h);have t:=Hq (show Bw w ((((((((((V0.setCell ⟨a,4,none⟩ (.int .i64 Ac)).setCell ⟨a,7,none⟩ (.int .i64 ok)).setCell ⟨a,8,none⟩ (.int .i64 os)).setCell ⟨a,9,none⟩ (.string n)).setCell ⟨a,10,none⟩ (.string on)).setCell ⟨a,11,none⟩ (.int .i64 k)).setCell ⟨a,12,none⟩ (.int .i64 root)).setCell ⟨a,13,none⟩ (.string D)).setCell ⟨a,14,none⟩ (.int .i64 E)).setCell ⟨a,15,none⟩ (.int .i64 es))from((((((((((U.setCell (p:=⟨a,4,none⟩) (by show _≤a;omega) (.int .i64 Ac)).setCell (p:=⟨a,7,none⟩) (by show _≤a;omega) (.int .i64 ok)).setCell (p:=⟨a,8,none⟩) (by show _≤a;omega) (.int .i64 os)).setCell (p:=⟨a,9,none⟩) (by show _≤a;omega) (.string n)).setCell (p:=⟨a,10,none⟩) (by show _≤a;omega) (.string on)).setCell (p:=⟨a,11,none⟩) (by show _≤a;omega) (.int .i64 k)).setCell (p:=⟨a,12,none⟩) (by show _≤a;omega) (.int .i64 root)).setCell (p:=⟨a,13,none⟩) (by show _≤a;omega) (.string D)).setCell (p:=⟨a,14,none⟩) (by show _≤a;omega) (.int .i64 E)).setCell (p:=⟨a,15,none⟩) (by show _≤a;omega) (.int .i64 es)));obtain⟨W6,J⟩:=ex ((((((((((V0.setCell ⟨a,4,none⟩ (.int .i64 Ac)).setCell ⟨a,7,none⟩ (.int .i64 ok)).setCell ⟨a,8,none⟩ (.int .i64 os)).setCell ⟨a,9,none⟩ (.string n)).setCell ⟨a,10,none⟩ (.string on)).setCell ⟨a,11,none⟩ (.int .i64 k)).setCell ⟨a,12,none⟩ (.int .i64 root)).setCell ⟨a,13,none⟩ (.string D)).setCell ⟨a,14,none⟩ (.int .i64 E)).setCell ⟨a,15,none⟩ (.int .i64 es));rw[← J]at l H t;rw[← J];clear J R a6 a1 P X0 G0 U X1 G1 ad ae X2 G2 af ag X3 G3 ak an X4 G4 b6 b7 X5 G5 b8 b9;have P:=Aa l.out;have x:=Hq (Mk (⟨f,prev,i,2,Ac,0,0,⟨ok,os,n,on⟩,k,root,⟨D,E,es⟩,[],[]⟩:Rc.Rec) ⟨f,prev,i,2,Ac,next,T,⟨ok,os,n,on⟩,k,root,⟨D,E,es⟩,M,N⟩ none A none B 0 c 0 d W6 (Ml _ _ rfl rfl) (ar.out _ t.out))
  dsimp only[D7,Dz,List.length_nil]at x;generalize decide ((⟨f,prev,i,2,Ac,0,0,⟨ok,os,n,on⟩,k,root,⟨D,E,es⟩,[],[]⟩:Rc.Rec)=⟨f,prev,i,2,Ac,next,T,⟨ok,os,n,on⟩,k,root,⟨D,E,es⟩,M,N⟩)=q at x G
  cases q with
  |false=>
   have F:=Hq (show z=false from G.out.trans (Bool.false_and _))
   go_wp2_with(first|with_reducible refine lL H.out Da ?_|with_reducible refine lL l.out Da ?_|(go_at_call 269;(with_reducible refine x.out.mono ?_);rintro e w7 ⟨rfl,m⟩;have a7:=Aa (Ae l.out m);have B7:=Ad t.out m))
   go_ret;exact⟨by rw[F.out];rfl,B7⟩
  |true=>
   have I:=Hq (G.out.trans (Bool.true_and _));clear G;have b3:=Hq (fun W=>Zl ⟨f,prev,i,2,Ac,next,T,⟨ok,os,n,on⟩,k,root,⟨D,E,es⟩,M,N⟩ (.slice A M.length c) (.slice B N.length d) W)
   (try dsimp only[D7,Dz,mA]at b3)
   generalize decide (Rc.pg Ac∧Rc.Ij ⟨ok,os,n,on⟩∧Rc.Fs ⟨f,prev,i,2,Ac,next,T,⟨ok,os,n,on⟩,k,root,⟨D,E,es⟩,M,N⟩)=p0 at b3 I
   go_wp2_with(first|with_reducible refine lL H.out Da ?_|with_reducible refine lL l.out Da ?_|(go_at_call 269;(with_reducible refine x.out.mono ?_);rintro e w7 ⟨rfl,m⟩;have a7:=Aa (Ae l.out m);have B7:=Ad t.out m)|with_reducible refine lL (Ae l.out m) Da ?_|(go_at_call 270;(with_reducible refine(b3.out _).mono ?_);rintro e w8 ⟨rfl,y⟩;have ao:=Aa (Ae (Ae l.out m) y);have B8:=Ad B7 y))
   go_ret;exact⟨by rw[I.out];simp,B8⟩
 ·obtain⟨V,Y,h3⟩:=aw.out
  have G:=Hq (show z=(decide ((⟨f,prev,i,3,Ac,next,0,⟨ok,os,n,on⟩,0,0,⟨⟨#[]⟩,0,0⟩,[],[]⟩:Rc.Rec)=⟨f,prev,i,3,Ac,next,T,⟨ok,os,n,on⟩,k,root,⟨D,E,es⟩,M,N⟩)&&(decide (Rc.pg Ac)&&(decide (Rc.Ij ⟨ok,os,n,on⟩)&&(decide (Rc.num next)))))from HZ.out.trans (Rc.Ma ((Rc.vC ⟨V,Y,h3⟩).trans (by simp only[Bool.and_eq_true,decide_eq_true_eq];(try exact Iff.rfl)))));clear V Y h3;have P:=Aa R.out;go_upto_region 14 with fail;have X0:=Ae R.out (Below.refl _ W5).drew;have G0:=Ae a6.out (Below.refl _ W5).drew;have U:=Ad a1.out (Below.refl _ W5).drew;refine Gd (S:=(fun u=>u.heap[g]? =some (.cells (Ct f prev i 3 Ac next T ok os n on k root D E es (.slice A M.length c) (.slice B N.length d)) 88 (0,0)))) (fun s=>?_);generalize W5.drew=V0 at s X0 G0 U ⊢;refine Au 0 ?_;refine Au 1 ?_;refine Au 2 ?_;refine Au 3 ?_;refine Au 4 ?_;refine Au 5 ?_;refine Au 6 ?_;refine Ch 7 fun K L=>?_;have ad:=Aa G0;have ae:=Ap G0
  go_simp
  have X1:=(Dd (b:=a) (j:=4) (v:=.int .i64 Ac) X0 (by omega));have G1:(V0.setCell ⟨a,4,none⟩ (.int .i64 Ac)).heap[a]? =some (.cells (Ct f prev i 3 Ac 0 0 0 0 ⟨#[]⟩ ⟨#[]⟩ 0 0 ⟨#[]⟩ 0 0 (.slice none 0 0) (.slice none 0 0)) 88 (0,0)):=(by have h:=(Cb 4 G0 (.int .i64 Ac));simpa using h)
  try clear hSn
  have hSn:=X1;refine Bq L (fun s=>?_);clear L K;refine Au 8 ?_;refine Ch 9 fun K L=>?_;have af:=Aa G1;have ag:=Ap G1
  go_simp
  have X2:=(Dd (b:=a) (j:=10) (v:=.string on) (Dd (b:=a) (j:=9) (v:=.string n) (Dd (b:=a) (j:=8) (v:=.int .i64 os) (Dd (b:=a) (j:=7) (v:=.int .i64 ok) X1 (by omega)) (by omega)) (by omega)) (by omega));have G2:(((((V0.setCell ⟨a,4,none⟩ (.int .i64 Ac)).setCell ⟨a,7,none⟩ (.int .i64 ok)).setCell ⟨a,8,none⟩ (.int .i64 os)).setCell ⟨a,9,none⟩ (.string n)).setCell ⟨a,10,none⟩ (.string on)).heap[a]? =some (.cells (Ct f prev i 3 Ac 0 0 ok os n on 0 0 ⟨#[]⟩ 0 0 (.slice none 0 0) (.slice none 0 0)) 88 (0,0)):=(by have h:=(Cb 10 (Cb 9 (Cb 8 (Cb 7 G1 (.int .i64 ok)) (.int .i64 os)) (.string n)) (.string on));simpa using h)
  try clear hSn
  have hSn:=X2;refine Bq L (fun s=>?_);clear L K;refine Au 10 ?_;refine Ch 11 fun K L=>?_;have ak:=Aa G2;have an:=Ap G2
  go_simp
  have X3:=(Dd (b:=a) (j:=5) (v:=.int .i64 next) X2 (by omega));have G3:((((((V0.setCell ⟨a,4,none⟩ (.int .i64 Ac)).setCell ⟨a,7,none⟩ (.int .i64 ok)).setCell ⟨a,8,none⟩ (.int .i64 os)).setCell ⟨a,9,none⟩ (.string n)).setCell ⟨a,10,none⟩ (.string on)).setCell ⟨a,5,none⟩ (.int .i64 next)).heap[a]? =some (.cells (Ct f prev i 3 Ac next 0 ok os n on 0 0 ⟨#[]⟩ 0 0 (.slice none 0 0) (.slice none 0 0)) 88 (0,0)):=(by have h:=(Cb 5 G2 (.int .i64 next));simpa using h)
  try clear hSn
  have hSn:=X3;refine Bq L (fun s=>?_);clear L K;refine wpAnyH_done Kr ?_ _;clear s hSn;have l:=Hq (show((((((V0.setCell ⟨a,4,none⟩ (.int .i64 Ac)).setCell ⟨a,7,none⟩ (.int .i64 ok)).setCell ⟨a,8,none⟩ (.int .i64 os)).setCell ⟨a,9,none⟩ (.string n)).setCell ⟨a,10,none⟩ (.string on)).setCell ⟨a,5,none⟩ (.int .i64 next)).heap[g]? =some (.cells (Ct f prev i 3 Ac next T ok os n on k root D E es (.slice A M.length c) (.slice B N.length d)) 88 (0,0))from X3);have H:=Hq (show((((((V0.setCell ⟨a,4,none⟩ (.int .i64 Ac)).setCell ⟨a,7,none⟩ (.int .i64 ok)).setCell ⟨a,8,none⟩ (.int .i64 os)).setCell ⟨a,9,none⟩ (.string n)).setCell ⟨a,10,none⟩ (.string on)).setCell ⟨a,5,none⟩ (.int .i64 next)).heap[a]? =some (.cells (Ct f prev i 3 Ac next 0 ok os n on 0 0 ⟨#[]⟩ 0 0 (.slice none 0 0) (.slice none 0 0)) 88 (0,0))from by have h:=G3;simpa using h);have t:=Hq (show Bw w ((((((V0.setCell ⟨a,4,none⟩ (.int .i64 Ac)).setCell ⟨a,7,none⟩ (.int .i64 ok)).setCell ⟨a,8,none⟩ (.int .i64 os)).setCell ⟨a,9,none⟩ (.string n)).setCell ⟨a,10,none⟩ (.string on)).setCell ⟨a,5,none⟩ (.int .i64 next))from((((((U.setCell (p:=⟨a,4,none⟩) (by show _≤a;omega) (.int .i64 Ac)).setCell (p:=⟨a,7,none⟩) (by show _≤a;omega) (.int .i64 ok)).setCell (p:=⟨a,8,none⟩) (by show _≤a;omega) (.int .i64 os)).setCell (p:=⟨a,9,none⟩) (by show _≤a;omega) (.string n)).setCell (p:=⟨a,10,none⟩) (by show _≤a;omega) (.string on)).setCell (p:=⟨a,5,none⟩) (by show _≤a;omega) (.int .i64 next)));obtain⟨W6,J⟩:=ex ((((((V0.setCell ⟨a,4,none⟩ (.int .i64 Ac)).setCell ⟨a,7,none⟩ (.int .i64 ok)).setCell ⟨a,8,none⟩ (.int .i64 os)).setCell ⟨a,9,none⟩ (.string n)).setCell ⟨a,10,none⟩ (.string on)).setCell ⟨a,5,none⟩ (.int .i64 next));rw[← J]at l H t;rw[← J];clear J R a6 a1 P X0 G0 U X1 G1 ad ae X2 G2 af ag X3 G3 ak an;have P:=Aa l.out;have x:=Hq (Mk (⟨f,prev,i,3,Ac,next,0,⟨ok,os,n,on⟩,0,0,⟨⟨#[]⟩,0,0⟩,[],[]⟩:Rc.Rec) ⟨f,prev,i,3,Ac,next,T,⟨ok,os,n,on⟩,k,root,⟨D,E,es⟩,M,N⟩ none A none B 0 c 0 d W6 (Ml _ _ rfl rfl) (ar.out _ t.out));dsimp only[D7,Dz,List.length_nil]at x;generalize decide ((⟨f,prev,i,3,Ac,next,0,⟨ok,os,n,on⟩,0,0,⟨⟨#[]⟩,0,0⟩,[],[]⟩:Rc.Rec)=⟨f,prev,i,3,Ac,next,T,⟨ok,os,n,on⟩,k,root,⟨D,E,es⟩,M,N⟩)=q at x G
  cases q with
  |false=>
   have F:=Hq (show z=false from G.out.trans (Bool.false_and _))
   go_wp2_with(first|with_reducible refine lL H.out Da ?_|with_reducible refine lL l.out Da ?_|(go_at_call 269;(with_reducible refine x.out.mono ?_);rintro e w7 ⟨rfl,m⟩;have a7:=Aa (Ae l.out m);have B7:=Ad t.out m))
   go_ret;exact⟨by rw[F.out];rfl,B7⟩
  |true=>
   have I:=Hq (G.out.trans (Bool.true_and _));clear G;have X:=Hq (fun W=>Kb Ac W)
   (try dsimp only[D7,Dz,mA]at X)
   generalize decide (Rc.pg Ac)=p0 at X I
   cases p0 with
   |false=>
    have F:=Hq (show z=false from I.out.trans (Bool.false_and _))
    go_wp2_with(first|with_reducible refine lL H.out Da ?_|with_reducible refine lL l.out Da ?_|(go_at_call 269;(with_reducible refine x.out.mono ?_);rintro e w7 ⟨rfl,m⟩;have a7:=Aa (Ae l.out m);have B7:=Ad t.out m)|(go_at_call 271;(with_reducible refine(X.out _).mono ?_);rintro e w8 ⟨rfl,y⟩;have ao:=Aa (Ae (Ae l.out m) y);have B8:=Ad B7 y))
    go_ret;exact⟨by rw[F.out];rfl,B8⟩
   |true=>
   have Z:=Hq (I.out.trans (Bool.true_and _));have ah:=Hq (fun W=>Wi ⟨ok,os,n,on⟩ W)
   (try dsimp only[D7,Dz,mA]at ah)
   generalize decide (Rc.Ij ⟨ok,os,n,on⟩)=p1 at ah Z
   cases p1 with
   |false=>
    have F:=Hq (show z=false from Z.out.trans (Bool.false_and _))
    go_wp2_with(first|with_reducible refine lL H.out Da ?_|with_reducible refine lL l.out Da ?_|(go_at_call 269;(with_reducible refine x.out.mono ?_);rintro e w7 ⟨rfl,m⟩;have a7:=Aa (Ae l.out m);have B7:=Ad t.out m)|(go_at_call 271;(with_reducible refine(X.out _).mono ?_);rintro e w8 ⟨rfl,y⟩;have ao:=Aa (Ae (Ae l.out m) y);have B8:=Ad B7 y)|(go_at_call 272;(with_reducible refine(ah.out _).mono ?_);rintro e w9 ⟨rfl,a8⟩;have ba:=Aa (Ae (Ae (Ae l.out m) y) a8);have B9:=Ad B8 a8))
    go_ret;exact⟨by rw[F.out];rfl,B9⟩
   |true=>
   have az:=Hq (Z.out.trans (Bool.true_and _));have b4:=Hq (fun W=>Jl next W)
   (try dsimp only[D7,Dz,mA]at b4)
   generalize decide (Rc.num next)=p2 at b4 az
   go_wp2_with(first|with_reducible refine lL H.out Da ?_|with_reducible refine lL l.out Da ?_|(go_at_call 269;(with_reducible refine x.out.mono ?_);rintro e w7 ⟨rfl,m⟩;have a7:=Aa (Ae l.out m);have B7:=Ad t.out m)|(go_at_call 271;(with_reducible refine(X.out _).mono ?_);rintro e w8 ⟨rfl,y⟩;have ao:=Aa (Ae (Ae l.out m) y);have B8:=Ad B7 y)|(go_at_call 272;(with_reducible refine(ah.out _).mono ?_);rintro e w9 ⟨rfl,a8⟩;have ba:=Aa (Ae (Ae (Ae l.out m) y) a8);have B9:=Ad B8 a8)|(go_at_call 267;(with_reducible refine(b4.out _).mono ?_);rintro e bh ⟨rfl,b0⟩;have bg:=Aa (Ae (Ae (Ae (Ae l.out m) y) a8) b0);have bf:=Ad B9 b0))
   go_ret;exact⟨by rw[az.out];simp,bf⟩
 ·obtain⟨V,Y,h3⟩:=aw.out
  have G:=Hq (show z=(decide ((⟨f,prev,i,8,Ac,0,0,⟨ok,os,n,on⟩,0,0,⟨⟨#[]⟩,0,0⟩,[],[]⟩:Rc.Rec)=⟨f,prev,i,8,Ac,next,T,⟨ok,os,n,on⟩,k,root,⟨D,E,es⟩,M,N⟩)&&(decide (Rc.pg Ac)&&(decide (Rc.Ij ⟨ok,os,n,on⟩))))from HZ.out.trans (Rc.Ma ((Rc.vD ⟨V,Y,h3⟩).trans (by simp only[Bool.and_eq_true,decide_eq_true_eq];(try exact Iff.rfl)))));clear V Y h3;have P:=Aa R.out;go_upto_region 20 with fail;have X0:=Ae R.out (Below.refl _ W5).drew;have G0:=Ae a6.out (Below.refl _ W5).drew;have U:=Ad a1.out (Below.refl _ W5).drew;refine Gd (S:=(fun u=>u.heap[g]? =some (.cells (Ct f prev i 8 Ac next T ok os n on k root D E es (.slice A M.length c) (.slice B N.length d)) 88 (0,0)))) (fun s=>?_);generalize W5.drew=V0 at s X0 G0 U ⊢;refine Au 0 ?_;refine Au 1 ?_;refine Au 2 ?_;refine Au 3 ?_;refine Au 4 ?_;refine Ch 5 fun K L=>?_;have ad:=Aa G0;have ae:=Ap G0
  go_simp
  have X1:=(Dd (b:=a) (j:=4) (v:=.int .i64 Ac) X0 (by omega));have G1:(V0.setCell ⟨a,4,none⟩ (.int .i64 Ac)).heap[a]? =some (.cells (Ct f prev i 8 Ac 0 0 0 0 ⟨#[]⟩ ⟨#[]⟩ 0 0 ⟨#[]⟩ 0 0 (.slice none 0 0) (.slice none 0 0)) 88 (0,0)):=(by have h:=(Cb 4 G0 (.int .i64 Ac));simpa using h)
  try clear hSn
  have hSn:=X1;refine Bq L (fun s=>?_);clear L K;refine Au 6 ?_;refine Ch 7 fun K L=>?_;have af:=Aa G1;have ag:=Ap G1
  go_simp
  have X2:=(Dd (b:=a) (j:=10) (v:=.string on) (Dd (b:=a) (j:=9) (v:=.string n) (Dd (b:=a) (j:=8) (v:=.int .i64 os) (Dd (b:=a) (j:=7) (v:=.int .i64 ok) X1 (by omega)) (by omega)) (by omega)) (by omega));have G2:(((((V0.setCell ⟨a,4,none⟩ (.int .i64 Ac)).setCell ⟨a,7,none⟩ (.int .i64 ok)).setCell ⟨a,8,none⟩ (.int .i64 os)).setCell ⟨a,9,none⟩ (.string n)).setCell ⟨a,10,none⟩ (.string on)).heap[a]? =some (.cells (Ct f prev i 8 Ac 0 0 ok os n on 0 0 ⟨#[]⟩ 0 0 (.slice none 0 0) (.slice none 0 0)) 88 (0,0)):=(by have h:=(Cb 10 (Cb 9 (Cb 8 (Cb 7 G1 (.int .i64 ok)) (.int .i64 os)) (.string n)) (.string on));simpa using h)
  try clear hSn
  have hSn:=X2;refine Bq L (fun s=>?_);clear L K;refine wpAnyH_done Kr ?_ _;clear s hSn;have l:=Hq (show(((((V0.setCell ⟨a,4,none⟩ (.int .i64 Ac)).setCell ⟨a,7,none⟩ (.int .i64 ok)).setCell ⟨a,8,none⟩ (.int .i64 os)).setCell ⟨a,9,none⟩ (.string n)).setCell ⟨a,10,none⟩ (.string on)).heap[g]? =some (.cells (Ct f prev i 8 Ac next T ok os n on k root D E es (.slice A M.length c) (.slice B N.length d)) 88 (0,0))from X2);have H:=Hq (show(((((V0.setCell ⟨a,4,none⟩ (.int .i64 Ac)).setCell ⟨a,7,none⟩ (.int .i64 ok)).setCell ⟨a,8,none⟩ (.int .i64 os)).setCell ⟨a,9,none⟩ (.string n)).setCell ⟨a,10,none⟩ (.string on)).heap[a]? =some (.cells (Ct f prev i 8 Ac 0 0 ok os n on 0 0 ⟨#[]⟩ 0 0 (.slice none 0 0) (.slice none 0 0)) 88 (0,0))from by have h:=G2;simpa using h);have t:=Hq (show Bw w (((((V0.setCell ⟨a,4,none⟩ (.int .i64 Ac)).setCell ⟨a,7,none⟩ (.int .i64 ok)).setCell ⟨a,8,none⟩ (.int .i64 os)).setCell ⟨a,9,none⟩ (.string n)).setCell ⟨a,10,none⟩ (.string on))from(((((U.setCell (p:=⟨a,4,none⟩) (by show _≤a;omega) (.int .i64 Ac)).setCell (p:=⟨a,7,none⟩) (by show _≤a;omega) (.int .i64 ok)).setCell (p:=⟨a,8,none⟩) (by show _≤a;omega) (.int .i64 os)).setCell (p:=⟨a,9,none⟩) (by show _≤a;omega) (.string n)).setCell (p:=⟨a,10,none⟩) (by show _≤a;omega) (.string on)));obtain⟨W6,J⟩:=ex (((((V0.setCell ⟨a,4,none⟩ (.int .i64 Ac)).setCell ⟨a,7,none⟩ (.int .i64 ok)).setCell ⟨a,8,none⟩ (.int .i64 os)).setCell ⟨a,9,none⟩ (.string n)).setCell ⟨a,10,none⟩ (.string on));rw[← J]at l H t;rw[← J];clear J R a6 a1 P X0 G0 U X1 G1 ad ae X2 G2 af ag;have P:=Aa l.out;have x:=Hq (Mk (⟨f,prev,i,8,Ac,0,0,⟨ok,os,n,on⟩,0,0,⟨⟨#[]⟩,0,0⟩,[],[]⟩:Rc.Rec) ⟨f,prev,i,8,Ac,next,T,⟨ok,os,n,on⟩,k,root,⟨D,E,es⟩,M,N⟩ none A none B 0 c 0 d W6 (Ml _ _ rfl rfl) (ar.out _ t.out));dsimp only[D7,Dz,List.length_nil]at x;generalize decide ((⟨f,prev,i,8,Ac,0,0,⟨ok,os,n,on⟩,0,0,⟨⟨#[]⟩,0,0⟩,[],[]⟩:Rc.Rec)=⟨f,prev,i,8,Ac,next,T,⟨ok,os,n,on⟩,k,root,⟨D,E,es⟩,M,N⟩)=q at x G
  cases q with
  |false=>
   have F:=Hq (show z=false from G.out.trans (Bool.false_and _))
   go_wp2_with(first|with_reducible refine lL H.out Da ?_|with_reducible refine lL l.out Da ?_|(go_at_call 269;(with_reducible refine x.out.mono ?_);rintro e w7 ⟨rfl,m⟩;have a7:=Aa (Ae l.out m);have B7:=Ad t.out m))
   go_ret;exact⟨by rw[F.out];rfl,B7⟩
  |true=>
   have I:=Hq (G.out.trans (Bool.true_and _));clear G;have X:=Hq (fun W=>Kb Ac W)
   (try dsimp only[D7,Dz,mA]at X)
   generalize decide (Rc.pg Ac)=p0 at X I
   cases p0 with
   |false=>
    have F:=Hq (show z=false from I.out.trans (Bool.false_and _))
    go_wp2_with(first|with_reducible refine lL H.out Da ?_|with_reducible refine lL l.out Da ?_|(go_at_call 269;(with_reducible refine x.out.mono ?_);rintro e w7 ⟨rfl,m⟩;have a7:=Aa (Ae l.out m);have B7:=Ad t.out m)|(go_at_call 271;(with_reducible refine(X.out _).mono ?_);rintro e w8 ⟨rfl,y⟩;have ao:=Aa (Ae (Ae l.out m) y);have B8:=Ad B7 y))
    go_ret;exact⟨by rw[F.out];rfl,B8⟩
   |true=>
   have Z:=Hq (I.out.trans (Bool.true_and _));have ah:=Hq (fun W=>Wi ⟨ok,os,n,on⟩ W)
   (try dsimp only[D7,Dz,mA]at ah)
   generalize decide (Rc.Ij ⟨ok,os,n,on⟩)=p1 at ah Z
   go_wp2_with(first|with_reducible refine lL H.out Da ?_|with_reducible refine lL l.out Da ?_|(go_at_call 269;(with_reducible refine x.out.mono ?_);rintro e w7 ⟨rfl,m⟩;have a7:=Aa (Ae l.out m);have B7:=Ad t.out m)|(go_at_call 271;(with_reducible refine(X.out _).mono ?_);rintro e w8 ⟨rfl,y⟩;have ao:=Aa (Ae (Ae l.out m) y);have B8:=Ad B7 y)|(go_at_call 272;(with_reducible refine(ah.out _).mono ?_);rintro e w9 ⟨rfl,a8⟩;have ba:=Aa (Ae (Ae (Ae l.out m) y) a8);have B9:=Ad B8 a8))
   go_ret;exact⟨by rw[Z.out];simp,B9⟩
end Go.Proofs.YtmldoihahndcgaaGreatDoor
