import Derived.Test.YtmfkhdhnbkambaaGreatDoorHw00
import Derived.Test.YtmfkhdhnbkambaaGreatDoorHw04
import Derived.Test.YtmfkhdhnbkambaaGreatDoorHw12
import Derived.Test.YtmfkhdhnbkambaaGreatDoorHw05
set_option maxRecDepth 100000
set_option maxHeartbeats 16000000
set_option linter.unusedSimpArgs false
namespace Go.Proofs.YtmfkhdhnbkambaaGreatDoor
open Go.RowKit
theorem Nh (r s:Rc.Rec)(A A' B B':Option Addr)(c c' d d':Nat)(w:World)(Q:Ig w r A c B d)(R:Ig w s A' c' B' d'):
 Cr 159 #[D9 r (.slice A r.txns.length c) (.slice B r.dirty.length d),D9 s (.slice A' s.txns.length c') (.slice B' s.dirty.length d')] w (.bool (decide (r=s))):=by
 have HT:=Hq (fun W hb=>iT r.txns s.txns Q.small.1 R.small.1 A A' c c' W (Q.txns.below hb) (R.txns.below hb));have HD:=Hq (fun W hb=>Y5 r.dirty s.dirty Q.small.2 R.small.2 B B' d d' W (Q.dirty.below hb) (R.dirty.below hb));have aq:=Q.small.1;have ar:=R.small.1;have au:=Q.small.2;have av:=R.small.2;have HO:=Hq (fun W=>Y1 r.op s.op W);have HK:=Hq (fun W=>M4 r.e s.e W);clear Q R;obtain⟨S,T,U,V,X,Y,Z,j,a1,a6,k,aw,ax⟩:=r;obtain⟨a7,a8,stx,aa,ad,ae,af,l,ag,ah,m,ay,az⟩:=s;simp only at HT HD HO HK aq ar au av ⊢
 by_cases F:S=a7
 rotate_left
 ·rw[decide_eq_false (fun e=>F (congrArg Rc.Rec.lsn e))]
  have b1:(S==a7)=false:=by simp[F]
  have b2:(S != a7)=true:=by simp[F]
  clear F;obtain⟨u,rs,rx,v⟩:=j;obtain⟨x,y,z,C⟩:=l;obtain⟨a,b,f⟩:=k;obtain⟨g,h,i⟩:=m;go_enter Tryz.func159,Tryz.ntmps159;go_wp2_with fail;go_ret;exact⟨by simp,Aj (Ac _ _)⟩
 subst F
 by_cases G:T=a8
 rotate_left
 ·rw[decide_eq_false (fun e=>G (congrArg Rc.Rec.prev e))]
  have b3:(T==a8)=false:=by simp[G]
  have mpr:(T != a8)=true:=by simp[G]
  clear G;obtain⟨u,rs,rx,v⟩:=j;obtain⟨x,y,z,C⟩:=l;obtain⟨a,b,f⟩:=k;obtain⟨g,h,i⟩:=m;go_enter Tryz.func159,Tryz.ntmps159;go_wp2_with fail;go_ret;exact⟨by simp,Aj (Ac _ _)⟩
 subst G
 by_cases H:U=stx
 rotate_left
 ·rw[decide_eq_false (fun e=>H (congrArg Rc.Rec.txn e))]
  have b4:(U==stx)=false:=by simp[H]
  have b5:(U != stx)=true:=by simp[H]
  clear H;obtain⟨u,rs,rx,v⟩:=j;obtain⟨x,y,z,C⟩:=l;obtain⟨a,b,f⟩:=k;obtain⟨g,h,i⟩:=m;go_enter Tryz.func159,Tryz.ntmps159;go_wp2_with fail;go_ret;exact⟨by simp,Aj (Ac _ _)⟩
 subst H
 by_cases I:V=aa
 rotate_left
 ·rw[decide_eq_false (fun e=>I (congrArg Rc.Rec.kind e))]
  have b6:(V==aa)=false:=by simp[I]
  have b7:(V != aa)=true:=by simp[I]
  clear I;obtain⟨u,rs,rx,v⟩:=j;obtain⟨x,y,z,C⟩:=l;obtain⟨a,b,f⟩:=k;obtain⟨g,h,i⟩:=m;go_enter Tryz.func159,Tryz.ntmps159;go_wp2_with fail;go_ret;exact⟨by simp,Aj (Ac _ _)⟩
 subst I
 by_cases J:X=ad
 rotate_left
 ·rw[decide_eq_false (fun e=>J (congrArg Rc.Rec.Ad e))]
  have b8:(X==ad)=false:=by simp[J]
  have b9:(X != ad)=true:=by simp[J]
  clear J;obtain⟨u,rs,rx,v⟩:=j;obtain⟨x,y,z,C⟩:=l;obtain⟨a,b,f⟩:=k;obtain⟨g,h,i⟩:=m;go_enter Tryz.func159,Tryz.ntmps159;go_wp2_with fail;go_ret;exact⟨by simp,Aj (Ac _ _)⟩
 subst J
 by_cases K:Y=ae
 rotate_left
 ·rw[decide_eq_false (fun e=>K (congrArg Rc.Rec.next e))]
  have ba:(Y==ae)=false:=by simp[K]
  have bb:(Y != ae)=true:=by simp[K]
  clear K;obtain⟨u,rs,rx,v⟩:=j;obtain⟨x,y,z,C⟩:=l;obtain⟨a,b,f⟩:=k;obtain⟨g,h,i⟩:=m;go_enter Tryz.func159,Tryz.ntmps159;go_wp2_with fail;go_ret;exact⟨by simp,Aj (Ac _ _)⟩
 subst K
 by_cases L:Z=af
 rotate_left
 ·rw[decide_eq_false (fun e=>L (congrArg Rc.Rec.num e))]
  have bc:(Z==af)=false:=by simp[L]
  have bd:(Z != af)=true:=by simp[L]
  clear L;obtain⟨u,rs,rx,v⟩:=j;obtain⟨x,y,z,C⟩:=l;obtain⟨a,b,f⟩:=k;obtain⟨g,h,i⟩:=m;go_enter Tryz.func159,Tryz.ntmps159;go_wp2_with fail;go_ret;exact⟨by simp,Aj (Ac _ _)⟩
 subst L
 cases D:decide (j=l)with
 |false=>
  rw[decide_eq_false (fun e=>of_decide_eq_false D (congrArg Rc.Rec.op e))];have ai:=HO.out;rw[D]at ai;clear D;obtain⟨u,rs,rx,v⟩:=j;obtain⟨x,y,z,C⟩:=l;obtain⟨a,b,f⟩:=k;obtain⟨g,h,i⟩:=m;go_enter Tryz.func159,Tryz.ntmps159;go_wp2_with fail;go_ret;exact⟨by simp,Aj (Ac _ _)⟩
 |true=>
 have ai:=HO.out;rw[D]at ai;have al:=Hq (of_decide_eq_true D);clear D HO
 by_cases M:a1=ag
 rotate_left
 ·rw[decide_eq_false (fun e=>M (congrArg Rc.Rec.how e))]
  have bf:(a1==ag)=false:=by simp[M]
  have bg:(a1 != ag)=true:=by simp[M]
  clear M;obtain⟨u,rs,rx,v⟩:=j;obtain⟨x,y,z,C⟩:=l;obtain⟨a,b,f⟩:=k;obtain⟨g,h,i⟩:=m;go_enter Tryz.func159,Tryz.ntmps159;go_wp2_with fail;go_ret;exact⟨by simp,Aj (Ac _ _)⟩
 subst M
 by_cases N:a6=ah
 rotate_left
 ·rw[decide_eq_false (fun e=>N (congrArg Rc.Rec.root e))]
  have bh:(a6==ah)=false:=by simp[N]
  have bj:(a6 != ah)=true:=by simp[N]
  clear N;obtain⟨u,rs,rx,v⟩:=j;obtain⟨x,y,z,C⟩:=l;obtain⟨a,b,f⟩:=k;obtain⟨g,h,i⟩:=m;go_enter Tryz.func159,Tryz.ntmps159;go_wp2_with fail;go_ret;exact⟨by simp,Aj (Ac _ _)⟩
 subst N
 cases E:decide (k=m)with
 |false=>
  rw[decide_eq_false (fun e=>of_decide_eq_false E (congrArg Rc.Rec.e e))];have aj:=HK.out;rw[E]at aj;clear E;obtain⟨u,rs,rx,v⟩:=j;obtain⟨x,y,z,C⟩:=l;obtain⟨a,b,f⟩:=k;obtain⟨g,h,i⟩:=m;go_enter Tryz.func159,Tryz.ntmps159;go_wp2_with fail;go_ret;exact⟨by simp,Aj (Ac _ _)⟩
 |true=>
 have aj:=HK.out;rw[E]at aj;have an:=Hq (of_decide_eq_true E);clear E HK
 cases o:decide (aw=ay)with
 |false=>
  have O:=Hq o;rw[decide_eq_false (fun e=>of_decide_eq_false o (congrArg Rc.Rec.txns e))];clear o;obtain⟨u,rs,rx,v⟩:=j;obtain⟨x,y,z,C⟩:=l;obtain⟨a,b,f⟩:=k;obtain⟨g,h,i⟩:=m;go_enter Tryz.func159,Tryz.ntmps159
  go_wp2_with(first|(go_at_call 199;(with_reducible refine(HT.out _ ?_).mono ?_);(exact Aj (Ac _ _));rintro e w2 ⟨rfl,n⟩;have q:=Af (Qo _ _ _) n;have t:=Af (Fb _ _ _) n;have q1:=Aa q 17;have q2:=Aa t 17;clear q t;simp at q1 q2;rw[O.out]))
  go_ret;exact⟨by simp,Ag (Aj (Ac _ _)) n⟩
 |true=>
 have ao:=Hq o;have O:=Hq (of_decide_eq_true o);clear o
 cases p:decide (ax=az)with
 |false=>
  have P:=Hq p;rw[decide_eq_false (fun e=>of_decide_eq_false p (congrArg Rc.Rec.dirty e))];clear p;obtain⟨u,rs,rx,v⟩:=j;obtain⟨x,y,z,C⟩:=l;obtain⟨a,b,f⟩:=k;obtain⟨g,h,i⟩:=m;go_enter Tryz.func159,Tryz.ntmps159
  go_wp2_with(first|(go_at_call 199;(with_reducible refine(HT.out _ ?_).mono ?_);(exact Aj (Ac _ _));rintro e w2 ⟨rfl,n⟩;have q:=Af (Qo _ _ _) n;have t:=Af (Fb _ _ _) n;have q1:=Aa q 17;have q2:=Aa t 17;clear q t;simp at q1 q2;rw[ao.out])|(go_at_call 200;(with_reducible refine(HD.out _ ?_).mono ?_);(exact Ag (Aj (Ac _ _)) n);rintro e w3 ⟨rfl,ak⟩;rw[P.out]))
  go_ret;exact⟨by simp,Ag (Ag (Aj (Ac _ _)) n) ak⟩
 |true=>
 have b0:=Hq p;have P:=Hq (of_decide_eq_true p);clear p;rw[decide_eq_true (by rw[al.out,an.out,O.out,P.out])];clear al an O P;obtain⟨u,rs,rx,v⟩:=j;obtain⟨x,y,z,C⟩:=l;obtain⟨a,b,f⟩:=k;obtain⟨g,h,i⟩:=m;go_enter Tryz.func159,Tryz.ntmps159
 go_wp2_with(first|(go_at_call 199;(with_reducible refine(HT.out _ ?_).mono ?_);(exact Aj (Ac _ _));rintro e w2 ⟨rfl,n⟩;have q:=Af (Qo _ _ _) n;have t:=Af (Fb _ _ _) n;have q1:=Aa q 17;have q2:=Aa t 17;clear q t;simp at q1 q2;rw[ao.out])|(go_at_call 200;(with_reducible refine(HD.out _ ?_).mono ?_);(exact Ag (Aj (Ac _ _)) n);rintro e w3 ⟨rfl,ak⟩;rw[b0.out]))
 go_ret;exact⟨by simp,Ag (Ag (Aj (Ac _ _)) n) ak⟩
theorem Dc {w:World}{g b j:Nat}{v:Value}{o:Obj}(h:w.heap[g]? =some o)(a:g≠b):(w.setCell ⟨b,j,none⟩ v).heap[g]? =some o:=(Below.heap_setCell _ _ _ _ a).trans h
theorem Ni (r:Rc.Rec)(w:World)(a:r.txns=[])(b:r.dirty=[]):Ig w r none 0 none 0:=by
 refine⟨?_,?_,by rw[a,b];exact⟨Nat.zero_le _,Nat.zero_le _⟩⟩
 ·rw[a];exact Reads.none_ _ _ _ _
 ·rw[b];exact Reads.none_ _ _ _ _
theorem Tt (r:Rc.Rec)(A B:Option Addr)(c d:Nat)(w:World)(hr:Ig w r A c B d)(b4:r.kind=1∨r.kind=2∨r.kind=3∨r.kind=8):
 Cr 121 #[D9 r (.slice A r.txns.length c) (.slice B r.dirty.length d)] w (.bool (Rc.D0 r)):=by
 obtain⟨f,prev,i,kind,Ad,next,T,⟨ok,os,n,on⟩,k,root,⟨D,E,es⟩,M,N⟩:=r;have ba:=Hq (show kind=1∨kind=2∨kind=3∨kind=8 from b4);clear b4;dsimp only[D9,D3];obtain⟨z,hz⟩:=ex (Rc.D0 ⟨f,prev,i,kind,Ad,next,T,⟨ok,os,n,on⟩,k,root,⟨D,E,es⟩,M,N⟩);rw[← hz];have HZ:=Hq hz;clear hz;obtain⟨w0,ao⟩:=ex (w.alloc (.cells (Cn f prev i kind Ad next T ok os n on k root D E es (.slice A M.length c) (.slice B N.length d)) 49));have ai:=Hq (show Bw w w0 from by rw[ao];exact Ac _ _);have O:=Hq (show w0.heap[w.heap.size]? =some (.cells (Cn f prev i kind Ad next T ok os n on k root D E es (.slice A M.length c) (.slice B N.length d)) 49 (0,0))from by rw[ao];exact heap_alloc_new _ _);have aq:=Hq (fun W (hb:Bw w W)=>hr.below hb);clear hr;go_enter Tryz.func121,Tryz.ntmps121;go_upto_region 1 with fail;rw[← ao];clear ao;obtain⟨g,hg⟩:=ex w.heap.size;rw[← hg]at O;rw[← hg];clear hg;have P:=Aa O.out;have H1:=Hq (fun W=>J5 f W);have H2:=Hq (fun W=>J5 prev W);have H3:=Hq (fun W=>J5 i W);have ar:=Hq (show ¬ (Rc.num f∧Rc.num prev∧Rc.num i)→z=false from fun h=>HZ.out.trans (Rc.C4 fun hr=>h (Rc.vO hr)))
 by_cases V:Rc.num f
 rotate_left
 ·rw[decide_eq_false V]at H1
  have F:=Hq (ar.out (fun h=>V h.1));clear V
  go_wp2_with(go_at_call 157;(with_reducible refine(H1.out _).mono ?_);rintro e w1 ⟨rfl,C⟩;have au:=Aa (Af O.out C))
  go_ret;exact⟨by rw[F.out];rfl,Ag ai.out C⟩
 by_cases Y:Rc.num prev
 rotate_left
 ·rw[decide_eq_true V]at H1
  rw[decide_eq_false Y]at H2;have F:=Hq (ar.out (fun h=>Y h.2.1));clear V Y
  go_wp2_with(first|(go_at_call 157;(with_reducible refine(H1.out _).mono ?_);rintro e w1 ⟨rfl,C⟩;have au:=Aa (Af O.out C))|(go_at_call 157;(with_reducible refine(H2.out _).mono ?_);rintro e w2 ⟨rfl,Q⟩;have b0:=Aa (Af (Af O.out C) Q)))
  go_ret;exact⟨by rw[F.out];rfl,Ag ai.out (Ag C Q)⟩
 by_cases h3:Rc.num i
 rotate_left
 ·rw[decide_eq_true V]at H1
  rw[decide_eq_true Y]at H2;rw[decide_eq_false h3]at H3;have F:=Hq (ar.out (fun h=>h3 h.2.2));clear V Y h3
  go_wp2_with(first|(go_at_call 157;(with_reducible refine(H1.out _).mono ?_);rintro e w1 ⟨rfl,C⟩;have au:=Aa (Af O.out C))|(go_at_call 157;(with_reducible refine(H2.out _).mono ?_);rintro e w2 ⟨rfl,Q⟩;have b0:=Aa (Af (Af O.out C) Q))|(go_at_call 157;(with_reducible refine(H3.out _).mono ?_);rintro e w3 ⟨rfl,aa⟩))
  go_ret;exact⟨by rw[F.out];rfl,Ag ai.out (Ag (Ag C Q) aa)⟩
 rw[decide_eq_true V]at H1;rw[decide_eq_true Y]at H2;rw[decide_eq_true h3]at H3;have av:=Hq (And.intro V (And.intro Y h3));clear V Y h3 ar;have b1:=Hq (fun W=>lD ⟨f,prev,i,kind,Ad,next,T,⟨ok,os,n,on⟩,k,root,⟨D,E,es⟩,M,N⟩ (.slice A M.length c) (.slice B N.length d) W);dsimp only[D9,D3,Rc.bare,Rc.Jo,Rc.Ce]at b1
 go_upto_region 4 with(first|(go_at_call 157;(with_reducible refine(H1.out _).mono ?_);rintro e w1 ⟨rfl,C⟩;have au:=Aa (Af O.out C))|(go_at_call 157;(with_reducible refine(H2.out _).mono ?_);rintro e w2 ⟨rfl,Q⟩;have b0:=Aa (Af (Af O.out C) Q))|(go_at_call 157;(with_reducible refine(H3.out _).mono ?_);rintro e w3 ⟨rfl,aa⟩)|(with_reducible refine lL (Af O.out (Ag (Ag C Q) aa)) C5 ?_)|(go_at_call 158;(with_reducible refine(b1.out _).mono ?_);rintro e w4 ⟨rfl,aj⟩)|with_reducible refine sN (Cn f prev i kind 0 0 0 0 0 ⟨#[]⟩ ⟨#[]⟩ 0 0 ⟨#[]⟩ 0 0 (.slice none 0 0) (.slice none 0 0)) ?_)
 have a1:=Hq (Ag (Ag (Ag (Ag ai.out C) Q) aa) (Aj (o:=.cells (Cn f prev i kind 0 0 0 0 0 ⟨#[]⟩ ⟨#[]⟩ 0 0 ⟨#[]⟩ 0 0 (.slice none 0 0) (.slice none 0 0)) 49) aj));have R:=Hq (Af O.out (Ag (Ag (Ag C Q) aa) (Aj (o:=.cells (Cn f prev i kind 0 0 0 0 0 ⟨#[]⟩ ⟨#[]⟩ 0 0 ⟨#[]⟩ 0 0 (.slice none 0 0) (.slice none 0 0)) 49) aj)));have a6:=Hq (heap_alloc_new w4 (.cells (Cn f prev i kind 0 0 0 0 0 ⟨#[]⟩ ⟨#[]⟩ 0 0 ⟨#[]⟩ 0 0 (.slice none 0 0) (.slice none 0 0)) 49));have bb:g<w4.heap.size:=Nat.lt_of_lt_of_le (Bt O.out) (Ag (Ag (Ag C Q) aa) aj).size;have bc:w.heap.size≤w4.heap.size:=(Ag (Ag (Ag (Ag ai.out C) Q) aa) aj).size;obtain⟨a,aw⟩:=ex w4.heap.size;obtain⟨W5,ax⟩:=ex (w4.alloc (.cells (Cn f prev i kind 0 0 0 0 0 ⟨#[]⟩ ⟨#[]⟩ 0 0 ⟨#[]⟩ 0 0 (.slice none 0 0) (.slice none 0 0)) 49));rw[← aw,← ax]at a6;rw[← ax]at a1 R;rw[← aw]at bb bc;rw[← aw,← ax];clear aw ax C Q aa aj au b0 P b1 H1 H2 H3 O;rcases ba.out with rfl|rfl|rfl|rfl
 ·obtain⟨V,Y,h3⟩:=av.out
  have G:=Hq (show z=decide ((⟨f,prev,i,1,0,0,0,⟨0,0,⟨#[]⟩,⟨#[]⟩⟩,0,0,⟨⟨#[]⟩,0,0⟩,[],[]⟩:Rc.Rec)=⟨f,prev,i,1,Ad,next,T,⟨ok,os,n,on⟩,k,root,⟨D,E,es⟩,M,N⟩)from HZ.out.trans (Rc.M6 ((Rc.tH (by omega) ⟨V,Y,h3⟩).trans decide_eq_true_iff.symm)));clear V Y h3;have P:=Aa R.out;have l:=R;have H:=a6;have t:=a1;obtain⟨W6,J⟩:=ex W5;rw[← J]at l H t;rw[← J];clear J R a6 a1 P;have P:=Aa l.out;have x:=Hq (Nh (⟨f,prev,i,1,0,0,0,⟨0,0,⟨#[]⟩,⟨#[]⟩⟩,0,0,⟨⟨#[]⟩,0,0⟩,[],[]⟩:Rc.Rec) ⟨f,prev,i,1,Ad,next,T,⟨ok,os,n,on⟩,k,root,⟨D,E,es⟩,M,N⟩ none A none B 0 c 0 d W6 (Ni _ _ rfl rfl) (aq.out _ t.out));dsimp only[D9,D3,List.length_nil]at x;generalize decide ((⟨f,prev,i,1,0,0,0,⟨0,0,⟨#[]⟩,⟨#[]⟩⟩,0,0,⟨⟨#[]⟩,0,0⟩,[],[]⟩:Rc.Rec)=⟨f,prev,i,1,Ad,next,T,⟨ok,os,n,on⟩,k,root,⟨D,E,es⟩,M,N⟩)=q at x G
  go_wp2_with(first|with_reducible refine lL H.out C5 ?_|with_reducible refine lL l.out C5 ?_|(go_at_call 159;(with_reducible refine x.out.mono ?_);rintro e w7 ⟨rfl,m⟩;have a7:=Aa (Af l.out m);have B7:=Ag t.out m))
  go_ret;exact⟨by rw[G.out];rfl,B7⟩
 ·obtain⟨V,Y,h3⟩:=av.out
  have G:=Hq (show z=(decide ((⟨f,prev,i,2,Ad,0,0,⟨ok,os,n,on⟩,k,root,⟨D,E,es⟩,[],[]⟩:Rc.Rec)=⟨f,prev,i,2,Ad,next,T,⟨ok,os,n,on⟩,k,root,⟨D,E,es⟩,M,N⟩)&&(decide (Rc.pg Ad∧Rc.Ix ⟨ok,os,n,on⟩∧Rc.Fp ⟨f,prev,i,2,Ad,next,T,⟨ok,os,n,on⟩,k,root,⟨D,E,es⟩,M,N⟩)))from HZ.out.trans (Rc.M6 ((Rc.zJ ⟨V,Y,h3⟩).trans (by simp only[Bool.and_eq_true,decide_eq_true_eq];(try exact Iff.rfl)))));clear V Y h3;have P:=Aa R.out;go_upto_region 11 with fail;have X0:=Af R.out (Below.refl _ W5).drew;have G0:=Af a6.out (Below.refl _ W5).drew;have U:=Ag a1.out (Below.refl _ W5).drew;refine G7 (S:=(fun u=>u.heap[g]? =some (.cells (Cn f prev i 2 Ad next T ok os n on k root D E es (.slice A M.length c) (.slice B N.length d)) 49 (0,0)))) (fun s=>?_);generalize W5.drew=V0 at s X0 G0 U ⊢;refine Bb 0 ?_;refine Bb 1 ?_;refine Bb 2 ?_;refine Bb 3 ?_;refine Bb 4 ?_;refine Bb 5 ?_;refine Bb 6 ?_;refine Bb 7 ?_;refine Bb 8 ?_;refine Bb 9 ?_;refine Bb 10 ?_;refine Dg 11 fun K L=>?_;have ad:=Aa G0;have ae:=Ap G0
  go_simp
  have X1:=(Dc (b:=a) (j:=4) (v:=.int .i64 Ad) X0 (by omega));have G1:(V0.setCell ⟨a,4,none⟩ (.int .i64 Ad)).heap[a]? =some (.cells (Cn f prev i 2 Ad 0 0 0 0 ⟨#[]⟩ ⟨#[]⟩ 0 0 ⟨#[]⟩ 0 0 (.slice none 0 0) (.slice none 0 0)) 49 (0,0)):=(by have h:=(Cp 4 G0 (.int .i64 Ad));simpa using h)
  try clear hSn
  have hSn:=X1;refine Cw L (fun s=>?_);clear L K;refine Bb 12 ?_;refine Dg 13 fun K L=>?_;have af:=Aa G1;have ag:=Ap G1
  go_simp
  have X2:=(Dc (b:=a) (j:=10) (v:=.string on) (Dc (b:=a) (j:=9) (v:=.string n) (Dc (b:=a) (j:=8) (v:=.int .i64 os) (Dc (b:=a) (j:=7) (v:=.int .i64 ok) X1 (by omega)) (by omega)) (by omega)) (by omega));have G2:(((((V0.setCell ⟨a,4,none⟩ (.int .i64 Ad)).setCell ⟨a,7,none⟩ (.int .i64 ok)).setCell ⟨a,8,none⟩ (.int .i64 os)).setCell ⟨a,9,none⟩ (.string n)).setCell ⟨a,10,none⟩ (.string on)).heap[a]? =some (.cells (Cn f prev i 2 Ad 0 0 ok os n on 0 0 ⟨#[]⟩ 0 0 (.slice none 0 0) (.slice none 0 0)) 49 (0,0)):=(by have h:=(Cp 10 (Cp 9 (Cp 8 (Cp 7 G1 (.int .i64 ok)) (.int .i64 os)) (.string n)) (.string on));simpa using h)
  try clear hSn
  have hSn:=X2;refine Cw L (fun s=>?_);clear L K;refine Bb 14 ?_;refine Dg 15 fun K L=>?_;have ak:=Aa G2;have al:=Ap G2
  go_simp
  have X3:=(Dc (b:=a) (j:=11) (v:=.int .i64 k) X2 (by omega));have G3:((((((V0.setCell ⟨a,4,none⟩ (.int .i64 Ad)).setCell ⟨a,7,none⟩ (.int .i64 ok)).setCell ⟨a,8,none⟩ (.int .i64 os)).setCell ⟨a,9,none⟩ (.string n)).setCell ⟨a,10,none⟩ (.string on)).setCell ⟨a,11,none⟩ (.int .i64 k)).heap[a]? =some (.cells (Cn f prev i 2 Ad 0 0 ok os n on k 0 ⟨#[]⟩ 0 0 (.slice none 0 0) (.slice none 0 0)) 49 (0,0)):=(by have h:=(Cp 11 G2 (.int .i64 k));simpa using h)
  try clear hSn
  have hSn:=X3;refine Cw L (fun s=>?_);clear L K;refine Bb 16 ?_;refine Dg 17 fun K L=>?_;have b5:=Aa G3;have b6:=Ap G3
  go_simp
  have X4:=(Dc (b:=a) (j:=12) (v:=.int .i64 root) X3 (by omega));have G4:(((((((V0.setCell ⟨a,4,none⟩ (.int .i64 Ad)).setCell ⟨a,7,none⟩ (.int .i64 ok)).setCell ⟨a,8,none⟩ (.int .i64 os)).setCell ⟨a,9,none⟩ (.string n)).setCell ⟨a,10,none⟩ (.string on)).setCell ⟨a,11,none⟩ (.int .i64 k)).setCell ⟨a,12,none⟩ (.int .i64 root)).heap[a]? =some (.cells (Cn f prev i 2 Ad 0 0 ok os n on k root ⟨#[]⟩ 0 0 (.slice none 0 0) (.slice none 0 0)) 49 (0,0)):=(by have h:=(Cp 12 G3 (.int .i64 root));simpa using h)
  try clear hSn
  have hSn:=X4;refine Cw L (fun s=>?_);clear L K;refine Bb 18 ?_;refine Dg 19 fun K L=>?_;have b7:=Aa G4;have b8:=Ap G4
  go_simp
  have X5:=(Dc (b:=a) (j:=15) (v:=.int .i64 es) (Dc (b:=a) (j:=14) (v:=.int .i64 E) (Dc (b:=a) (j:=13) (v:=.string D) X4 (by omega)) (by omega)) (by omega));have G5:((((((((((V0.setCell ⟨a,4,none⟩ (.int .i64 Ad)).setCell ⟨a,7,none⟩ (.int .i64 ok)).setCell ⟨a,8,none⟩ (.int .i64 os)).setCell ⟨a,9,none⟩ (.string n)).setCell ⟨a,10,none⟩ (.string on)).setCell ⟨a,11,none⟩ (.int .i64 k)).setCell ⟨a,12,none⟩ (.int .i64 root)).setCell ⟨a,13,none⟩ (.string D)).setCell ⟨a,14,none⟩ (.int .i64 E)).setCell ⟨a,15,none⟩ (.int .i64 es)).heap[a]? =some (.cells (Cn f prev i 2 Ad 0 0 ok os n on k root D E es (.slice none 0 0) (.slice none 0 0)) 49 (0,0)):=(by have h:=(Cp 15 (Cp 14 (Cp 13 G4 (.string D)) (.int .i64 E)) (.int .i64 es));simpa using h)
  try clear hSn
  have hSn:=X5;refine Cw L (fun s=>?_);clear L K;refine wpAnyH_done Kr ?_ _;clear s hSn;have l:=Hq (show((((((((((V0.setCell ⟨a,4,none⟩ (.int .i64 Ad)).setCell ⟨a,7,none⟩ (.int .i64 ok)).setCell ⟨a,8,none⟩ (.int .i64 os)).setCell ⟨a,9,none⟩ (.string n)).setCell ⟨a,10,none⟩ (.string on)).setCell ⟨a,11,none⟩ (.int .i64 k)).setCell ⟨a,12,none⟩ (.int .i64 root)).setCell ⟨a,13,none⟩ (.string D)).setCell ⟨a,14,none⟩ (.int .i64 E)).setCell ⟨a,15,none⟩ (.int .i64 es)).heap[g]? =some (.cells (Cn f prev i 2 Ad next T ok os n on k root D E es (.slice A M.length c) (.slice B N.length d)) 49 (0,0))from X5);have H:=Hq (show((((((((((V0.setCell ⟨a,4,none⟩ (.int .i64 Ad)).setCell ⟨a,7,none⟩ (.int .i64 ok)).setCell ⟨a,8,none⟩ (.int .i64 os)).setCell ⟨a,9,none⟩ (.string n)).setCell ⟨a,10,none⟩ (.string on)).setCell ⟨a,11,none⟩ (.int .i64 k)).setCell ⟨a,12,none⟩ (.int .i64 root)).setCell ⟨a,13,none⟩ (.string D)).setCell ⟨a,14,none⟩ (.int .i64 E)).setCell ⟨a,15,none⟩ (.int .i64 es)).heap[a]? =some (.cells (Cn f prev i 2 Ad 0 0 ok os n on k root D E es (.slice none 0 0) (.slice none 0 0)) 49 (0,0))from by have h:=G5;simpa using h);have t:=Hq (show Bw w ((((((((((V0.setCell ⟨a,4,none⟩ (.int .i64 Ad)).setCell ⟨a,7,none⟩ (.int .i64 ok)).setCell ⟨a,8,none⟩ (.int .i64 os)).setCell ⟨a,9,none⟩ (.string n)).setCell ⟨a,10,none⟩ (.string on)).setCell ⟨a,11,none⟩ (.int .i64 k)).setCell ⟨a,12,none⟩ (.int .i64 root)).setCell ⟨a,13,none⟩ (.string D)).setCell ⟨a,14,none⟩ (.int .i64 E)).setCell ⟨a,15,none⟩ (.int .i64 es))from((((((((((U.setCell (p:=⟨a,4,none⟩) (by show _≤a;omega) (.int .i64 Ad)).setCell (p:=⟨a,7,none⟩) (by show _≤a;omega) (.int .i64 ok)).setCell (p:=⟨a,8,none⟩) (by show _≤a;omega) (.int .i64 os)).setCell (p:=⟨a,9,none⟩) (by show _≤a;omega) (.string n)).setCell (p:=⟨a,10,none⟩) (by show _≤a;omega) (.string on)).setCell (p:=⟨a,11,none⟩) (by show _≤a;omega) (.int .i64 k)).setCell (p:=⟨a,12,none⟩) (by show _≤a;omega) (.int .i64 root)).setCell (p:=⟨a,13,none⟩) (by show _≤a;omega) (.string D)).setCell (p:=⟨a,14,none⟩) (by show _≤a;omega) (.int .i64 E)).setCell (p:=⟨a,15,none⟩) (by show _≤a;omega) (.int .i64 es)));obtain⟨W6,J⟩:=ex ((((((((((V0.setCell ⟨a,4,none⟩ (.int .i64 Ad)).setCell ⟨a,7,none⟩ (.int .i64 ok)).setCell ⟨a,8,none⟩ (.int .i64 os)).setCell ⟨a,9,none⟩ (.string n)).setCell ⟨a,10,none⟩ (.string on)).setCell ⟨a,11,none⟩ (.int .i64 k)).setCell ⟨a,12,none⟩ (.int .i64 root)).setCell ⟨a,13,none⟩ (.string D)).setCell ⟨a,14,none⟩ (.int .i64 E)).setCell ⟨a,15,none⟩ (.int .i64 es));rw[← J]at l H t;rw[← J];clear J R a6 a1 P X0 G0 U X1 G1 ad ae X2 G2 af ag X3 G3 ak al X4 G4 b5 b6 X5 G5 b7 b8;have P:=Aa l.out;have x:=Hq (Nh (⟨f,prev,i,2,Ad,0,0,⟨ok,os,n,on⟩,k,root,⟨D,E,es⟩,[],[]⟩:Rc.Rec) ⟨f,prev,i,2,Ad,next,T,⟨ok,os,n,on⟩,k,root,⟨D,E,es⟩,M,N⟩ none A none B 0 c 0 d W6 (Ni _ _ rfl rfl) (aq.out _ t.out))
  dsimp only[D9,D3,List.length_nil]at x;generalize decide ((⟨f,prev,i,2,Ad,0,0,⟨ok,os,n,on⟩,k,root,⟨D,E,es⟩,[],[]⟩:Rc.Rec)=⟨f,prev,i,2,Ad,next,T,⟨ok,os,n,on⟩,k,root,⟨D,E,es⟩,M,N⟩)=q at x G
  cases q with
  |false=>
   have F:=Hq (show z=false from G.out.trans (Bool.false_and _))
   go_wp2_with(first|with_reducible refine lL H.out C5 ?_|with_reducible refine lL l.out C5 ?_|(go_at_call 159;(with_reducible refine x.out.mono ?_);rintro e w7 ⟨rfl,m⟩;have a7:=Aa (Af l.out m);have B7:=Ag t.out m))
   go_ret;exact⟨by rw[F.out];rfl,B7⟩
  |true=>
   have I:=Hq (G.out.trans (Bool.true_and _));clear G;have b2:=Hq (fun W=>aK ⟨f,prev,i,2,Ad,next,T,⟨ok,os,n,on⟩,k,root,⟨D,E,es⟩,M,N⟩ (.slice A M.length c) (.slice B N.length d) W)
   (try dsimp only[D9,D3,oD]at b2)
   generalize decide (Rc.pg Ad∧Rc.Ix ⟨ok,os,n,on⟩∧Rc.Fp ⟨f,prev,i,2,Ad,next,T,⟨ok,os,n,on⟩,k,root,⟨D,E,es⟩,M,N⟩)=p0 at b2 I
   go_wp2_with(first|with_reducible refine lL H.out C5 ?_|with_reducible refine lL l.out C5 ?_|(go_at_call 159;(with_reducible refine x.out.mono ?_);rintro e w7 ⟨rfl,m⟩;have a7:=Aa (Af l.out m);have B7:=Ag t.out m)|with_reducible refine lL (Af l.out m) C5 ?_|(go_at_call 160;(with_reducible refine(b2.out _).mono ?_);rintro e w8 ⟨rfl,y⟩;have an:=Aa (Af (Af l.out m) y);have B8:=Ag B7 y))
   go_ret;exact⟨by rw[I.out];simp,B8⟩
 ·obtain⟨V,Y,h3⟩:=av.out
  have G:=Hq (show z=(decide ((⟨f,prev,i,3,Ad,next,0,⟨ok,os,n,on⟩,0,0,⟨⟨#[]⟩,0,0⟩,[],[]⟩:Rc.Rec)=⟨f,prev,i,3,Ad,next,T,⟨ok,os,n,on⟩,k,root,⟨D,E,es⟩,M,N⟩)&&(decide (Rc.pg Ad)&&(decide (Rc.Ix ⟨ok,os,n,on⟩)&&(decide (Rc.num next)))))from HZ.out.trans (Rc.M6 ((Rc.zK ⟨V,Y,h3⟩).trans (by simp only[Bool.and_eq_true,decide_eq_true_eq];(try exact Iff.rfl)))));clear V Y h3;have P:=Aa R.out;go_upto_region 14 with fail;have X0:=Af R.out (Below.refl _ W5).drew;have G0:=Af a6.out (Below.refl _ W5).drew;have U:=Ag a1.out (Below.refl _ W5).drew;refine G7 (S:=(fun u=>u.heap[g]? =some (.cells (Cn f prev i 3 Ad next T ok os n on k root D E es (.slice A M.length c) (.slice B N.length d)) 49 (0,0)))) (fun s=>?_);generalize W5.drew=V0 at s X0 G0 U ⊢;refine Bb 0 ?_;refine Bb 1 ?_;refine Bb 2 ?_;refine Bb 3 ?_;refine Bb 4 ?_;refine Bb 5 ?_;refine Bb 6 ?_;refine Dg 7 fun K L=>?_;have ad:=Aa G0;have ae:=Ap G0
  go_simp
  have X1:=(Dc (b:=a) (j:=4) (v:=.int .i64 Ad) X0 (by omega));have G1:(V0.setCell ⟨a,4,none⟩ (.int .i64 Ad)).heap[a]? =some (.cells (Cn f prev i 3 Ad 0 0 0 0 ⟨#[]⟩ ⟨#[]⟩ 0 0 ⟨#[]⟩ 0 0 (.slice none 0 0) (.slice none 0 0)) 49 (0,0)):=(by have h:=(Cp 4 G0 (.int .i64 Ad));simpa using h)
  try clear hSn
  have hSn:=X1;refine Cw L (fun s=>?_);clear L K;refine Bb 8 ?_;refine Dg 9 fun K L=>?_;have af:=Aa G1;have ag:=Ap G1
  go_simp
  have X2:=(Dc (b:=a) (j:=10) (v:=.string on) (Dc (b:=a) (j:=9) (v:=.string n) (Dc (b:=a) (j:=8) (v:=.int .i64 os) (Dc (b:=a) (j:=7) (v:=.int .i64 ok) X1 (by omega)) (by omega)) (by omega)) (by omega));have G2:(((((V0.setCell ⟨a,4,none⟩ (.int .i64 Ad)).setCell ⟨a,7,none⟩ (.int .i64 ok)).setCell ⟨a,8,none⟩ (.int .i64 os)).setCell ⟨a,9,none⟩ (.string n)).setCell ⟨a,10,none⟩ (.string on)).heap[a]? =some (.cells (Cn f prev i 3 Ad 0 0 ok os n on 0 0 ⟨#[]⟩ 0 0 (.slice none 0 0) (.slice none 0 0)) 49 (0,0)):=(by have h:=(Cp 10 (Cp 9 (Cp 8 (Cp 7 G1 (.int .i64 ok)) (.int .i64 os)) (.string n)) (.string on));simpa using h)
  try clear hSn
  have hSn:=X2;refine Cw L (fun s=>?_);clear L K;refine Bb 10 ?_;refine Dg 11 fun K L=>?_;have ak:=Aa G2;have al:=Ap G2
  go_simp
  have X3:=(Dc (b:=a) (j:=5) (v:=.int .i64 next) X2 (by omega));have G3:((((((V0.setCell ⟨a,4,none⟩ (.int .i64 Ad)).setCell ⟨a,7,none⟩ (.int .i64 ok)).setCell ⟨a,8,none⟩ (.int .i64 os)).setCell ⟨a,9,none⟩ (.string n)).setCell ⟨a,10,none⟩ (.string on)).setCell ⟨a,5,none⟩ (.int .i64 next)).heap[a]? =some (.cells (Cn f prev i 3 Ad next 0 ok os n on 0 0 ⟨#[]⟩ 0 0 (.slice none 0 0) (.slice none 0 0)) 49 (0,0)):=(by have h:=(Cp 5 G2 (.int .i64 next));simpa using h)
  try clear hSn
  have hSn:=X3;refine Cw L (fun s=>?_);clear L K;refine wpAnyH_done Kr ?_ _;clear s hSn;have l:=Hq (show((((((V0.setCell ⟨a,4,none⟩ (.int .i64 Ad)).setCell ⟨a,7,none⟩ (.int .i64 ok)).setCell ⟨a,8,none⟩ (.int .i64 os)).setCell ⟨a,9,none⟩ (.string n)).setCell ⟨a,10,none⟩ (.string on)).setCell ⟨a,5,none⟩ (.int .i64 next)).heap[g]? =some (.cells (Cn f prev i 3 Ad next T ok os n on k root D E es (.slice A M.length c) (.slice B N.length d)) 49 (0,0))from X3);have H:=Hq (show((((((V0.setCell ⟨a,4,none⟩ (.int .i64 Ad)).setCell ⟨a,7,none⟩ (.int .i64 ok)).setCell ⟨a,8,none⟩ (.int .i64 os)).setCell ⟨a,9,none⟩ (.string n)).setCell ⟨a,10,none⟩ (.string on)).setCell ⟨a,5,none⟩ (.int .i64 next)).heap[a]? =some (.cells (Cn f prev i 3 Ad next 0 ok os n on 0 0 ⟨#[]⟩ 0 0 (.slice none 0 0) (.slice none 0 0)) 49 (0,0))from by have h:=G3;simpa using h);have t:=Hq (show Bw w ((((((V0.setCell ⟨a,4,none⟩ (.int .i64 Ad)).setCell ⟨a,7,none⟩ (.int .i64 ok)).setCell ⟨a,8,none⟩ (.int .i64 os)).setCell ⟨a,9,none⟩ (.string n)).setCell ⟨a,10,none⟩ (.string on)).setCell ⟨a,5,none⟩ (.int .i64 next))from((((((U.setCell (p:=⟨a,4,none⟩) (by show _≤a;omega) (.int .i64 Ad)).setCell (p:=⟨a,7,none⟩) (by show _≤a;omega) (.int .i64 ok)).setCell (p:=⟨a,8,none⟩) (by show _≤a;omega) (.int .i64 os)).setCell (p:=⟨a,9,none⟩) (by show _≤a;omega) (.string n)).setCell (p:=⟨a,10,none⟩) (by show _≤a;omega) (.string on)).setCell (p:=⟨a,5,none⟩) (by show _≤a;omega) (.int .i64 next)));obtain⟨W6,J⟩:=ex ((((((V0.setCell ⟨a,4,none⟩ (.int .i64 Ad)).setCell ⟨a,7,none⟩ (.int .i64 ok)).setCell ⟨a,8,none⟩ (.int .i64 os)).setCell ⟨a,9,none⟩ (.string n)).setCell ⟨a,10,none⟩ (.string on)).setCell ⟨a,5,none⟩ (.int .i64 next));rw[← J]at l H t;rw[← J];clear J R a6 a1 P X0 G0 U X1 G1 ad ae X2 G2 af ag X3 G3 ak al;have P:=Aa l.out;have x:=Hq (Nh (⟨f,prev,i,3,Ad,next,0,⟨ok,os,n,on⟩,0,0,⟨⟨#[]⟩,0,0⟩,[],[]⟩:Rc.Rec) ⟨f,prev,i,3,Ad,next,T,⟨ok,os,n,on⟩,k,root,⟨D,E,es⟩,M,N⟩ none A none B 0 c 0 d W6 (Ni _ _ rfl rfl) (aq.out _ t.out));dsimp only[D9,D3,List.length_nil]at x;generalize decide ((⟨f,prev,i,3,Ad,next,0,⟨ok,os,n,on⟩,0,0,⟨⟨#[]⟩,0,0⟩,[],[]⟩:Rc.Rec)=⟨f,prev,i,3,Ad,next,T,⟨ok,os,n,on⟩,k,root,⟨D,E,es⟩,M,N⟩)=q at x G
  cases q with
  |false=>
   have F:=Hq (show z=false from G.out.trans (Bool.false_and _))
   go_wp2_with(first|with_reducible refine lL H.out C5 ?_|with_reducible refine lL l.out C5 ?_|(go_at_call 159;(with_reducible refine x.out.mono ?_);rintro e w7 ⟨rfl,m⟩;have a7:=Aa (Af l.out m);have B7:=Ag t.out m))
   go_ret;exact⟨by rw[F.out];rfl,B7⟩
  |true=>
   have I:=Hq (G.out.trans (Bool.true_and _));clear G;have X:=Hq (fun W=>Kz Ad W)
   (try dsimp only[D9,D3,oD]at X)
   generalize decide (Rc.pg Ad)=p0 at X I
   cases p0 with
   |false=>
    have F:=Hq (show z=false from I.out.trans (Bool.false_and _))
    go_wp2_with(first|with_reducible refine lL H.out C5 ?_|with_reducible refine lL l.out C5 ?_|(go_at_call 159;(with_reducible refine x.out.mono ?_);rintro e w7 ⟨rfl,m⟩;have a7:=Aa (Af l.out m);have B7:=Ag t.out m)|(go_at_call 161;(with_reducible refine(X.out _).mono ?_);rintro e w8 ⟨rfl,y⟩;have an:=Aa (Af (Af l.out m) y);have B8:=Ag B7 y))
    go_ret;exact⟨by rw[F.out];rfl,B8⟩
   |true=>
   have Z:=Hq (I.out.trans (Bool.true_and _));have ah:=Hq (fun W=>Xl ⟨ok,os,n,on⟩ W)
   (try dsimp only[D9,D3,oD]at ah)
   generalize decide (Rc.Ix ⟨ok,os,n,on⟩)=p1 at ah Z
   cases p1 with
   |false=>
    have F:=Hq (show z=false from Z.out.trans (Bool.false_and _))
    go_wp2_with(first|with_reducible refine lL H.out C5 ?_|with_reducible refine lL l.out C5 ?_|(go_at_call 159;(with_reducible refine x.out.mono ?_);rintro e w7 ⟨rfl,m⟩;have a7:=Aa (Af l.out m);have B7:=Ag t.out m)|(go_at_call 161;(with_reducible refine(X.out _).mono ?_);rintro e w8 ⟨rfl,y⟩;have an:=Aa (Af (Af l.out m) y);have B8:=Ag B7 y)|(go_at_call 162;(with_reducible refine(ah.out _).mono ?_);rintro e w9 ⟨rfl,a8⟩;have b9:=Aa (Af (Af (Af l.out m) y) a8);have B9:=Ag B8 a8))
    go_ret;exact⟨by rw[F.out];rfl,B9⟩
   |true=>
   have ay:=Hq (Z.out.trans (Bool.true_and _));have b3:=Hq (fun W=>J5 next W)
   (try dsimp only[D9,D3,oD]at b3)
   generalize decide (Rc.num next)=p2 at b3 ay
   go_wp2_with(first|with_reducible refine lL H.out C5 ?_|with_reducible refine lL l.out C5 ?_|(go_at_call 159;(with_reducible refine x.out.mono ?_);rintro e w7 ⟨rfl,m⟩;have a7:=Aa (Af l.out m);have B7:=Ag t.out m)|(go_at_call 161;(with_reducible refine(X.out _).mono ?_);rintro e w8 ⟨rfl,y⟩;have an:=Aa (Af (Af l.out m) y);have B8:=Ag B7 y)|(go_at_call 162;(with_reducible refine(ah.out _).mono ?_);rintro e w9 ⟨rfl,a8⟩;have b9:=Aa (Af (Af (Af l.out m) y) a8);have B9:=Ag B8 a8)|(go_at_call 157;(with_reducible refine(b3.out _).mono ?_);rintro e bg ⟨rfl,az⟩;have bf:=Aa (Af (Af (Af (Af l.out m) y) a8) az);have bd:=Ag B9 az))
   go_ret;exact⟨by rw[ay.out];simp,bd⟩
 ·obtain⟨V,Y,h3⟩:=av.out
  have G:=Hq (show z=(decide ((⟨f,prev,i,8,Ad,0,0,⟨ok,os,n,on⟩,0,0,⟨⟨#[]⟩,0,0⟩,[],[]⟩:Rc.Rec)=⟨f,prev,i,8,Ad,next,T,⟨ok,os,n,on⟩,k,root,⟨D,E,es⟩,M,N⟩)&&(decide (Rc.pg Ad)&&(decide (Rc.Ix ⟨ok,os,n,on⟩))))from HZ.out.trans (Rc.M6 ((Rc.zL ⟨V,Y,h3⟩).trans (by simp only[Bool.and_eq_true,decide_eq_true_eq];(try exact Iff.rfl)))));clear V Y h3;have P:=Aa R.out;go_upto_region 20 with fail;have X0:=Af R.out (Below.refl _ W5).drew;have G0:=Af a6.out (Below.refl _ W5).drew;have U:=Ag a1.out (Below.refl _ W5).drew;refine G7 (S:=(fun u=>u.heap[g]? =some (.cells (Cn f prev i 8 Ad next T ok os n on k root D E es (.slice A M.length c) (.slice B N.length d)) 49 (0,0)))) (fun s=>?_);generalize W5.drew=V0 at s X0 G0 U ⊢;refine Bb 0 ?_;refine Bb 1 ?_;refine Bb 2 ?_;refine Bb 3 ?_;refine Bb 4 ?_;refine Dg 5 fun K L=>?_;have ad:=Aa G0;have ae:=Ap G0
  go_simp
  have X1:=(Dc (b:=a) (j:=4) (v:=.int .i64 Ad) X0 (by omega));have G1:(V0.setCell ⟨a,4,none⟩ (.int .i64 Ad)).heap[a]? =some (.cells (Cn f prev i 8 Ad 0 0 0 0 ⟨#[]⟩ ⟨#[]⟩ 0 0 ⟨#[]⟩ 0 0 (.slice none 0 0) (.slice none 0 0)) 49 (0,0)):=(by have h:=(Cp 4 G0 (.int .i64 Ad));simpa using h)
  try clear hSn
  have hSn:=X1;refine Cw L (fun s=>?_);clear L K;refine Bb 6 ?_;refine Dg 7 fun K L=>?_;have af:=Aa G1;have ag:=Ap G1
  go_simp
  have X2:=(Dc (b:=a) (j:=10) (v:=.string on) (Dc (b:=a) (j:=9) (v:=.string n) (Dc (b:=a) (j:=8) (v:=.int .i64 os) (Dc (b:=a) (j:=7) (v:=.int .i64 ok) X1 (by omega)) (by omega)) (by omega)) (by omega));have G2:(((((V0.setCell ⟨a,4,none⟩ (.int .i64 Ad)).setCell ⟨a,7,none⟩ (.int .i64 ok)).setCell ⟨a,8,none⟩ (.int .i64 os)).setCell ⟨a,9,none⟩ (.string n)).setCell ⟨a,10,none⟩ (.string on)).heap[a]? =some (.cells (Cn f prev i 8 Ad 0 0 ok os n on 0 0 ⟨#[]⟩ 0 0 (.slice none 0 0) (.slice none 0 0)) 49 (0,0)):=(by have h:=(Cp 10 (Cp 9 (Cp 8 (Cp 7 G1 (.int .i64 ok)) (.int .i64 os)) (.string n)) (.string on));simpa using h)
  try clear hSn
  have hSn:=X2;refine Cw L (fun s=>?_);clear L K;refine wpAnyH_done Kr ?_ _;clear s hSn;have l:=Hq (show(((((V0.setCell ⟨a,4,none⟩ (.int .i64 Ad)).setCell ⟨a,7,none⟩ (.int .i64 ok)).setCell ⟨a,8,none⟩ (.int .i64 os)).setCell ⟨a,9,none⟩ (.string n)).setCell ⟨a,10,none⟩ (.string on)).heap[g]? =some (.cells (Cn f prev i 8 Ad next T ok os n on k root D E es (.slice A M.length c) (.slice B N.length d)) 49 (0,0))from X2);have H:=Hq (show(((((V0.setCell ⟨a,4,none⟩ (.int .i64 Ad)).setCell ⟨a,7,none⟩ (.int .i64 ok)).setCell ⟨a,8,none⟩ (.int .i64 os)).setCell ⟨a,9,none⟩ (.string n)).setCell ⟨a,10,none⟩ (.string on)).heap[a]? =some (.cells (Cn f prev i 8 Ad 0 0 ok os n on 0 0 ⟨#[]⟩ 0 0 (.slice none 0 0) (.slice none 0 0)) 49 (0,0))from by have h:=G2;simpa using h);have t:=Hq (show Bw w (((((V0.setCell ⟨a,4,none⟩ (.int .i64 Ad)).setCell ⟨a,7,none⟩ (.int .i64 ok)).setCell ⟨a,8,none⟩ (.int .i64 os)).setCell ⟨a,9,none⟩ (.string n)).setCell ⟨a,10,none⟩ (.string on))from(((((U.setCell (p:=⟨a,4,none⟩) (by show _≤a;omega) (.int .i64 Ad)).setCell (p:=⟨a,7,none⟩) (by show _≤a;omega) (.int .i64 ok)).setCell (p:=⟨a,8,none⟩) (by show _≤a;omega) (.int .i64 os)).setCell (p:=⟨a,9,none⟩) (by show _≤a;omega) (.string n)).setCell (p:=⟨a,10,none⟩) (by show _≤a;omega) (.string on)));obtain⟨W6,J⟩:=ex (((((V0.setCell ⟨a,4,none⟩ (.int .i64 Ad)).setCell ⟨a,7,none⟩ (.int .i64 ok)).setCell ⟨a,8,none⟩ (.int .i64 os)).setCell ⟨a,9,none⟩ (.string n)).setCell ⟨a,10,none⟩ (.string on));rw[← J]at l H t;rw[← J];clear J R a6 a1 P X0 G0 U X1 G1 ad ae X2 G2 af ag;have P:=Aa l.out;have x:=Hq (Nh (⟨f,prev,i,8,Ad,0,0,⟨ok,os,n,on⟩,0,0,⟨⟨#[]⟩,0,0⟩,[],[]⟩:Rc.Rec) ⟨f,prev,i,8,Ad,next,T,⟨ok,os,n,on⟩,k,root,⟨D,E,es⟩,M,N⟩ none A none B 0 c 0 d W6 (Ni _ _ rfl rfl) (aq.out _ t.out));dsimp only[D9,D3,List.length_nil]at x;generalize decide ((⟨f,prev,i,8,Ad,0,0,⟨ok,os,n,on⟩,0,0,⟨⟨#[]⟩,0,0⟩,[],[]⟩:Rc.Rec)=⟨f,prev,i,8,Ad,next,T,⟨ok,os,n,on⟩,k,root,⟨D,E,es⟩,M,N⟩)=q at x G
  cases q with
  |false=>
   have F:=Hq (show z=false from G.out.trans (Bool.false_and _))
   go_wp2_with(first|with_reducible refine lL H.out C5 ?_|with_reducible refine lL l.out C5 ?_|(go_at_call 159;(with_reducible refine x.out.mono ?_);rintro e w7 ⟨rfl,m⟩;have a7:=Aa (Af l.out m);have B7:=Ag t.out m))
   go_ret;exact⟨by rw[F.out];rfl,B7⟩
  |true=>
   have I:=Hq (G.out.trans (Bool.true_and _));clear G;have X:=Hq (fun W=>Kz Ad W)
   (try dsimp only[D9,D3,oD]at X)
   generalize decide (Rc.pg Ad)=p0 at X I
   cases p0 with
   |false=>
    have F:=Hq (show z=false from I.out.trans (Bool.false_and _))
    go_wp2_with(first|with_reducible refine lL H.out C5 ?_|with_reducible refine lL l.out C5 ?_|(go_at_call 159;(with_reducible refine x.out.mono ?_);rintro e w7 ⟨rfl,m⟩;have a7:=Aa (Af l.out m);have B7:=Ag t.out m)|(go_at_call 161;(with_reducible refine(X.out _).mono ?_);rintro e w8 ⟨rfl,y⟩;have an:=Aa (Af (Af l.out m) y);have B8:=Ag B7 y))
    go_ret;exact⟨by rw[F.out];rfl,B8⟩
   |true=>
   have Z:=Hq (I.out.trans (Bool.true_and _));have ah:=Hq (fun W=>Xl ⟨ok,os,n,on⟩ W)
   (try dsimp only[D9,D3,oD]at ah)
   generalize decide (Rc.Ix ⟨ok,os,n,on⟩)=p1 at ah Z
   go_wp2_with(first|with_reducible refine lL H.out C5 ?_|with_reducible refine lL l.out C5 ?_|(go_at_call 159;(with_reducible refine x.out.mono ?_);rintro e w7 ⟨rfl,m⟩;have a7:=Aa (Af l.out m);have B7:=Ag t.out m)|(go_at_call 161;(with_reducible refine(X.out _).mono ?_);rintro e w8 ⟨rfl,y⟩;have an:=Aa (Af (Af l.out m) y);have B8:=Ag B7 y)|(go_at_call 162;(with_reducible refine(ah.out _).mono ?_);rintro e w9 ⟨rfl,a8⟩;have b9:=Aa (Af (Af (Af l.out m) y) a8);have B9:=Ag B8 a8))
   go_ret;exact⟨by rw[Z.out];simp,B9⟩
end Go.Proofs.YtmfkhdhnbkambaaGreatDoor
