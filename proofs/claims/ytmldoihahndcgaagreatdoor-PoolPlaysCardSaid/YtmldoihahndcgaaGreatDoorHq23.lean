import Derived.Test.YtmldoihahndcgaaGreatDoorHq00
import Derived.Test.YtmldoihahndcgaaGreatDoorHq13
import Derived.Test.YtmldoihahndcgaaGreatDoorHq10
import Derived.Test.YtmldoihahndcgaaGreatDoorHq22
import Derived.BigRegion
set_option maxRecDepth 100000
set_option maxHeartbeats 16000000
set_option linter.unusedSimpArgs false
namespace Go.Proofs.YtmldoihahndcgaaGreatDoor
open Go.RowKit Sc
theorem jZ (k:Nat)(j:1≤k∧k≤64)(w:World):
 Cq 43 #[.int .i64 (k:Int)] w (nT k w):=by
 have f:=fun W=>Py k j.2 W;have l:¬ (k:Int)<1:=by omega
 have m:¬ (64:Int)<(k:Int):=by omega
 generalize b:((Eh k).flatMap F4).toArray=fr at f;have g:=Hq b;clear b;go_enter Tryz.func43,Tryz.ntmps43;go_upto_region 1 with fail;have d:=Tq w #['s',()] 33;obtain⟨a,c⟩:=Dr d;rw[← c]at d ⊢;clear c;go_upto_region 3 with fail;have H1:=Hq (d.out.step (Ad a (.cells fr 116)));have n:=Hq (heap_alloc_new a (.cells fr 116))
 go_wp2_with(with_reducible refine lS #[.slice (some ⟨a.heap.size,0,none⟩) k k,()] H1.out.Ag ?_)
 refine rT2 () H1.out.Ag cP ?_;have o:w.heap.size<a.heap.size:=by have:=d.out.lt (i:=0) (by simp);omega
 have h:=(Aj (a.alloc (.cells fr 116)) w.heap.size #[.slice (some ⟨a.heap.size,0,none⟩) k k,()] a.heap.size (by omega)).trans n.out;refine⟨a.heap.size,rfl,Fu (T:=116) (by rw[h,← g.out]) (Nat.le_refl _),fun p e=>?_,(H1.out.row 0 _ _ rfl).below⟩
 injection e with e
 subst e;exact⟨by show w.heap.size≤a.heap.size;omega,_,_,h⟩
open Go.Sort Go.Shelf
theorem Qu (s:Tx.St)(p:SP)(fs:List Fr)(al:∀ i j (hi:i<fs.length) (hj:j<fs.length),i≠j→Full fs[i]→Full fs[j]→fs[i].page≠fs[j].page)(an:fs.length≤64)(w:World)(h:An w s p fs):
 Cq 53 #[Af s p] w (Za fs w):=by
 obtain⟨i0,ao,aq,ar,au⟩:=info_parts Np;have br:=Hq h.fn;have HR:=Hq h.fr;have av:=Hq (show fs.length≤64 from an);have aw:=Hq (U2 fs);have ax:=Hq (L6 fs);obtain⟨g,a6⟩:=ex (iT fs);have bs:=Hq (show ∀ i (hi:i<fs.length),fB fs[i]=true→g fs[i].page=fs[i].rc from fun i hi P=>by rw[a6];exact sT al i hi P);rw[← a6]at aw;clear h al a6;go_enter Tryz.func53,Tryz.ntmps53;go_upto_region 1 with fail;have H0:=Tq w (Ai s p) 36;obtain⟨W0,ay⟩:=Dr H0;rw[← ay]at H0 ⊢;clear ay;go_upto_region 2 with fail;have Q:=Hq (Ic W0 94 2);have d:=Ad W0 (.cells #[] 94);have H1:=Hq (H0.out.step d);have bt:=Hq (show w.heap.size<W0.heap.size from H0.out.lt (i:=0) (by simp));obtain⟨g0,R⟩:=ex W0.heap.size;rw[← R]at Q bt;rw[← R];generalize W0.alloc (.cells #[] 94)=W1 at Q H1 ⊢;clear d H0 R;go_wp2_with fail
 go_loopw [3,4] (fun v i wr=>∃ k x z:Nat,k≤fs.length∧i= .int .i64 k∧v= .slice (some ⟨x,0,none⟩) (Sp.Eo Lib.compareInt (Dt (fs.take k))).length z∧E7 (Wk g) 2 94 g0 wr (.slice (some ⟨x,0,none⟩) (Sp.Eo Lib.compareInt (Dt (fs.take k))).length z) (Sp.Eo Lib.compareInt (Dt (fs.take k)))∧Dm w.heap.size w [((Ai s p),36)] wr) (fun _ i _=>fs.length-(intOf i).toNat)
 case atStart=>exact⟨0,g0,0,Nat.zero_le _,rfl,by simp[Sp.Eo,Dt],by rw[show Sp.Eo Lib.compareInt (Dt (fs.take 0))=[]from by simp[Sp.Eo,Dt]];exact Q.out,H1.out⟩
 case round=>
  clear Q H1;obtain⟨k,x,z,hk,rfl,rfl,e,az⟩:=hrel;have HO:=Hq e;have A:=Hq az;clear e az;have ct:(0:Int)≤(k:Int):=by omega
  have hc:=show wr.cell? ⟨w.heap.size,11,none⟩=some (.slice p.F fs.length p.fc)from by rw[Aa A.out.Ag,← br.out];rfl
  by_cases T:k<fs.length
  ·obtain⟨b,off,b0,bu,bw,l⟩:=Bi Cc (HR.out.below A.out.below) T
   rw[b0]at hc;have cu:(k:Int)<(fs.length:Int):=(by omega);have cv:IntKind.i64.wrap ((k:Int)+1)=(k:Int)+1:=IntWalk.i64_in _ (by have:=av.out;omega);have m:=Hq (nP fs k T);have b1:=Hq (Nt fs k T).2;have B:=Hq (bs.out k T);have bx:(Sp.Eo Lib.compareInt (Dt (fs.take k))).length≤k:=(by rw[Sp.Jd];exact Ms fs k);have bz:(Sp.Eo Lib.compareInt (Dt (fs.take k))).length≤64:=(by have:=av.out;omega);obtain⟨S2,U⟩:=ex (Sp.Eo Lib.compareInt (Dt (fs.take (k+1))));have c:=Hq (show fB fs[k]=false→S2=Sp.Eo Lib.compareInt (Dt (fs.take k))from fun h=>by rw[U,b1.out h]);rw[← U]at m;have C:=Hq U;clear U b1 bx;generalize Sp.Eo Lib.compareInt (Dt (fs.take k))=S at m c bz HO ⊢;generalize fs[k]=f at m c B l;have b2:=Hq (show wr.rangeAt b (off+k*5) (F4 f)from l);clear l bu bw b0
   go_upto_region 6 with(first
    |(refine Bt Kr fun K hK=>wp_load_mid 116 (.tmp 21) rfl b (off+k*5) rfl (F4 f) _ b2.out Cw Kr Kr (hK _ _ ?_))
    |with_reducible refine sN (Cg f) ?_)
   have n:=Ad wr (.cells (Cg f) 116);have H5:=Hq (A.out.step n);have c6:=Hq (show g0≤wr.heap.size from by obtain⟨_,h1,h2,_⟩:=Ia HO.out;omega);have b3:=Hq n.size;have D:=Hq (heap_alloc_new wr (.cells (Cg f) 116));have o:=Hq (Cm HO.out n);obtain⟨gf,a7⟩:=ex wr.heap.size;obtain⟨E,V⟩:=ex (wr.alloc (.cells (Cg f) 116));rw[← a7,← V]at D;rw[← V]at H5 o b3;rw[← V,← a7];clear V a7 n A HO b2 hc
   try simp only[Act.put]
   have b4:=show E.cell? ⟨gf,1,none⟩=some (.string f.bytes)from(by rw[Aa D.out];rfl);have b5:=show E.cell? ⟨gf,4,none⟩=some (.int .i64 f.rc)from by rw[Aa D.out];rfl
   by_cases P:fB f=true
   ·obtain⟨b6,b7⟩:=Mr.1 P
    obtain⟨b8,b9,ba⟩:=Pt b6;have c8:(f.rc==0)=false:=beq_eq_false_iff_ne.2 b7;have bb:=Hq (m.out P);have bc:=Hq (B.out P);clear m c B P b6 b7;go_wp2_with fail;clear b4 b5 b8 b9 ba c8;obtain⟨pg,a8⟩:=ex f.page;have aa:=Hq a8;rw[← a8]at bb bc;clear a8
    go_loopw [6] (fun i wq=>∃ j:Nat,j≤S.length∧i= .int .i64 j∧(∀ t (ht:t<S.length),t<j→S[t]<pg)∧Bw E wq) (fun i _=>S.length-(intOf i).toNat)
    case atStart=>exact⟨0,Nat.zero_le _,rfl,fun _ _ h=>absurd h (by omega),Below.refl _ _⟩
    case round=>
     obtain⟨j,hj,rfl,Z,bd⟩:=hrel;have G:=Hq bd;have a1:=Hq Z;clear Z bd;have cw:(0:Int)≤(j:Int):=(by omega);have cx:IntKind.i64.wrap ((j:Int)+1)=(j:Int)+1:=IntWalk.i64_in _ (by omega);go_upto_region 8 with fail
     go_cut [44] (fun q wc=>∃ t:Bool,q= .bool t∧(t=true→∃ hj:j<S.length,S[j]<pg)∧(t=false→∀ hj:j<S.length,¬ S[j]<pg)∧Bw E wc)
     case first=>
      by_cases r:j<S.length
      ·have H:=Cm o.out G.out
       have ad:=iS (J1 g) H j r;have I:x<wr.heap.size:=(by obtain⟨_,_,h,_⟩:=Ia H;exact h);have bf:=Hq (Ac D.out G.out);have W:=Hq (show S[j]<pg→∃ hj:j<S.length,S[j]<pg from fun h=>⟨r,h⟩);have X:=Hq (show ¬ S[j]<pg→∀ hj:j<S.length,¬ S[j]<pg from fun h _=>h);generalize bg:S[j]=y at ad;rw[bg]at W X;clear bg;have ae:∀ u,Bw wr u→u.cell? ⟨x,j*2,none⟩=some (.int .i64 y):=fun u hu=>by
        rw[hu.cell (p:=⟨x,j*2,none⟩) I];exact ad 0 _ rfl
       have bh:=Hq ae;have ca:decide (j<S.length)=true:=decide_eq_true r;have bj:(j:Int)<(S.length:Int):=(by omega);clear ad H ae
       by_cases e:y<pg
       ·have J:=Hq (W.out e)
        clear W X;have hSn:Bw wr wr.drew:=(Below.refl _ wr).drew;have Hy:=Hq (fun(u:World) (L:Bw wr u)=>(And.intro (bh.out u L) (by have hb:=(show u.cell? ⟨gf,0,none⟩=some (.int .i64 f.page)from by rw[Aa (Ac bf.out L)];rfl);rw[← aa.out]at hb;exact hb)));refine E4 (S:=(fun u=>Bw wr u)) (fun a=>?_);generalize wr.drew=w9 at hSn ⊢;refine Au 0 ?_;refine Au 1 ?_;refine Au 2 ?_;refine Au 3 ?_;refine Au 4 ?_;refine Au 5 ?_;refine Au 6 ?_;refine Au 7 ?_;refine Au 8 ?_;refine Au 9 ?_;refine Au 10 ?_;refine Au 11 ?_;refine Au 12 ?_;refine Au 13 ?_;refine wpAnyH_done Kr ?_ _;clear a;go_wp2_with fail;go_meet
        case rel=>exact⟨true,by simp[e],fun _=>J.out,(fun h=>by cases h),Ae G.out hSn⟩
       ·have J:=Hq (X.out e)
        clear W X;have hSn:Bw wr wr.drew:=(Below.refl _ wr).drew;have Hy:=Hq (fun(u:World) (L:Bw wr u)=>(And.intro (bh.out u L) (by have hb:=(show u.cell? ⟨gf,0,none⟩=some (.int .i64 f.page)from by rw[Aa (Ac bf.out L)];rfl);rw[← aa.out]at hb;exact hb)));refine E4 (S:=(fun u=>Bw wr u)) (fun a=>?_);generalize wr.drew=w9 at hSn ⊢;refine Au 0 ?_;refine Au 1 ?_;refine Au 2 ?_;refine Au 3 ?_;refine Au 4 ?_;refine Au 5 ?_;refine Au 6 ?_;refine Au 7 ?_;refine Au 8 ?_;refine Au 9 ?_;refine Au 10 ?_;refine Au 11 ?_;refine Au 12 ?_;refine Au 13 ?_;refine wpAnyH_done Kr ?_ _;clear a;go_wp2_with fail;go_meet
        case rel=>exact⟨false,by simp[e],(fun h=>by cases h),fun _=>J.out,Ae G.out hSn⟩
      ·have ca:decide (j<S.length)=false:=decide_eq_false r
       have bj:¬ (j:Int)<(S.length:Int):=(by omega);have J:=Hq r;have hSn:Bw wr wr.drew:=(Below.refl _ wr).drew;refine E4 (S:=(fun u=>Bw wr u)) (fun a=>?_);generalize wr.drew=w9 at hSn ⊢;refine Au 0 ?_;refine Au 1 ?_;refine Au 2 ?_;refine Au 3 ?_;refine Au 4 ?_;refine Dx 5 (some 36) rfl ?_
       try simp only[Act.put,pS]
       refine Dx 6 (some 37) rfl ?_
       try simp only[Act.put,pS]
       refine Dx 7 (some 38) rfl ?_
       try simp only[Act.put,pS]
       refine Dx 8 (some 39) rfl ?_
       try simp only[Act.put,pS]
       refine Dx 9 (some 40) rfl ?_
       try simp only[Act.put,pS]
       refine Dx 10 (some 41) rfl ?_
       try simp only[Act.put,pS]
       refine Dx 11 (some 42) rfl ?_
       try simp only[Act.put,pS]
       refine Dx 12 (some 43) rfl ?_
       try simp only[Act.put,pS]
       refine Au 13 ?_;refine wpAnyH_done Kr ?_ _;clear a;go_wp2_with fail;go_meet
       case rel=>exact⟨false,rfl,(fun h=>by cases h),(fun _ hj=>absurd hj J.out),Ae G.out hSn⟩
     case rest=>
      obtain⟨t,rfl,af,ag,N⟩:=hcut
      cases t with
      |true=>
       obtain⟨r,bk⟩:=af rfl;have cb:=Hq (show ∀ t (ht:t<S.length),t<j+1→S[t]<pg from fun t ht cc=>by
        rcases Nat.lt_or_eq_of_le (Nat.le_of_lt_succ cc)with h5|h5
        ·exact a1.out t ht h5
        ·subst h5;exact bk)
       clear af ag bk;go_wp2_with fail;go_roundw
       case rel=>exact⟨j+1,by omega,by go_num,cb.out,N⟩
       case measure=>simp[intOf];omega
      |false=>
       have HE:=Hq (bb.out j a1.out (fun h=>by have:=ag rfl h;omega));have bl:=Hq (Ac D.out N);have H6:=Hq (H5.out.step N);clear af ag;have ah:=Hq (Cm o.out N)
       skip
       obtain⟨_,_,I,_,cd,bm,_,_⟩:=Ia ah.out;have ai:=Hq (Ad wc (.cells #[] 94));have cf:=Hq ((cK (J1 g) (Dq ah.out) j hj).below ai.out);have cg:=Hq (cJ (J1 g) (Dq ah.out) j hj cd)
       skip
       have bj:(j:Int)≤(S.length:Int):=(by omega);have ae:(j:Int)≤(z:Int):=(by omega);have cy:(S.length:Int)≤(z:Int):=(by omega);have cz:z≤maxLen:=bm;clear I bm
       go_wp2_with(first|(at_builtin;refine Bt Kr fun K hK=>Ir (wc.alloc (.cells #[] 94)) (.tmp 47) (.tmp 50) 86 94 i0 (.agg #[(),()]) 2 16 kV ao aq ar au rfl (by omega) rfl wc.heap.size _ 0 [] rfl (Ic wc 94 2) (some ⟨x,0,none⟩) j z ((S.take j).flatMap (Wk g)) rfl cf.out (by rw[Di (J1 g),List.length_take,Nat.min_eq_left hj]) ((fC g) _) (by omega) (by omega) ai.out.size ?_;intro v5 E Y ch n;rw[List.nil_append,Nat.zero_add]at Y;have O:=Hq (ai.out.trans n);clear ch n;obtain⟨A5,c5,rfl⟩:=Jb Y;have o:=Hq Y;clear Y;have R:=show E.cell? ⟨gf,0,none⟩=some (.int .i64 pg)from(by rw[Aa (Ac bl.out O.out),aa.out];rfl);have da:=show E.cell? ⟨gf,4,none⟩=some (.int .i64 (g pg))from(by rw[Aa (Ac bl.out O.out),bc.out];rfl);refine hK _ _ ?_)|(at_builtin;refine Le Kr (.tmp 52) (.tmp 58) 86 94 kV Np rfl (by omega) (by omega) rfl wc.heap.size _ j ((S.take j).flatMap (Wk g)) rfl (Cm o.out (Ad _ _)) E.heap.size ((Wk g) pg) 94 rfl (heap_alloc_new E _) rfl ((Rh g) _) (by omega) (Nat.le_trans O.out.size (Ad E _).size) ?_;intro v7 w7 aj cj bn;have ak:=Hq (O.out.trans (((Ad E _).mono O.out.size).trans bn));clear cj bn;obtain⟨A7,c7,rfl⟩:=Jb aj;have ck:=Hq aj;clear aj;have cm:=Hq (cg.out.below (ak.out)))|(at_builtin;refine Bt Kr fun K hK=>Ir w7 (.tmp 60) (.tmp 63) 86 94 i0 (.agg #[(),()]) 2 16 kV ao aq ar au rfl (by omega) rfl wc.heap.size _ (j+1) _ rfl ck.out (if z=j then(some ⟨x,0,none⟩:Option Addr)else some ⟨x,j*2,none⟩) (S.length-j) (z-j) ((S.drop j).flatMap (Wk g)) rfl cm.out (by rw[Di (J1 g),List.length_drop]) ((fC g) _) (by omega) (by omega) ak.out.size ?_;intro v9 w9 bo cn bp;have cp:=Hq (ak.out.trans bp);clear cn bp;have HI:=Hq (qT hj bo);clear bo;refine hK _ _ ?_))
       go_roundw
       case rel=>
        have e:=HI.out;have h0:0<(S.take j++pg::S.drop j).length:=(by rw[List.length_append,List.length_cons];omega);rw[← HE.out]at h0;rw[← HE.out]at e;rw[C.out]at e h0;obtain⟨cq,cr,rfl⟩:=nN e h0;exact⟨k+1,cq,cr,by omega,by go_num,rfl,dY e (Nat.le_trans c6.out (Nat.le_trans b3.out N.size)),H6.out.under (M:=wc.heap.size) (by have:=H6.out.lt (i:=0) (by simp);simp at this ⊢;omega) cp.out⟩
       case measure=>simp[intOf];omega
   ·have HE:=Hq (c.out (Bool.eq_false_iff.2 P))
    by_cases d:f.bytes=⟨#[]⟩
    ·rw[d]at b4
     have db:=Mn;clear m c B P d;go_wp2_with fail;go_roundw
     case rel=>exact⟨k+1,x,z,by omega,by go_num,by rw[← C.out,HE.out],by rw[← C.out,HE.out];exact o.out,H5.out⟩
     case measure=>simp[intOf];omega
    ·obtain⟨b8,b9,ba⟩:=Pt d
     have bq:f.rc=0:=by
      by_cases hr:f.rc=0
      ·exact hr
      ·exact absurd (Mr.2 ⟨d,hr⟩) P
     rw[bq]at b5;clear m c B P d bq;go_wp2_with fail;go_roundw
     case rel=>exact⟨k+1,x,z,by omega,by go_num,by rw[← C.out,HE.out],by rw[← C.out,HE.out];exact o.out,H5.out⟩
     case measure=>simp[intOf];omega
  ·obtain rfl:k=fs.length:=by omega
   have e:=HO.out;rw[List.take_length]at e;rw[List.take_length];go_wp2_with fail;go_ret;refine⟨some ⟨x,0,none⟩,z,by rw[ax.out];rfl,?_,(C4.own e).mono (Nat.zero_le _),A.out.below⟩
   show Reads _ _ _ (K4 fs).length ((K4 fs).flatMap pX)
   rw[ax.out,aw.out];exact Dq e
theorem kA {N n B:Nat}(s:Tx.St)(p:SP)(fs:List Fr)(hW:Wf N n B s fs)(hB:B≤1000000)(hN:N≤3000)(w:World)(h:An w s p fs):
 Cq 118 #[Af s p] w (Bk (Qz s fs) w):=by
 have bn:=hW.nf;have b2:=Hq (fun W (hb:Bw w W)=>Qu s p fs hW.ds (by omega) W (h.below hb));have HP:=Hq h;obtain⟨X,hX⟩:=ex (Qz s fs);rw[← hX];have b3:=Hq (fun W (hb:Bw w W) (e:Int)=>show X=⟨s,fs,e⟩→Bk X w (.returned (.tuple #[Af s p,e])) W from fun he=>by rw[he];exact⟨p,rfl,h.below hb,hb⟩);have ak:=Hq (fun(Y:Px) (he:X=Y) w' (q:SP) (hp:An w' Y.s q Y.fs) (hb:Bw w w')=>show Bk X w (.returned (.tuple #[Af Y.s q,Y.e])) w' from by rw[he];exact⟨q,rfl,hp,hb⟩);have al:Ou s fs ((K4 fs).map (·.page)) s fs=X:=hX.symm;have bo:(K4 fs).length≤64:=by
  rw[L6,Sp.Jd];unfold Dt;rw[List.length_map];exact Nat.le_trans (List.length_filter_le _ _) bn.2
 have R:=Hq hW;clear hX hW h;generalize Bk X w=Q at b3 ak ⊢;go_enter Tryz.func118,Tryz.ntmps118;go_upto_region 1 with fail;have H0:=Il w (Ai s p) 36 Zq9 36;obtain⟨W0,b4⟩:=Dr H0;rw[← b4]at H0 ⊢;clear b4;have V:=Hq (b2.out W0 H0.out.below);clear b2;unfold Za at V;generalize K4 fs=dl at V al bo;have b5:=Hq al;clear al
 go_upto_region 2 with(first|with_reducible refine lL H0.out.Ag Ak ?_|(go_at_call 53;(refine V.out.mono ?_);rintro e w0 ⟨DD,dc,rfl,b6,b7,an⟩))
 have H1:=Hq (H0.out.step an);have af:=Hq b6;have ag:=Hq b7;have bp:w.heap.size+1<w0.heap.size:=Nat.lt_of_lt_of_le (H0.out.lt (i:=1) (by simp)) an.size;clear an b6 b7 H0 V
 try simp only[Act.put]
 go_upto_region 3 with(first|with_reducible refine lL H1.out.Ag Ak ?_|with_reducible refine sN (Ai s p) ?_)
 have Z:=Ad w0 (.cells (Ai s p) 36);have H2:=Hq (H1.out.step Z);have ao:=Hq (heap_alloc_new w0 (.cells (Ai s p) 36));have aq:=Hq (HP.out.below H2.out.below);have G:=Hq (show lW (w0.alloc (.cells (Ai s p) 36)) DD dc dl from af.out.below Z);have H:=Hq (ag.out.below Z);obtain⟨g,hg⟩:=ex w0.heap.size;obtain⟨w1,z⟩:=ex (w0.alloc (.cells (Ai s p) 36));rw[← hg,← z]at ao;rw[← z]at H2 aq G H;rw[← z,← hg];rw[← hg]at bp;clear z hg Z H1 af ag
 try simp only[Act.put]
 go_wp2_with fail
 go_loopw [6] (fun i wr=>∃ (k:Nat) (s1:Tx.St) (q1:SP) (l:List Fr),k≤dl.length∧i= .int .i64 (k:Int)∧Dm w.heap.size w [((Ai s p),36),(Zq9,36)] wr∧wr.heap[g]? =some (.cells (Ai s1 q1) 36 (0,0))∧An wr s1 q1 l∧Wf N n B s1 l∧Ou s fs ((dl.drop k).map (·.page)) s1 l=X∧lW wr DD dc dl∧C4 0 wr 94 DD) (fun i _=>dl.length-(intOf i).toNat)
 case atStart=>exact⟨0,s,p,fs,Nat.zero_le _,rfl,H2.out,ao.out,aq.out,R.out,b5.out,G.out,H.out⟩
 case round=>
  clear H2 ao aq R b5 G H;obtain⟨k,s1,q1,l,hk,rfl,b8,b9,ba,z,A,a1,bb⟩:=hrel;have I:=Hq b8;have HG:=Hq b9;have bc:=Hq ba;have R:=Hq z;have G:=Hq a1;have H:=Hq bb;clear b8 b9 ba z bb;have bw:(0:Int)≤(k:Int):=by omega
  by_cases ah:k<dl.length
  ·have bx:(k:Int)<(dl.length:Int):=by omega
   have bz:IntKind.i64.wrap ((k:Int)+1)=(k:Int)+1:=IntWalk.i64_in _ (by omega);rw[List.drop_eq_getElem_cons ah,List.map_cons]at A;obtain⟨b,off,ar,bq,bd,C⟩:=Bi Jx a1 ah;obtain⟨d,bf⟩:=ex (dl[k]);rw[← bf]at C A;have bg:=Hq ar;rw[ar];have bh:=show wr.cell? ⟨b,off+k*2,none⟩=some (.int .i64 d.page)from C 0 _ rfl;have br:=Hq (fun u (hu:Bw wr u)=>show u.cell? ⟨b,off+k*2,none⟩=some (.int .i64 d.page)from by rw[hu.cell (p:=⟨b,off+k*2,none⟩) bd];exact bh);have J:=Hq (show(if(Df s1 l d.page).e=0 then Ou s fs ((dl.drop (k+1)).map (·.page)) (Df s1 l d.page).s (Df s1 l d.page).fs else De s fs (Df s1 l d.page))=X from A);have au:=Hq (R.out.eY d.page);have a6:=Hq (fun W (hb:Bw wr W)=>Qt s1 q1 l R.out hB hN d.page W (bc.out.below hb));clear C bq bd a1 A bf ar;generalize Df s1 l d.page=Y at J au a6;obtain⟨f,av,F⟩:=Y;simp only at J au;go_upto_region 6 with fail
   go_cut [7,8] (fun x y wc=>∃ g7 c,x= .pointer (some ⟨g7,0,none⟩)∧y= .int .i64 F∧wc.heap[g7]? =some (.cells (Ai f c) 36 (0,0))∧wr.heap.size≤g7∧An wc f c av∧Bw wr wc)
   case first=>
    have Z0:Bw wr wr.drew:=(Below.refl _ wr).drew;have Hy:=Hq (fun(u:World) (bs:Bw wr u)=>(br.out u bs));refine E4 (S:=(fun u=>Bw wr u)) (fun a=>?_);refine Kt 0 (some 19) (v:=.agg (Ai s1 q1)) rfl (yieldsIf_load_mid (by rfl) 36 (.tmp 5) rfl g 0 (by rfl) (Ai s1 q1).toList _ (fun u hu=>(by intro j y hj;rw[Nat.zero_add,Aa (Ac HG.out hu)];simpa using hj)) Ak Kr Kr) ?_
    try simp only[Act.put,pS]
    refine Au 1 ?_;refine Au 2 ?_;refine Au 3 ?_;refine Au 4 ?_;refine Au 5 ?_;refine wpAnyH_ready (rs:=[6,10]) Kr (by simp) ?_;refine(AllReadyH.cons (o:={dst:=some 25,op:=_,type:=_,pos:=_,after:=_,guard:=_}) rfl (fun K m=>?_) (AllReadyH.cons (o:={dst:=some 7,op:=_,type:=_,pos:=_,after:=_,guard:=_}) rfl (fun K m=>?_) AllReadyH.nil))
    ·
     go_simp
     refine(a6.out _ Z0).mono ?_;rintro e w5 ⟨c,rfl,aw,a7⟩;have Z2:=Ae Z0 a7;try clear hSn
     have hSn:=Z2;refine Bl m (fun a=>?_);clear m K;refine Au 7 ?_;refine Au 8 ?_;refine Au 9 ?_;refine Bx 10 fun K m=>?_
     go_simp
     have D:=heap_alloc_new w5 (.cells Zq9 36);have ax:=aw.below (Ad w5 (.cells Zq9 36));have Z3:=Ae Z2 (Ad w5 (.cells Zq9 36));clear hSn;have hSn:=Z3;refine Bl m (fun a=>?_);clear m K;refine Bx 11 fun K m=>?_;refine Az (by rfl) ?_;refine sW (Ai f c) D ?_;have Z4:=Fj (g:=w5.heap.size) (by have:=Z2.size;omega) Z3 (Ai f c);have ay:=setRow_heap _ _ _ (Ai f c) _ _ D;have az:=ax.other (t:=36) D (by decide) (by decide) (by decide) (Ai f c);have L:wr.heap.size≤w5.heap.size:=(by have:=Z2.size;omega);clear hSn;have hSn:=Z4;refine Bl m (fun a=>?_);clear m K;refine Au 12 ?_;refine wpAnyH_done Kr ?_ _;clear a hSn;go_wp2_with fail;go_meet
     case rel=>exact⟨_,c,rfl,rfl,ay,L,az,Z4⟩
    ·
     go_simp
     have Z1:=Ae Z0 (Ad wr.drew (.cells Zq9 36));have hSn:=Z1;refine Bl m (fun a=>?_);clear m K;refine Bx 6 fun K m=>?_
     go_simp
     refine(a6.out _ Z1).mono ?_;rintro e w5 ⟨c,rfl,aw,a7⟩;have Z2:=Ae Z1 a7;try clear hSn
     have hSn:=Z2;have D:=Cb a7;have ax:=aw;refine Bl m (fun a=>?_);clear m K;refine Au 7 ?_;refine Au 8 ?_;refine Au 9 ?_;refine Bx 11 fun K m=>?_;refine Az (by rfl) ?_;refine sW (Ai f c) D ?_;have Z4:=Fj (g:=wr.drew.heap.size) (by show wr.heap.size≤wr.heap.size;omega) Z2 (Ai f c);have ay:=setRow_heap _ _ _ (Ai f c) _ _ D;have az:=ax.other (t:=36) D (by decide) (by decide) (by decide) (Ai f c);have L:wr.heap.size≤wr.drew.heap.size:=(by show wr.heap.size≤wr.heap.size;omega);clear hSn;have hSn:=Z4;refine Bl m (fun a=>?_);clear m K;refine Au 12 ?_;refine wpAnyH_done Kr ?_ _;clear a hSn;go_wp2_with fail;go_meet
     case rel=>exact⟨_,c,rfl,rfl,ay,L,az,Z4⟩
   case rest=>
    obtain⟨g3,c,rfl,rfl,bj,L,bk,a8⟩:=hcut;obtain⟨w7,rfl⟩:=ex wc;have H7:=Hq (I.out.step a8);have T:=Hq (Ac HG.out a8);have aa:=Hq bj;have b0:=Hq bk;have ad:=Hq a8;have c6:g<g3:=Nat.lt_of_lt_of_le (C0 HG.out) L;clear bj a8 bk L I HG a6 bh
    by_cases r:F=0
    ·have bt:(F != 0)=false:=by rw[r];rfl
     have E:=J.out;rw[if_pos r]at E;have O:=Hq E;clear E r J
     go_upto_region 5 with(first|with_reducible refine lL aa.out Ak ?_|with_reducible refine lS (Ai f c) T.out ?_)
     have ai:=Hq (show lW (w7.setRow g (Ai f c)) DD dc dl from(H.out.below ad.out).Dj (G.out.below ad.out) T.out (by decide) (Ai f c));have aj:=Hq ((H.out.below ad.out).row g (Ai f c));have H8:=Hq (H7.out.under (M:=g) (by simp;omega) (Fj (g:=g) (Nat.le_refl g) (show Below g w7 w7 from⟨rfl,rfl,rfl,Nat.le_refl _,fun _ _=>rfl⟩) (Ai f c)));have bl:=Hq (setRow_heap _ _ _ (Ai f c) _ _ T.out);have bm:=Hq (b0.out.other (t:=36) T.out (by decide) (by decide) (by decide) (Ai f c));generalize w7.setRow g (Ai f c)=w8 at ai aj H8 bl bm ⊢;clear H7 T aa b0 ad G
     try simp only[Act.put]
     go_wp2_with fail;go_roundw
     case rel=>exact⟨k+1,f,c,av,by omega,by go_num,H8.out,bl.out,bm.out,au.out.1,O.out,(by rw[← bg.out];exact ai.out),(by rw[← bg.out];exact aj.out)⟩
     case measure=>simp[intOf];omega
    ·have bt:(F != 0)=true:=by rw[bne_iff_ne];exact r
     have E:=J.out;rw[if_neg r]at E;have O:=Hq E.symm;clear E J
     by_cases P:F=20
     ·have b1:=Hq (fun W=>show Cr 172 #[Af s p,Af f c,F] W (Af f c) from by
       have h0:=Hs s p f c F W;rw[if_pos P]at h0;exact h0)
      have U:=Hq (show X=⟨f,av,F⟩from by rw[O.out];unfold De;rw[if_pos (.inr P)]);clear P O r
      go_wp2_with(first
       |with_reducible refine lL H7.out.Ag Ak ?_
       |with_reducible refine lL aa.out Ak ?_
       |(go_at_call 172;refine(b1.out _).mono ?_;rintro e w9 ⟨rfl,ae⟩;have H9:=Hq (H7.out.step ae))
       |with_reducible refine lS (Ai f c) H9.out.Ah ?_)
      refine rT2 F H9.out.Ah Ak ?_;exact ak.out _ U.out _ c ((b0.out.below ae).other (t:=36) H9.out.Ah (by decide) (by decide) (by decide) _) (H9.out.row 1 (Ai f c) _ rfl).below
     ·have b1:=Hq (fun W=>show Cr 172 #[Af s p,Af f c,F] W (Af s p) from by
       have h0:=Hs s p f c F W;rw[if_neg P]at h0;exact h0)
      have U:=Hq (show X=⟨s,fs,F⟩from by rw[O.out];unfold De;rw[if_neg (fun h=>h.elim r P)]);clear P O r
      go_wp2_with(first
       |with_reducible refine lL H7.out.Ag Ak ?_
       |with_reducible refine lL aa.out Ak ?_
       |(go_at_call 172;refine(b1.out _).mono ?_;rintro e w9 ⟨rfl,ae⟩;have H9:=Hq (H7.out.step ae))
       |with_reducible refine lS (Ai s p) H9.out.Ah ?_)
      refine rT2 F H9.out.Ah Ak ?_;exact b3.out _ (H9.out.row 1 (Ai s p) _ rfl).below F U.out
  ·have bu:k=dl.length:=by omega
   subst bu;rw[List.drop_length,List.map_nil]at A;have U:=Hq (show X=⟨s1,l,0⟩from A.symm);clear A a1
   go_wp2_with(first|with_reducible refine lL HG.out Ak ?_|with_reducible refine lS (Ai s1 q1) I.out.Ah ?_)
   refine rT2 () I.out.Ah Ak ?_;exact ak.out _ U.out _ q1 (bc.out.other (t:=36) I.out.Ah (by decide) (by decide) (by decide) _) (I.out.row 1 (Ai s1 q1) _ rfl).below
theorem dS (d:Lg.Dk)(A o:Option Addr)(c p:Nat)(w:World)(t:By w d A c)(g:By w d o p):
 Cr 120 #[Cd d A c,Cd d o p] w (.bool true):=by
 have h:=Hq t.secs;have i:=Hq g.secs;have u:=t.small;clear t g;obtain⟨L,q,r⟩:=d;simp only at u h i;dsimp only[Cd];go_enter Tryz.func120,Tryz.ntmps120;go_upto_region 1 with fail;have f:=Il w #[.slice A L.length c,q,r] 28 #[.slice o L.length p,q,r] 28;obtain⟨I,j⟩:=Dr f;rw[← j]at f ⊢;clear j;have l:=Aa f.out.Ag;have m:=Aa f.out.Ah;go_upto_region 3 with fail;clear l m;go_wp2_with fail
 go_loopw [5] (fun v wr=>∃ k:Nat,v= .int .i64 (k:Int)∧k≤L.length∧Dm w.heap.size w [(#[.slice A L.length c,q,r],28),(#[.slice o L.length p,q,r],28)] wr) (fun v _=>L.length-(intOf v).toNat)
 case atStart=>exact⟨0,rfl,Nat.zero_le _,f.out⟩
 case round=>
  obtain⟨k,rfl,J,e⟩:=hrel;have s:=Hq e;have l:=Aa e.Ag;have m:=Aa e.Ah;clear e f
  by_cases n:k<L.length
  ·have G:(0:Int)≤(k:Int):=by omega
   have y:(k:Int)<(L.length:Int):=(by omega);have H:IntKind.i64.wrap ((k:Int)+1)=(k:Int)+1:=IntWalk.i64_in _ (by omega);obtain⟨K,o1,rfl,z,C,a⟩:=Bi Lv (h.out.below s.out.below) n;obtain⟨M,N,rfl,B,D,b⟩:=Bi Lv (i.out.below s.out.below) n;have E:=a 0 _ rfl;have F:=b 0 _ rfl;simp only[Nat.mul_one,Nat.add_zero]at E F;generalize L[k]=x at E F;clear a b z B;go_upto_region 6 with fail
   go_quiet (fail)
   go_wp2_with fail;go_roundw
   case rel=>exact⟨k+1,by go_num,by omega,s.out.step (C5 _ _)⟩
   case measure=>simp[intOf];omega
  ·have y:¬ (k:Int)<(L.length:Int):=by omega
   go_wp2_with fail;go_ret;exact⟨rfl,s.out.below⟩
theorem kB (k:Nat)(j:1≤k∧k≤64)(w:World):
 Cq 44 #[.int .i64 (k:Int)] w (nT k w):=by
 have f:=fun W=>Py k j.2 W;have l:¬ (k:Int)<1:=by omega
 have m:¬ (64:Int)<(k:Int):=by omega
 generalize b:((Eh k).flatMap F4).toArray=fr at f;have g:=Hq b;clear b;go_enter Tryz.func44,Tryz.ntmps44;go_upto_region 1 with fail;have d:=Tq w #['s',()] 33;obtain⟨a,c⟩:=Dr d;rw[← c]at d ⊢;clear c;go_upto_region 3 with fail;have H1:=Hq (d.out.step (Ad a (.cells fr 116)));have n:=Hq (heap_alloc_new a (.cells fr 116))
 go_wp2_with(with_reducible refine lS #[.slice (some ⟨a.heap.size,0,none⟩) k k,()] H1.out.Ag ?_)
 refine rT2 () H1.out.Ag cP ?_;have o:w.heap.size<a.heap.size:=by have:=d.out.lt (i:=0) (by simp);omega
 have h:=(Aj (a.alloc (.cells fr 116)) w.heap.size #[.slice (some ⟨a.heap.size,0,none⟩) k k,()] a.heap.size (by omega)).trans n.out;refine⟨a.heap.size,rfl,Fu (T:=116) (by rw[h,← g.out]) (Nat.le_refl _),fun p e=>?_,(H1.out.row 0 _ _ rfl).below⟩
 injection e with e
 subst e;exact⟨by show w.heap.size≤a.heap.size;omega,_,_,h⟩
theorem oN (k:Int)(c:k<1∨64<k)(w:World):
 Cr 43 #[k] w (.tuple #[.agg #['s',()],.int .i64 1]):=by
 by_cases e:k<1
 ·clear c
  go_enter Tryz.func43,Tryz.ntmps43;go_upto_region 1 with fail;have a:=Tq w #['s',()] 33;obtain⟨d,b⟩:=Dr a;rw[← b]at a ⊢;clear b
  go_wp2_with(first|with_reducible refine lS #['s',()] a.out.Ag ?_)
  refine rT2 (.int .i64 1) a.out.Ag cP ?_;exact⟨rfl,(a.out.row 0 #['s',()] _ rfl).below⟩
 ·have f:(64:Int)<k:=by omega
  clear c;go_enter Tryz.func43,Tryz.ntmps43;go_upto_region 1 with fail;have a:=Tq w #['s',()] 33;obtain⟨d,b⟩:=Dr a;rw[← b]at a ⊢;clear b
  go_wp2_with(first|with_reducible refine lS #['s',()] a.out.Ag ?_)
  refine rT2 (.int .i64 1) a.out.Ag cP ?_;exact⟨rfl,(a.out.row 0 #['s',()] _ rfl).below⟩
theorem oO (k:Int)(c:k<1∨64<k)(w:World):
 Cr 44 #[k] w (.tuple #[.agg #['s',()],.int .i64 1]):=by
 by_cases e:k<1
 ·clear c
  go_enter Tryz.func44,Tryz.ntmps44;go_upto_region 1 with fail;have a:=Tq w #['s',()] 33;obtain⟨d,b⟩:=Dr a;rw[← b]at a ⊢;clear b
  go_wp2_with(first|with_reducible refine lS #['s',()] a.out.Ag ?_)
  refine rT2 (.int .i64 1) a.out.Ag cP ?_;exact⟨rfl,(a.out.row 0 #['s',()] _ rfl).below⟩
 ·have f:(64:Int)<k:=by omega
  clear c;go_enter Tryz.func44,Tryz.ntmps44;go_upto_region 1 with fail;have a:=Tq w #['s',()] 33;obtain⟨d,b⟩:=Dr a;rw[← b]at a ⊢;clear b
  go_wp2_with(first|with_reducible refine lS #['s',()] a.out.Ag ?_)
  refine rT2 (.int .i64 1) a.out.Ag cP ?_;exact⟨rfl,(a.out.row 0 #['s',()] _ rfl).below⟩
theorem kC (l m:List Rc.Ci)(hn:l.length≤140737488355328)(_hm:m.length≤140737488355328)(A Y:Option Addr)(c Z:Nat)(w:World)(hr:lV w A c l)(C:lV w Y Z m):
 Cr 121 #[.slice A l.length c,.slice Y m.length Z] w (.bool (decide (l=m))):=by
 have HR:=Hq hr;have G:=Hq C;obtain⟨b,H⟩:=ex (decide (l=m));rw[← H];have F:=Hq H;clear hr C H;go_enter Tryz.func121,Tryz.ntmps121;go_wp2_with fail
 go_loopw [5] (fun i wr=>∃ k:Nat,k≤l.length∧k≤m.length∧i= .int .i64 k∧(∀ j (z:j<l.length) (o:j<m.length),j<k→l[j]=m[j])∧Bw w wr) (fun i _=>l.length-(intOf i).toNat)
 case atStart=>exact⟨0,Nat.zero_le _,Nat.zero_le _,rfl,fun _ _ _ h=>absurd h (by omega),Below.refl _ _⟩
 case round=>
  obtain⟨k,hk,a7,rfl,r,g⟩:=hrel;have I:=Hq r;clear r
  by_cases n:k<l.length
  ·have J:decide (k<l.length)=true:=decide_eq_true n
   by_cases p:k<m.length
   ·have K:decide (k<m.length)=true:=decide_eq_true p
    obtain⟨b1,off,rfl,hc,a8,d⟩:=Bi Fo (HR.out.below g) n;obtain⟨b2,a1,rfl,L,a6,a⟩:=Bi Fo (G.out.below g) p;have q0:=d 0 _ rfl;have r0:=a 0 _ rfl;have q1:=d 1 _ rfl;have r1:=a 1 _ rfl;have q2:=d 2 _ rfl;have r2:=a 2 _ rfl;have q3:=d 3 _ rfl;have r3:=a 3 _ rfl;clear d a;simp only[Nat.add_zero]at q0 r0;have D:=Hq (show l[k]≠m[k]→b=false from fun h=>F.out.trans (Rc.X6 n p h));have E:=Hq (show l[k]=m[k]→∀ j (z:j<l.length) (o:j<m.length),j<k+1→l[j]=m[j]from fun h j z o M=>by
     rcases Nat.lt_or_eq_of_le (Nat.le_of_lt_succ M)with h1|h1
     ·exact I.out j z o h1
     ·subst h1;exact h)
    have s:=Hq (fun W=>Pk l[k] m[k] W);clear hc L I;generalize l[k]=x at q0 q1 q2 q3 D E s;generalize m[k]=y at r0 r1 r2 r3 D E s;have aa:(0:Int)≤(k:Int):=(by omega);have ad:(k:Int)<(l.length:Int):=(by omega);have ae:(k:Int)<(m.length:Int):=by omega
    cases B:decide (x=y)with
    |true=>
     have N:=Hq (E.out (of_decide_eq_true B));have v:=s.out;rw[B]at v;clear D E B s;obtain⟨O,P,Q,R⟩:=x;obtain⟨S,T,U,V⟩:=y
     go_upto_region 4 with(fail)
     go_quiet (fail)
     go_wp2_with fail;go_roundw
     case rel=>exact⟨k+1,by omega,by omega,by go_num,N.out,Ae g (C5 _ _)⟩
     case measure=>simp[intOf];omega
    |false=>
     have q:=Hq (D.out (of_decide_eq_false B));have v:=s.out;rw[B]at v;clear D E B s;obtain⟨O,P,Q,R⟩:=x;obtain⟨S,T,U,V⟩:=y
     go_upto_region 4 with(fail)
     go_quiet (fail)
     go_wp2_with fail;go_ret;exact⟨by rw[q.out];rfl,Ae g (C5 _ _)⟩
   ·have K:decide (k<m.length)=false:=decide_eq_false p
    have t:(l.length==m.length)=false:=(by simp;omega);have u:((l.length:Int)==(m.length:Int))=false:=(by simp;omega);have q:=Hq (F.out.trans (decide_eq_false (fun e=>by rw[e]at n;exact p n)));go_wp2_with fail;go_ret;exact⟨by rw[q.out];simp;try omega,g⟩
  ·have J:decide (k<l.length)=false:=decide_eq_false n
   obtain rfl:k=l.length:=by omega
   by_cases f:l.length=m.length
   ·have s:=Hq (show b=true from F.out.trans (Rc.R2 f fun j z o=>I.out j z o z))
    have t:(l.length==m.length)=true:=(by simp[f]);have u:((l.length:Int)==(m.length:Int))=true:=(by simp[f]);have X:=Hq f;clear f;go_wp2_with fail;go_ret;exact⟨by rw[s.out];have f:=X.out;simp[f],g⟩
   ·have t:(l.length==m.length)=false:=by simp;omega
    have u:((l.length:Int)==(m.length:Int))=false:=(by simp;omega);have q:=Hq (F.out.trans (decide_eq_false (fun e=>f (by rw[e]))));go_wp2_with fail;go_ret;exact⟨by rw[q.out];simp;try omega,g⟩
theorem kD (a b c:Int)(w:World):(Op.equalIn 10000 25 (.agg #[a,b,c]) (.agg #[a,b,c])).run Tryz.prog w= .ok true w:=by
 have d:Tryz.prog.underlying 25=some (.struct (Tryz.prog.fieldsOf 25)):=by kernel_rfl
 have e:Tryz.prog.stoodInHeld 25=false:=by kernel_rfl
 rw[show(10000:Nat)=9999+1 from rfl,run_equalIn_agg w 9999 25 _ _ d e];simp only[Program.fieldsOf,qW]
 go_simp
theorem oP (a b c d:Int)(t:ByteArray)(w:World):(Op.equalIn 10000 30 (.agg #[a,b,c,d,t]) (.agg #[a,b,c,d,t])).run Tryz.prog w= .ok true w:=by
 have e:Tryz.prog.underlying 30=some (.struct (Tryz.prog.fieldsOf 30)):=by kernel_rfl
 have f:Tryz.prog.stoodInHeld 30=false:=by kernel_rfl
 rw[show(10000:Nat)=9999+1 from rfl,run_equalIn_agg w 9999 30 _ _ e f];simp only[Program.fieldsOf,Fp]
 go_simp
theorem oQ (a:Int)(b:ByteArray)(c:Int)(d:Bool)(e:Int)(w:World):(binOp .neq 116 (.agg #[a,b,c,d,e]) (.agg #[a,b,c,d,e])).run Tryz.prog w= .ok (.bool false) w:=by
 have f:Tryz.prog.underlying 116=some (.struct (Tryz.prog.fieldsOf 116)):=by kernel_rfl
 have g:Tryz.prog.stoodInHeld 116=false:=by kernel_rfl
 rw[run_neq_struct,show(10000:Nat)=9999+1 from rfl,run_equalIn_agg w 9999 116 _ _ f g];simp only[Program.fieldsOf,Cw]
 go_simp
theorem aD (s:Tx.St)(p q:SP)(fs:List Fr)(an:fs.length≤100)(a1:s.txns.length≤800000)(w:World)(h:An w s p fs)(H:An w s q fs):
 Cr 49 #[Af s p,Af s q] w (.bool true):=by
 have HT:=Hq (fun W (I:Bw w W)=>show Cr 121 #[.slice p.T s.txns.length p.tc,.slice q.T s.txns.length q.tc] W (.bool true) from by
  have h9:=kC s.txns s.txns (by omega) (by omega) p.T q.T p.tc q.tc W (h.st.tx.below I) (H.st.tx.below I);rw[decide_eq_true rfl]at h9;exact h9)
 have HD:=Hq (fun W (I:Bw w W)=>show Cr 120 #[.agg #[.slice p.A s.Am.sectors.length p.c,s.Am.left,s.Am.down],.agg #[.slice q.A s.Am.sectors.length q.c,s.Am.left,s.Am.down]] W (.bool true) from dS s.Am p.A q.A p.c q.c W (h.st.dk.below I) (H.st.dk.below I));have a6:=Hq h.fr;have a7:=Hq H.fr;have J:=Hq h.fn;have K:=Hq H.fn;clear h H a1;have a8:=kD s.zlog s.zpages s.zframes;have aa:=oP s.log.from_ s.log.n s.log.end_ s.log.safe s.log.tail;go_enter Tryz.func49,Tryz.ntmps49;go_upto_region 1 with fail;have a:=Il w (Ai s p) 36 (Ai s q) 36;obtain⟨W0,L⟩:=Dr a;rw[← L]at a ⊢;clear L;have M:=show W0.cell? ⟨w.heap.size,14,none⟩=some (.int .i64 s.next)from by rw[Aa a.out.Ag];rfl
 have N:=show W0.cell? ⟨w.heap.size+1,14,none⟩=some (.int .i64 s.next)from by rw[Aa a.out.Ah];rfl
 have O:=show W0.cell? ⟨w.heap.size,12,none⟩=some (.int .i64 s.hand)from by rw[Aa a.out.Ag];rfl
 have P:=show W0.cell? ⟨w.heap.size+1,12,none⟩=some (.int .i64 s.hand)from by rw[Aa a.out.Ah];rfl
 go_upto_region 3 with(first
  |with_reducible refine lP #[s.zlog,s.zpages,s.zframes] a.out.Ag qW ?_
  |with_reducible refine lP #[s.zlog,s.zpages,s.zframes] a.out.Ah qW ?_
  |with_reducible refine lP #[s.log.from_,s.log.n,s.log.end_,s.log.safe,s.log.tail] a.out.Ag Fp ?_
  |with_reducible refine lP #[s.log.from_,s.log.n,s.log.end_,s.log.safe,s.log.tail] a.out.Ah Fp ?_
  |with_reducible refine lP #[.slice p.A s.Am.sectors.length p.c,s.Am.left,s.Am.down] a.out.Ag Bz ?_
  |with_reducible refine lP #[.slice q.A s.Am.sectors.length q.c,s.Am.left,s.Am.down] a.out.Ah Bz ?_
  |(go_at_call 120;(with_reducible refine(HD.out _ a.out.below).mono ?_);rintro e w1 ⟨rfl,g⟩;have Q:=show w1.cell? ⟨w.heap.size,13,none⟩=some (.slice p.T s.txns.length p.tc)from(by rw[Aa (Ac a.out.Ag g)];rfl);have R:=show w1.cell? ⟨w.heap.size+1,13,none⟩=some (.slice q.T s.txns.length q.tc)from(by rw[Aa (Ac a.out.Ah g)];rfl))
  |(go_at_call 121;(with_reducible refine(HT.out _ (Ae a.out.below g)).mono ?_);rintro e w2 ⟨rfl,j⟩;have ad:=show w2.cell? ⟨w.heap.size,11,none⟩=some (.slice p.F fs.length p.fc)from(by rw[Aa (Ac a.out.Ag (Ae g j)),← J.out];rfl);have ae:=show w2.cell? ⟨w.heap.size+1,11,none⟩=some (.slice q.F fs.length q.fc)from(by rw[Aa (Ac a.out.Ah (Ae g j)),← K.out];rfl)))
 have H1:=Hq (a.out.step (Ae g j));clear g j a a8 aa HT HD ad ae M N O P Q R;go_wp2_with fail
 go_loopw [5] (fun v wr=>∃ k:Nat,v= .int .i64 (k:Int)∧k≤fs.length∧Dm w.heap.size w [((Ai s p),36),((Ai s q),36)] wr) (fun v _=>fs.length-(intOf v).toNat)
 case atStart=>exact⟨0,rfl,Nat.zero_le _,H1.out⟩
 case round=>
  obtain⟨m,rfl,hm,l⟩:=hrel;have G:=Hq l;have U:=show wr.cell? ⟨w.heap.size,11,none⟩=some (.slice p.F fs.length p.fc)from(by rw[Aa l.Ag,← J.out];rfl);have V:=show wr.cell? ⟨w.heap.size+1,11,none⟩=some (.slice q.F fs.length q.fc)from(by rw[Aa l.Ah,← K.out];rfl);clear l H1
  by_cases o:m<fs.length
  ·have ao:(0:Int)≤(m:Int):=by omega
   have af:(m:Int)<(fs.length:Int):=(by omega);have aq:IntKind.i64.wrap ((m:Int)+1)=(m:Int)+1:=IntWalk.i64_in _ (by omega);obtain⟨b1,o1,X,ag,r,b⟩:=Bi Cc (a6.out.below G.out.below) o;obtain⟨b2,o2,Y,ah,t,d⟩:=Bi Cc (a7.out.below G.out.below) o;rw[X]at U;rw[Y]at V;generalize fs[m]=f at b d;obtain⟨x,y,z,B,C⟩:=f;have ar:=oQ x y z B C;have ai:=Hq (fun u (D:Bw wr u)=>show u.rangeAt b1 (o1+m*5) [.int .i64 x,.string y,.int .i64 z,.bool B,.int .i64 C]from fun i v hv=>by rw[D.cell (p:=⟨b1,o1+m*5+i,none⟩) r];exact b i v hv);have aj:=Hq (fun u (D:Bw wr u)=>show u.rangeAt b2 (o2+m*5) [.int .i64 x,.string y,.int .i64 z,.bool B,.int .i64 C]from fun i v hv=>by rw[D.cell (p:=⟨b2,o2+m*5+i,none⟩) t];exact d i v hv);have ak:=Hq (fun u (D:Bw wr u)=>show u.cell? ⟨w.heap.size,11,none⟩=some (.slice (some ⟨b1,o1,none⟩) fs.length p.fc)from by rw[D.cell (p:=⟨w.heap.size,11,none⟩) (G.out.lt (i:=0) (by simp))];exact U);have al:=Hq (fun u (D:Bw wr u)=>show u.cell? ⟨w.heap.size+1,11,none⟩=some (.slice (some ⟨b2,o2,none⟩) fs.length q.fc)from by rw[D.cell (p:=⟨w.heap.size+1,11,none⟩) (G.out.lt (i:=1) (by simp))];exact V);clear b d ag ah X Y r t;go_upto_region 6 with fail;have hSn:Bw wr wr.drew:=(Below.refl _ wr).drew;have Hy:=Hq (fun(u:World) (Z:Bw wr u)=>(And.intro (ak.out u Z) (al.out u Z)));refine E4 (S:=(fun u=>Bw wr u)) (fun E=>?_);generalize wr.drew=w9 at hSn ⊢;refine Au 0 ?_;refine Au 1 ?_;refine Au 2 ?_;refine Au 3 ?_;refine Au 4 ?_;refine Kt 5 (some 74) (v:=.agg #[x,y,z,B,C]) rfl (yieldsIf_load_mid (by rfl) 116 (.tmp 73) rfl b1 (o1+m*5) (by rfl) [.int .i64 x,.string y,.int .i64 z,.bool B,.int .i64 C] _ ai.out Cw Kr Kr) ?_
   try simp only[Act.put,pS]
   refine Au 6 ?_;refine Au 7 ?_;refine Au 8 ?_;refine Au 9 ?_;refine Au 10 ?_;refine Kt 11 (some 80) (v:=.agg #[x,y,z,B,C]) rfl (yieldsIf_load_mid (by rfl) 116 (.tmp 79) rfl b2 (o2+m*5) (by rfl) [.int .i64 x,.string y,.int .i64 z,.bool B,.int .i64 C] _ aj.out Cw Kr Kr) ?_
   try simp only[Act.put,pS]
   refine Au 12 ?_;refine wpAnyH_done Kr ?_ _;clear E;go_wp2_with fail;go_roundw
   case rel=>exact⟨m+1,by go_num,by omega,G.out.step hSn⟩
   case measure=>simp[intOf];omega
  ·have af:¬ (m:Int)<(fs.length:Int):=by omega
   go_wp2_with fail;go_ret;exact⟨rfl,G.out.below⟩
end Go.Proofs.YtmldoihahndcgaaGreatDoor
