import Derived.Test.YtpogpkonojhakaaGreatDoorHk00
import Derived.Test.YtpogpkonojhakaaGreatDoorHk33
set_option maxRecDepth 100000
set_option maxHeartbeats 16000000
set_option linter.unusedSimpArgs false
namespace Go.Proofs.YtpogpkonojhakaaGreatDoor
open Go.RowKit Sc
theorem lkeeps_any (l:List wZ)(A:Option Addr)(c:Nat)(dh:∀ a∈l,a.c<256)(j9:l.length≤140737488355328)(w:World)(hv:Fv w)(hr:Reads w A c l.length (l.flatMap rU)):
 Cr 3 #[.slice A l.length c] w (.bool true):=by
 have ek:=Hq (fun W (hv:Fv W)=>fS W hv)
 by_cases j0:40<l.length
 ·have hc:(40:Int)<(l.length:Int):=by omega
  have HV:=Hq hv;clear hr dh hv;go_enter Tryz.func3,Tryz.ntmps3;go_upto_region 2 with fail
  go_wp2_with(go_at_call 6;refine(ek.out _ HV.out).mono ?_;rintro e w1 ⟨rfl,T⟩)
  go_ret;exact⟨rfl,T⟩
 ·have hc:¬ (40:Int)<(l.length:Int):=by omega
  have HR:=Hq (fun W (hb:Bw w W)=>hr.below hb);have hd:=Hq dh;have HV:=Hq (fun W (hb:Bw w W)=>hv.below hb);have HT:=Hq (fun w' (hb:Bw w w')=>show(fun(e:Ending) (w':World)=>e= .returned (.bool true)∧Bw w w') (.returned (.bool true)) w' from⟨rfl,hb⟩);unfold Cr;generalize (fun(e:Ending) (w':World)=>e= .returned (.bool true)∧Bw w w')=Q at HT ⊢;clear hr dh hv;go_enter Tryz.func3,Tryz.ntmps3
  go_upto_region 4 with(first
   |(go_at_call 6;refine(ek.out _ (HV.out _ (Below.refl _ _))).mono ?_;rintro e w1 ⟨rfl,T⟩)
   |(go_at_call 8;refine(Wk _).mono ?_;rintro e w2 ⟨s2,q2,hg,rfl,en,eo,Y⟩)
   |(go_at_call 7;refine(iR s2 q2 hg eo _ en).mono ?_;rintro e w3 ⟨s3,q3,bz,rfl,ca,cb,ay⟩)
   |with_reducible refine sN (Ak s3 q3) ?_)
  have di:=Hq (Af T (Af Y (Af ay (Ac w3 (.cells (Ak s3 q3) 36)))));have O:=Hq (heap_alloc_new w3 (.cells (Ak s3 q3) 36));have cc:=Hq (ca.below (Ac w3 (.cells (Ak s3 q3) 36)));have ep:=Hq cb;have az:w.heap.size≤w3.heap.size:=Nat.le_trans T.size (Nat.le_trans Y.size ay.size);obtain⟨g3,F⟩:=ex w3.heap.size;obtain⟨w4,cd⟩:=ex (w3.alloc (.cells (Ak s3 q3) 36));rw[← F,← cd]at O;rw[← cd]at di cc;rw[← F]at az;rw[← cd,← F];clear cd F T Y ay en ca eo cb
  try simp only[Act.put]
  go_upto_region 5 with(first
   |with_reducible refine lL O.out Aq ?_
   |(go_at_call 7;refine(uM s3 q3 bz ep.out _ cc.out).mono ?_;rintro e w5 ⟨C,E,G,rfl,I,N,D⟩;have dj:=Ag O.out D)
   |with_reducible refine lS (Ak C E) dj ?_)
  have ad:=Hq ((show Yl w g3 [] (.slice none 0 0) (.slice none 0 0) s3 q3 bz w5 from⟨dj,cc.out.below D,Pu _ _ _ _,E1.nil _ _,Af di.out D⟩).put az I);have er:=Hq N;generalize w5.setRow g3 (Ak C E)=w6 at ad ⊢;clear I N D dj O cc ep di
  try simp only[Act.put]
  go_wp2_with fail
  go_loopw [8,9,10] (fun x y z wr=>∃ (i:Nat) (m:List Kv) (v v2:Value) (s:Tx.St) (p:SP) (fs:List Fr),i≤l.length∧x=v∧y=v2∧z= .int .i64 (i:Int)∧Yl w g3 m v v2 s p fs wr∧Pp i m s fs) (fun _ _ z _=>l.length-(intOf z).toNat)
  case atStart=>exact⟨0,[],_,_,C,E,G,Nat.zero_le _,rfl,rfl,rfl,ad.out,er.out⟩
  case round=>
   clear ad er;obtain⟨v0,rfl⟩:=ex wr;obtain⟨i,m,vx,vy,s,p,fs,ja,rfl,rfl,rfl,hm,hs⟩:=hrel;obtain⟨A8,c8,A9,c9,rfl,rfl⟩:=hm.yM;have H:=Hq hm;have HS:=Hq hs;clear hm hs
   by_cases et:i<l.length
   ·have hh:(i:Int)<(l.length:Int):=by omega
    have dk:(0:Int)≤(i:Int):=(by omega);have b9:i≤39:=(by omega);have jb:IntKind.i64.wrap ((i:Int)+1)=(i:Int)+1:=IntWalk.i64_in _ (by omega);obtain⟨b,off,eu,hi,ev,b0⟩:=Cb bZ (HR.out w (Below.refl _ _)) et;obtain⟨a,ha⟩:=ex (l[i]);have dm:=hd.out a (by rw[ha];exact List.getElem_mem et);rw[← ha]at b0;have ew:=Hq (show v0.rangeAt b (off+i*7) [.int .i64 a.kind,.int .i64 a.h,.int .i64 a.k,.int .i64 a.n,.int .u8 (a.c:Int),.int .i64 a.ap,.int .i64 a.asl]from fun j v hj=>by rw[H.out.be.cell (p:=⟨b,off+i*7+j,none⟩) ev];exact b0 j v hj);rw[eu];clear b0 hi ev eu ha;have dn:=Hq (fun W=>Wl a.c dm a.n W);generalize Ft a.c (Ux a.n)=rec at dn
    go_upto_region 13 with(first
     |with_reducible refine wpList_load_mid rfl 45 (.tmp 65) rfl b (off+i*7) rfl [.int .i64 a.kind,.int .i64 a.h,.int .i64 a.k,.int .i64 a.n,.int .u8 (a.c:Int),.int .i64 a.ap,.int .i64 a.asl] _ ew.out zF Kr Kr ?_
     |with_reducible refine sN #[a.kind,a.h,a.k,a.n,.int .u8 (a.c:Int),a.ap,a.asl] ?_)
    have T:=Ac v0 (.cells #[a.kind,a.h,a.k,a.n,.int .u8 (a.c:Int),a.ap,a.asl] 45);have dp:=Hq (H.out.below T);have bd:=Hq (heap_alloc_new v0 (.cells #[a.kind,a.h,a.k,a.n,.int .u8 (a.c:Int),a.ap,a.asl] 45));have bf:g3<v0.heap.size:=Bt H.out.st;obtain⟨g11,F⟩:=ex v0.heap.size;obtain⟨v1,cf⟩:=ex (v0.alloc (.cells #[a.kind,a.h,a.k,a.n,.int .u8 (a.c:Int),a.ap,a.asl] 45));rw[← F,← cf]at bd;rw[← cf]at dp;rw[← F]at bf;rw[← cf,← F];clear cf F T H ew
    try simp only[Act.put]
    have hl:=show v1.cell? ⟨g11,4,none⟩=some (.int .u8 (a.c:Int))from(by rw[Aa bd.out];rfl);have hn:=show v1.cell? ⟨g11,3,none⟩=some (.int .i64 a.n)from by rw[Aa bd.out];rfl
    go_upto_region 14 with(go_at_call 9;refine(dn.out _).mono ?_;rintro e v2 ⟨rfl,Y⟩)
    have ae:=Hq (dp.out.below Y);have Z:=Hq (Ag bd.out Y);clear hl hn Y dp bd dn;have ao:=show v2.cell? ⟨g11,0,none⟩=some (.int .i64 a.kind)from(by rw[Aa Z.out];rfl);go_upto_if 74 with fail
    go_cut [] (fun wc=>∃ (j:Nat) (s:Tx.St) (p:SP) (fs:List Fr),(a.kind≠5→j=i)∧j≤i+1∧Yl w g3 m (.slice A8 m.length c8) (.slice A9 m.length c9) s p fs wc∧Pp j m s fs∧wc.heap[g11]? =some (.cells #[a.kind,a.h,a.k,a.n,.int .u8 (a.c:Int),a.ap,a.asl] 45 (0,0)))
    case first=>
     by_cases h5:a.kind=5
     ·have hq:(a.kind==5)=true:=by rw[h5];rfl
      go_wp2_with(first
       |with_reducible refine lL ae.out.st Aq ?_
       |(go_at_call 10;refine(rP s p fs HS.out b9 rec _ (HV.out _ ae.out.be) ae.out.pr).mono ?_;rintro e v3 ⟨s3,q3,bz,x3,y3,z3,rfl,ca,cb,ay⟩;have ht:=Ag ae.out.st ay)
       |with_reducible refine lS (Ak s3 q3) ht ?_)
      go_meet
      case rel=>exact⟨i+1,s3,q3,bz,fun h=>absurd h5 h,Nat.le_refl _,(ae.out.below ay).put az ca,cb,(Ad _ _ _ _ (by omega)).trans (Ag Z.out ay)⟩
     ·have hq:(a.kind==5)=false:=beq_eq_false_iff_ne.2 h5
      go_wp2_with fail;go_meet
      case rel=>exact⟨i,s,p,fs,fun _=>rfl,Nat.le_succ _,ae.out,HS.out,Z.out⟩
    case rest=>
     clear ae HS Z ao;obtain⟨v3,rfl⟩:=ex wc;obtain⟨j,s,p,fs,ba,cg,hm,hs,ey⟩:=hcut;have H:=Hq hm;have HS:=Hq hs;have Z:=Hq ey;have HJ:=Hq (hs.more cg);clear hm hs ey;have ao:=show v3.cell? ⟨g11,0,none⟩=some (.int .i64 a.kind)from(by rw[Aa Z.out];rfl);have dq:m.length≤100:=by
      obtain⟨top,_,_,_,_,_,hx⟩:=HJ.out;have:=hx.kl;omega
     by_cases h0:a.kind=0
     ·obtain rfl:=ba (by omega)
      have hy:(a.kind==0)=true:=(by rw[h0];rfl);clear ba cg HJ h0
      as_aux_lemma=>
       go_upto_region 18 with(first
        |with_reducible refine lL H.out.st Aq ?_
        |(go_at_call 10;refine(wR s p fs HS.out b9 rec _ (HV.out _ H.out.be) H.out.pr).mono ?_;rintro e v4 ⟨s4,q4,cj,x4,y4,z4,rfl,ez,fa,dr⟩;have ck:=Hq (((Ed.nil (Below.refl v4.heap.size v4)).new (by simp) #[(),(),(),'s',(),false,(),(),(),(),"",'s',(),'s',()] 36).new (by simp) #[(),()] 43))
        |with_reducible refine lS (Ak s4 q4) ck.out.An ?_
        |with_reducible refine lS #[x4,y4] (ck.out.row 0 (Ak s4 q4) _ rfl).Ar ?_)
       have cm:=Hq (show Ed v4.heap.size v4 [((Ak s4 q4),36),(#[x4,y4],43)] ((((v4.alloc (.cells #[(),(),(),'s',(),false,(),(),(),(),"",'s',(),'s',()] 36)).alloc (.cells #[(),()] 43)).setRow v4.heap.size (Ak s4 q4)).setRow (v4.heap.size+1) #[x4,y4])from(ck.out.row 0 (Ak s4 q4) _ rfl).row 1 #[x4,y4] _ rfl);have ah:=cm.out.below;have ad:=Hq (H.out.below (Af dr ah));have ds:=Hq (ez.below ah);have cn:=Hq cm.out.An;have cp:=Hq cm.out.Ar;have cq:=Hq fa;have fb:g3<v4.heap.size:=Bt (Ag H.out.st dr);obtain⟨v6,fc⟩:=ex ((((v4.alloc (.cells #[(),(),(),'s',(),false,(),(),(),(),"",'s',(),'s',()] 36)).alloc (.cells #[(),()] 43)).setRow v4.heap.size (Ak s4 q4)).setRow (v4.heap.size+1) #[x4,y4]);rw[← fc]at ad ds cn cp ⊢;clear fc ah cm ck ez fa dr H HS;generalize v4.heap.size=g13 at cn cp fb ⊢
       try simp only[Act.put]
       go_upto_region 19 with(first|with_reducible refine lL cn.out Aq ?_|with_reducible refine lS (Ak s4 q4) ad.out.st ?_)
       have b3:=Hq (ad.out.put az ds.out);have aq:=Hq ((Ad v6 g3 (Ak s4 q4) (g13+1) (by omega)).trans cp.out);generalize v6.setRow g3 (Ak s4 q4)=v7 at b3 aq ⊢;clear ad ds cn cp
       try simp only[Act.put]
       by_cases hz:z4=0
       ·subst hz
        obtain⟨dt,pg,sl,rfl,rfl,al,fe⟩:=cq.out.ok rfl;have du:(1:Int)≤(rec.size:Int):=(by omega);have dv:(rec.size:Int)≤400:=(by omega);have bb:=Hq al;have ff:=Hq fe;clear cq al fe dt;go_upto_region 22 with fail;clear du dv;go_wp2_with fail
        go_loopw [16] (fun x wq=>∃ k:Nat,k≤m.length∧x= .int .i64 (k:Int)∧Bw v7 wq) (fun x _=>m.length-(intOf x).toNat)
        case atStart=>exact⟨0,Nat.zero_le _,rfl,Below.refl _ _⟩
        case round=>
         obtain⟨v8,rfl⟩:=ex wr;obtain⟨k,hk,rfl,fg⟩:=hrel;have ar:=Hq fg;clear fg
         by_cases bg:k<m.length
         ·have dw:(k:Int)<(m.length:Int):=by omega
          have ia:(0:Int)≤(k:Int):=(by omega);have ib:IntKind.i64.wrap ((k:Int)+1)=(k:Int)+1:=IntWalk.i64_in _ (by omega);obtain⟨b8,o8,rfl,j1,P,fh⟩:=Cb Io (C5 b3.out.ow) bg;have V:=Hq (fun u (hu:Bw v7 u)=>show u.rangeAt b8 (o8+k*2) [.int .i64 (m[k].pg:Int),.int .i64 (m[k].sl:Int)]from fun j v hv=>by rw[hu.cell (p:=⟨b8,o8+k*2+j,none⟩) P];exact fh j v hv);have fi:=ff.out m[k] (List.getElem_mem bg);have bh:=fun W=>Qn (m[k].pg:Int) (m[k].sl:Int) (pg:Int) (sl:Int) W;rw[decide_eq_false (fun h=>fi ⟨by omega,by omega⟩)]at bh;generalize m[k]=z at V bh;clear fh P fi;have y0:=V.out v8 ar.out 0 _ rfl;have y1:=V.out v8 ar.out 1 _ rfl;simp only[Nat.add_zero]at y0;have z0:=show v8.cell? ⟨g13+1,0,none⟩=some (.int .i64 (pg:Int))from(by rw[Aa (Ag aq.out ar.out)];rfl);have z1:=show v8.cell? ⟨g13+1,1,none⟩=some (.int .i64 (sl:Int))from(by rw[Aa (Ag aq.out ar.out)];rfl);go_upto_region 25 with fail
          go_quiet (fail)
          go_wp2_with fail;go_roundw
          case rel=>exact⟨k+1,by omega,by go_num,Af ar.out (Ei _ _)⟩
          case measure=>simp[intOf];omega
         ·obtain rfl:k=m.length:=by omega
          have dw:¬ (m.length:Int)<(m.length:Int):=(by omega);have au:=Hq (b3.out.below ar.out);have fj:=Hq (Ag aq.out ar.out);have bc:=au.out.be.size;obtain⟨WH,dx⟩:=bb.out.whole;have fk:=Hq WH;clear b3 aq ar ff dx WH
          go_wp2_with(first
           |with_reducible refine lL fj.out Od ?_
           |(at_builtin;refine Jt Kr (.tmp 124) (.tmp 126) 41 43 wV Uw rfl (by omega) (by omega) rfl w.heap.size _ m.length (m.flatMap E7) rfl (Bn au.out.ow (Ac _ _)) v8.heap.size (E7 ⟨pg,sl,rec⟩) 43 rfl (heap_alloc_new v8 _) rfl (by simp[E7,Value.oneCell']) (by omega) (Nat.le_trans bc (Ac v8 _).size) ?_;intro v9 w9 fl fm fo;obtain⟨jc,jd,rfl⟩:=Ej fl;have fp:=Nat.le_trans bc (Nat.le_trans (Ac v8 (.cells (E7 ⟨pg,sl,rec⟩).toArray 43)).size fo.size);have cr:=Cl.grown (Bn au.out.ow (Ac v8 (.cells (E7 ⟨pg,sl,rec⟩).toArray 43))) rfl (by decide) fm fo;have fq:=((au.out.oe.below (Ac v8 (.cells (E7 ⟨pg,sl,rec⟩).toArray 43))).grown (Bn au.out.ow (Ac v8 (.cells (E7 ⟨pg,sl,rec⟩).toArray 43))) (by decide) fm).below (Ac w9 (.cells #[rec] 9)))
           |(at_builtin;refine Pq Kr (.tmp 128) (.tmp 130) 26 Rj Pr rfl w.heap.size (.slice A9 m.length c9) (m.map (·.r)) rfl fq w9.heap.size rec rfl (heap_alloc_new w9 _) (by rw[List.length_map];omega) (Nat.le_trans fp (Ac w9 _).size) ?_;intro v11 je fr bf ft))
          go_roundw
          case rel=>
           refine⟨j+1,m++[⟨pg,sl,rec⟩],_,_,s4,q4,cj,by omega,rfl,rfl,by go_num,au.out.cl ((((Cl.of (B:=w.heap.size) (Ac v8 (.cells (E7 ⟨pg,sl,rec⟩).toArray 43)) bc).trans cr).trans (Cl.of (Ac w9 (.cells #[rec] 9)) fp)).trans ft) fk.out ?_ ?_,bb.out⟩
           ·exact Yz (Bn (D7.push (enc:=E7) fl) (Ac w9 (.cells #[rec] 9))) fq.own (by decide) bf
           ·rw[List.map_append];exact fr
          case measure=>simp[intOf];omega
       ·have ic:(z4==0)=false:=beq_eq_false_iff_ne.2 hz
        obtain⟨ct,al⟩:=cq.out.no hz;have bb:=Hq al;clear cq al;rcases ct with⟨rfl,dt⟩|⟨rfl,dt⟩
        ·have du:(1:Int)≤(rec.size:Int):=by omega
         have dv:(rec.size:Int)≤400:=(by omega);go_wp2_with fail;go_roundw
         case rel=>exact⟨j+1,m,_,_,s4,q4,cj,by omega,rfl,rfl,by go_num,b3.out,bb.out⟩
         case measure=>simp[intOf];omega
        ·by_cases du:(1:Int)≤(rec.size:Int)
         ·have dv:¬ (rec.size:Int)≤400:=by omega
          go_wp2_with fail;go_roundw
          case rel=>exact⟨j+1,m,_,_,s4,q4,cj,by omega,rfl,rfl,by go_num,b3.out,bb.out⟩
          case measure=>simp[intOf];omega
         ·go_wp2_with fail
          go_roundw
          case rel=>exact⟨j+1,m,_,_,s4,q4,cj,by omega,rfl,rfl,by go_num,b3.out,bb.out⟩
          case measure=>simp[intOf];omega
     ·have hy:(a.kind==0)=false:=beq_eq_false_iff_ne.2 h0
      have ak:=show v3.cell? ⟨g11,2,none⟩=some (.int .i64 a.k)from by rw[Aa Z.out];rfl
      by_cases ie:0≤a.k∧a.k<(m.length:Int)
      ·obtain⟨K,q⟩:∃ K:Nat,a.k=(K:Int):=⟨a.k.toNat,by omega⟩
       have ai:K<m.length:=(by omega);rw[q]at ak;have jf:¬ (K:Int)<0:=(by omega);have jg:¬ (m.length:Int)≤(K:Int):=(by omega);have fu:(K:Int)<(m.length:Int):=(by omega);have ig:(0:Int)≤(K:Int):=(by omega);have ih:IntKind.i64.wrap ((K:Int)+1)=(K:Int)+1:=IntWalk.i64_in _ (by omega);have a7:=Hq (fun u (hu:Bw v3 u)=>show u.cell? ⟨g11,2,none⟩=some (.int .i64 (K:Int))from by rw[Aa (Ag Z.out hu)];show some (Value.int .i64 a.k)=_;rw[q]);have bj:=Hq (fun u (hu:Bw v3 u)=>show u.cell? ⟨g11,0,none⟩=some (.int .i64 a.kind)from by rw[Aa (Ag Z.out hu)];rfl);clear ie
       by_cases h1:a.kind=1
       ·obtain rfl:=ba (by omega)
        have ij:(a.kind==1)=true:=(by rw[h1];rfl);have fv:(a.kind==2)=false:=(by rw[h1];rfl);clear ba cg HJ h0 h1
        as_aux_lemma=>
         obtain⟨g8,fw,e8,dy,cz,R⟩:=Mt H.out.ow (by omega)
         injection e8 with bk _ bm
         subst bk bm;have bn:=Hq R;have V:=Hq (fun u (hu:Bw v3 u)=>show u.rangeAt g8 (K*2) [.int .i64 (m[K].pg:Int),.int .i64 (m[K].sl:Int)]from fun j v hv=>by
          obtain⟨b8,o8,e,_,P,hx⟩:=Cb Io R ai
          injection e with e
          injection e with e1 e2
          subst e1 e2;rw[hu.cell (p:=⟨g8,K*2+j,none⟩) P];have h9:=hx j v hv
          rwa[Nat.zero_add]at h9)
         clear R;have aj:=Hq (fun W (hv:Fv W) (h:Am W s p fs)=>wS s p fs HS.out b9 K ai rec W hv h);go_upto_region 30 with fail
         go_cut [17,18] (fun x y wc=>∃ (g17:Nat) (C:Tx.St) (E:SP) (G:List Fr) (z5:Int),x= .pointer (some ⟨g17,0,none⟩)∧y= .int .i64 z5∧wc.heap[g17]? =some (.cells (Ak C E) 36 (0,0))∧Am wc C E G∧v3.heap.size≤g17∧Bw v3 wc∧((z5=0→Pp (j+1) (m.set K ⟨m[K].pg,m[K].sl,rec⟩) C G)∧(z5≠0→Pp (j+1) m C G)))
         case first=>
          have Z0:Bw v3 v3.drew:=(Below.refl _ v3).drew;have Hy:=Hq (fun(u:World) (b4:Bw v3 u)=>(a7.out u b4));refine Gs (S:=(fun u=>Bw v3 u)) (fun d=>?_);refine jD 0 (some 146) (v:=.agg (Ak s p)) rfl (yieldsIf_load_mid (by rfl) 36 (.tmp 3) rfl g3 0 (by rfl) (Ak s p).toList _ (fun u hu=>(by intro j v hj;rw[Nat.zero_add,Aa (Ag H.out.st hu)];simpa using hj)) Aq Kr Kr) ?_
          try simp only[Act.put,pS]
          refine Aw 1 ?_;refine Aw 2 ?_;refine Aw 3 ?_;refine Aw 4 ?_;refine jD 5 (some 151) (v:=.agg #[.int .i64 (m[K].pg:Int),.int .i64 (m[K].sl:Int)]) rfl (yieldsIf_load_mid (by rfl) 43 (.tmp 150) rfl g8 (K*2) (by rfl) [.int .i64 (m[K].pg:Int),.int .i64 (m[K].sl:Int)] _ (fun u hu=>V.out u hu) Od Kr Kr) ?_
          try simp only[Act.put,pS]
          refine Aw 6 ?_;refine wpAnyH_ready (rs:=[7,11]) Kr (by simp) ?_;refine(AllReadyH.cons (o:={dst:=some 153,op:=_,type:=_,pos:=_,after:=_,guard:=_}) rfl (fun K q=>?_) (AllReadyH.cons (o:={dst:=some 17,op:=_,type:=_,pos:=_,after:=_,guard:=_}) rfl (fun K q=>?_) AllReadyH.nil))
          ·
           go_simp
           refine(aj.out _ (HV.out _ (Af H.out.be Z0)) (H.out.pr.below Z0)).mono ?_;rintro e w5 ⟨C,E,G,z5,rfl,I,a1,D⟩;have Z2:=Af Z0 D;try clear hSn
           have hSn:=Z2;refine Ct q (fun d=>?_);clear q K;refine Aw 8 ?_;refine Aw 9 ?_;refine Aw 10 ?_;refine Cz 11 fun K q=>?_
           go_simp
           have X:=heap_alloc_new w5 (.cells #[(),(),(),'s',(),false,(),(),(),(),"",'s',(),'s',()] 36);have Z3:=Af Z2 (Ac w5 (.cells #[(),(),(),'s',(),false,(),(),(),(),"",'s',(),'s',()] 36));have bo:=I.below (Ac w5 (.cells #[(),(),(),'s',(),false,(),(),(),(),"",'s',(),'s',()] 36));clear hSn;have hSn:=Z3;refine Ct q (fun d=>?_);clear q K;refine Cz 12 fun K q=>?_;refine Bh (by rfl) ?_;refine sW (Ak C E) X ?_;have Z4:=Fu (g:=w5.heap.size) (by have:=Z2.size;omega) Z3 (Ak C E);have O:=setRow_heap _ _ _ (Ak C E) _ _ X;have af:=bo.other (t:=36) X (by decide) (by decide) (by decide) (Ak C E);have F:v3.heap.size≤w5.heap.size:=(by have:=Z2.size;omega);clear hSn;have hSn:=Z4;refine Ct q (fun d=>?_);clear q K;refine Aw 13 ?_;refine wpAnyH_done Kr ?_ _;clear d hSn;go_wp2_with fail;go_meet
           case rel=>exact⟨_,C,E,G,z5,rfl,rfl,O,af,F,Z4,a1⟩
          ·
           go_simp
           have Z1:=Af Z0 (Ac v3.drew (.cells #[(),(),(),'s',(),false,(),(),(),(),"",'s',(),'s',()] 36));have hSn:=Z1;refine Ct q (fun d=>?_);clear q K;refine Cz 7 fun K q=>?_
           go_simp
           refine(aj.out _ (HV.out _ (Af H.out.be Z1)) (H.out.pr.below Z1)).mono ?_;rintro e w5 ⟨C,E,G,z5,rfl,I,a1,D⟩;have Z2:=Af Z1 D;try clear hSn
           have hSn:=Z2;have X:=Bs D;refine Ct q (fun d=>?_);clear q K;refine Aw 8 ?_;refine Aw 9 ?_;refine Aw 10 ?_;refine Cz 12 fun K q=>?_;refine Bh (by rfl) ?_;refine sW (Ak C E) X ?_;have Z4:=Fu (g:=v3.drew.heap.size) (by show v3.heap.size≤v3.heap.size;omega) Z2 (Ak C E);have O:=setRow_heap _ _ _ (Ak C E) _ _ X;have af:=I.other (t:=36) X (by decide) (by decide) (by decide) (Ak C E);have F:v3.heap.size≤v3.drew.heap.size:=(by show v3.heap.size≤v3.heap.size;omega);clear hSn;have hSn:=Z4;refine Ct q (fun d=>?_);clear q K;refine Aw 13 ?_;refine wpAnyH_done Kr ?_ _;clear d hSn;go_wp2_with fail;go_meet
           case rel=>exact⟨_,C,E,G,z5,rfl,rfl,O,af,F,Z4,a1⟩
         case rest=>
          obtain⟨g17,C,E,G,z5,rfl,rfl,a8,I,F,D,a1⟩:=hcut;obtain⟨v4,rfl⟩:=ex wc;have aa:=Hq a8;have av:=Hq I;have U:=Hq (H.out.below D);have bp:=Hq a1;have da:g3<g17:=Nat.lt_of_lt_of_le (Bt H.out.st) F;have aw:=Hq (Ag Z.out D);clear a8 I a1 D F H HS Z V ao ak bj a7
          go_upto_region 32 with(first|with_reducible refine lL aa.out Aq ?_|with_reducible refine lS (Ak C E) U.out.st ?_)
          have M:=Hq (U.out.put az av.out);have J:=Hq ((Ad v4 g3 (Ak C E) g11 (by omega)).trans aw.out);generalize v4.setRow g3 (Ak C E)=v5 at M J ⊢;clear U av aa aw
          try simp only[Act.put]
          have ao:=show v5.cell? ⟨g11,0,none⟩=some (.int .i64 a.kind)from(by rw[Aa J.out];rfl);have ak:=show v5.cell? ⟨g11,2,none⟩=some (.int .i64 (K:Int))from by rw[Aa J.out];show some (Value.int .i64 a.k)=_;rw[q]
          by_cases hz:z5=0
          ·subst hz
           have N:=bp.out.1 rfl;have dz:=N.whole;obtain⟨g,cap,cs,ik,j2,jh,bq,fx,fy⟩:=M.out.set dz.1 (by rw[dz.2];omega) ai rec
           injection ik with fz _ ga
           subst fz ga;have ad:=Hq fy;have b5:=Hq N;have db:=show v5.cell? ⟨g,K,none⟩=some (cs[K])from(by rw[Aa bq,Array.getElem?_eq_getElem fx]);have gb:=Ap bq K;have gd:=Hq (show v5.setCell ⟨g,K,none⟩ (.string rec)=v5.setRow g (cs.setIfInBounds K (.string rec))from setCell_eq_setRow _ g K _ _ _ _ bq);generalize cs[K]=cK at db;have gf:g11≠g:=fun e=>by
            have:=J.out;rw[e,bq]at this
            injection this with this;injection this with _ this;exact absurd this (by decide)
           have dc:=Hq ((Ad v5 g (cs.setIfInBounds K (.string rec)) g11 gf).trans J.out);clear N fy dz bq fx gf;go_upto_region 34 with fail;rw[gd.out];generalize v5.setRow g (cs.setIfInBounds K (.string rec))=v6 at ad dc ⊢;clear ao ak db gb gd M J
           try simp only[Act.put]
           have ao:=show v6.cell? ⟨g11,0,none⟩=some (.int .i64 a.kind)from(by rw[Aa dc.out];rfl);go_wp2_with fail;go_roundw
           case rel=>exact⟨j+1,_,_,_,C,E,G,by omega,rfl,rfl,by go_num,ad.out,b5.out⟩
           case measure=>simp[intOf];omega
          ·have ic:(z5==0)=false:=beq_eq_false_iff_ne.2 hz
           have b5:=Hq (bp.out.2 hz);go_wp2_with fail;go_roundw
           case rel=>exact⟨j+1,m,_,_,C,E,G,by omega,rfl,rfl,by go_num,M.out,b5.out⟩
           case measure=>simp[intOf];omega
       ·have ij:(a.kind==1)=false:=beq_eq_false_iff_ne.2 h1
        by_cases h2:a.kind=2
        ·obtain rfl:=ba (by omega)
         have fv:(a.kind==2)=true:=(by rw[h2];rfl);clear ba cg HJ h0 h1 h2
         as_aux_lemma=>
          obtain⟨g8,fw,e8,dy,cz,R⟩:=Mt H.out.ow (by omega)
          injection e8 with bk _ bm
          subst bk bm;have bn:=Hq R;have V:=Hq (fun u (hu:Bw v3 u)=>show u.rangeAt g8 (K*2) [.int .i64 (m[K].pg:Int),.int .i64 (m[K].sl:Int)]from fun j v hv=>by
           obtain⟨b8,o8,e,_,P,hx⟩:=Cb Io R ai
           injection e with e
           injection e with e1 e2
           subst e1 e2;rw[hu.cell (p:=⟨g8,K*2+j,none⟩) P];have h9:=hx j v hv
           rwa[Nat.zero_add]at h9)
          clear R;have aj:=Hq (fun W (hv:Fv W) (h:Am W s p fs)=>wT s p fs HS.out b9 K ai W hv h);go_upto_region 35 with fail
          go_cut [19,20] (fun x y wc=>∃ (g17:Nat) (C:Tx.St) (E:SP) (G:List Fr),x= .pointer (some ⟨g17,0,none⟩)∧y= .int .i64 0∧wc.heap[g17]? =some (.cells (Ak C E) 36 (0,0))∧Am wc C E G∧v3.heap.size≤g17∧Bw v3 wc∧Pp (j+1) (m.take K++m.drop (K+1)) C G)
          case first=>
           have Z0:Bw v3 v3.drew:=(Below.refl _ v3).drew;have Hy:=Hq (fun(u:World) (b4:Bw v3 u)=>(a7.out u b4));refine Gs (S:=(fun u=>Bw v3 u)) (fun d=>?_);refine jD 0 (some 168) (v:=.agg (Ak s p)) rfl (yieldsIf_load_mid (by rfl) 36 (.tmp 3) rfl g3 0 (by rfl) (Ak s p).toList _ (fun u hu=>(by intro j v hj;rw[Nat.zero_add,Aa (Ag H.out.st hu)];simpa using hj)) Aq Kr Kr) ?_
           try simp only[Act.put,pS]
           refine Aw 1 ?_;refine Aw 2 ?_;refine Aw 3 ?_;refine Aw 4 ?_;refine jD 5 (some 173) (v:=.agg #[.int .i64 (m[K].pg:Int),.int .i64 (m[K].sl:Int)]) rfl (yieldsIf_load_mid (by rfl) 43 (.tmp 172) rfl g8 (K*2) (by rfl) [.int .i64 (m[K].pg:Int),.int .i64 (m[K].sl:Int)] _ (fun u hu=>V.out u hu) Od Kr Kr) ?_
           try simp only[Act.put,pS]
           refine wpAnyH_ready (rs:=[6,10]) Kr (by simp) ?_;refine(AllReadyH.cons (o:={dst:=some 174,op:=_,type:=_,pos:=_,after:=_,guard:=_}) rfl (fun K q=>?_) (AllReadyH.cons (o:={dst:=some 19,op:=_,type:=_,pos:=_,after:=_,guard:=_}) rfl (fun K q=>?_) AllReadyH.nil))
           ·
            go_simp
            refine(aj.out _ (HV.out _ (Af H.out.be Z0)) (H.out.pr.below Z0)).mono ?_;rintro e w5 ⟨C,E,G,_,rfl,I,⟨rfl,a1⟩,D⟩;have Z2:=Af Z0 D;try clear hSn
            have hSn:=Z2;refine Ct q (fun d=>?_);clear q K;refine Aw 7 ?_;refine Aw 8 ?_;refine Aw 9 ?_;refine Cz 10 fun K q=>?_
            go_simp
            have X:=heap_alloc_new w5 (.cells #[(),(),(),'s',(),false,(),(),(),(),"",'s',(),'s',()] 36);have Z3:=Af Z2 (Ac w5 (.cells #[(),(),(),'s',(),false,(),(),(),(),"",'s',(),'s',()] 36));have bo:=I.below (Ac w5 (.cells #[(),(),(),'s',(),false,(),(),(),(),"",'s',(),'s',()] 36));clear hSn;have hSn:=Z3;refine Ct q (fun d=>?_);clear q K;refine Cz 11 fun K q=>?_;refine Bh (by rfl) ?_;refine sW (Ak C E) X ?_;have Z4:=Fu (g:=w5.heap.size) (by have:=Z2.size;omega) Z3 (Ak C E);have O:=setRow_heap _ _ _ (Ak C E) _ _ X;have af:=bo.other (t:=36) X (by decide) (by decide) (by decide) (Ak C E);have F:v3.heap.size≤w5.heap.size:=(by have:=Z2.size;omega);clear hSn;have hSn:=Z4;refine Ct q (fun d=>?_);clear q K;refine Aw 12 ?_;refine wpAnyH_done Kr ?_ _;clear d hSn;go_wp2_with fail;go_meet
            case rel=>exact⟨_,C,E,G,rfl,rfl,O,af,F,Z4,a1⟩
           ·
            go_simp
            have Z1:=Af Z0 (Ac v3.drew (.cells #[(),(),(),'s',(),false,(),(),(),(),"",'s',(),'s',()] 36));have hSn:=Z1;refine Ct q (fun d=>?_);clear q K;refine Cz 6 fun K q=>?_
            go_simp
            refine(aj.out _ (HV.out _ (Af H.out.be Z1)) (H.out.pr.below Z1)).mono ?_;rintro e w5 ⟨C,E,G,_,rfl,I,⟨rfl,a1⟩,D⟩;have Z2:=Af Z1 D;try clear hSn
            have hSn:=Z2;have X:=Bs D;refine Ct q (fun d=>?_);clear q K;refine Aw 7 ?_;refine Aw 8 ?_;refine Aw 9 ?_;refine Cz 11 fun K q=>?_;refine Bh (by rfl) ?_;refine sW (Ak C E) X ?_;have Z4:=Fu (g:=v3.drew.heap.size) (by show v3.heap.size≤v3.heap.size;omega) Z2 (Ak C E);have O:=setRow_heap _ _ _ (Ak C E) _ _ X;have af:=I.other (t:=36) X (by decide) (by decide) (by decide) (Ak C E);have F:v3.heap.size≤v3.drew.heap.size:=(by show v3.heap.size≤v3.heap.size;omega);clear hSn;have hSn:=Z4;refine Ct q (fun d=>?_);clear q K;refine Aw 12 ?_;refine wpAnyH_done Kr ?_ _;clear d hSn;go_wp2_with fail;go_meet
            case rel=>exact⟨_,C,E,G,rfl,rfl,O,af,F,Z4,a1⟩
          case rest=>
           obtain⟨g17,C,E,G,rfl,rfl,a8,I,F,D,a1⟩:=hcut;obtain⟨v4,rfl⟩:=ex wc;have aa:=Hq a8;have av:=Hq I;have U:=Hq (H.out.below D);have bp:=Hq a1;have da:g3<g17:=Nat.lt_of_lt_of_le (Bt H.out.st) F;have aw:=Hq (Ag Z.out D);clear a8 I a1 D F H HS Z V ao ak bj a7
           go_upto_region 37 with(first|with_reducible refine lL aa.out Aq ?_|with_reducible refine lS (Ak C E) U.out.st ?_)
           have M:=Hq (U.out.put az av.out);have J:=Hq ((Ad v4 g3 (Ak C E) g11 (by omega)).trans aw.out);generalize v4.setRow g3 (Ak C E)=v5 at M J ⊢;clear U av aa aw
           try simp only[Act.put]
           have ao:=show v5.cell? ⟨g11,0,none⟩=some (.int .i64 a.kind)from(by rw[Aa J.out];rfl);have ak:=show v5.cell? ⟨g11,2,none⟩=some (.int .i64 (K:Int))from(by rw[Aa J.out];show some (Value.int .i64 a.k)=_;rw[q]);have N:=bp.out;have b5:=Hq N;obtain⟨g9,il,e9,cr,gg,ax⟩:=Mt M.out.oe.uN (by omega)
           injection e9 with e0 _ e3
           subst e0 e3;have e4:=Hq ax;have bn:=Hq (C5 M.out.ow);have a7:=Hq (fun u (hu:Bw v5 u)=>show u.cell? ⟨g11,2,none⟩=some (.int .i64 (K:Int))from by rw[Aa (Ag J.out hu)];show some (Value.int .i64 a.k)=_;rw[q]);have im:=Hq (iT bn.out K (by omega));have cu:=Hq (iT e4.out K (by omega));have gh:=Hq (iS Io bn.out (K+1) (by omega) dy);have br:=Hq (iS Ur e4.out (K+1) (by omega) cr);have bc:=M.out.be.size;obtain⟨WH,dx⟩:=N.whole;have fk:=Hq WH;clear N ax bn e4 dx WH bp;have j3:K≤c8:=(by omega);have j4:K≤c9:=(by omega);have j5:(0:Int)≤(K:Int)+1:=(by omega);have j6:(K:Int)+1≤(m.length:Int):=(by omega);obtain⟨AD,gi⟩:=ex (if c8=K+1 then(some ⟨g8,0,none⟩:Option Addr)else some ⟨g8,(K+1)*2,none⟩);rw[← gi]at gh;obtain⟨AE,gj⟩:=ex (if c9=K+1 then(some ⟨g9,0,none⟩:Option Addr)else some ⟨g9,K+1,none⟩);rw[Nat.mul_one,← gj]at br;obtain⟨kx,rfl⟩:=ex (K:Nat);have cv:((m.take kx).map (·.r)).length=kx:=(by rw[List.length_map,List.length_take];omega);have gk:((m.drop (kx+1)).map (·.r)).length=m.length-(kx+1):=(by rw[List.length_map,List.length_drop]);have bs:=cu.out;have bt:=br.out;rw[Uy,← List.map_map]at bs bt;clear cu br;have cu:=Hq bs;have br:=Hq bt;clear bs bt;go_upto_region 38 with fail;have hSn:Bw v5 v5.drew:=(Below.refl _ v5).drew;have Hy:=Hq (fun(u:World) (b4:Bw v5 u)=>(a7.out u b4));refine Gs (S:=(fun u=>Bw v5 u)) (fun d=>?_);have cw:v5.heap.size≤v5.drew.heap.size:=Nat.le_refl _;obtain⟨i0,dk,gl,gm,ct⟩:=info_parts Uw;generalize v5.drew=w9 at hSn cw ⊢;refine Aw 1 ?_;refine Aw 2 ?_;refine Aw 3 ?_;refine Aw 4 ?_;refine Aw 6 ?_;refine Aw 7 ?_;refine Aw 8 ?_;refine Aw 9 ?_;refine Aw 10 ?_;refine Cz 0 fun K q=>?_
           go_simp
           have bu:=Kg w9 43 2;have b6:=hSn.trans ((Ac w9 (.cells #[] 43)).mono hSn.size);clear hSn;have hSn:=b6;refine Ct q (fun d=>?_);clear q K;refine Cz 5 fun K q=>?_;refine Bh (by rfl) ?_;refine Js _ (.tmp 180) (.tmp 184) 41 43 i0 (.agg #[(),()]) 2 16 wV dk gl gm ct rfl (by omega) rfl w9.heap.size _ 0 [] rfl bu (some ⟨g8,0,none⟩) kx c8 ((m.take kx).flatMap E7) rfl (im.out.below b6) (by rw[Ce Io,List.length_take,Nat.min_eq_left (by omega)]) (cA _) (by omega) (by omega) (Ac w9 (.cells #[] 43)).size ?_;intro v6 w6 an e5 ah;rw[List.nil_append,Nat.zero_add]at an;obtain⟨A6,c6,rfl⟩:=Ej an;have bw:w9.heap.size≤w6.heap.size:=(Nat.le_trans (Ac w9 (.cells #[] 43)).size ah.size);have ag:=hSn.trans (ah.mono cw);clear hSn b6 e5;have hSn:=ag;clear ag;refine Ct q (fun d=>?_);clear q K;refine Cz 11 fun K q=>?_
           try rw[← gi]
           refine Bh (by rfl) ?_;refine Js _ (.tmp 185) (.tmp 190) 41 43 i0 (.agg #[(),()]) 2 16 wV dk gl gm ct rfl (by omega) rfl w9.heap.size _ kx ((m.take kx).flatMap E7) rfl an AD (m.length-(kx+1)) (c8-(kx+1)) ((m.drop (kx+1)).flatMap E7) rfl (gh.out.below hSn) (by rw[Ce Io,List.length_drop]) (cA _) (by omega) (by omega) bw ?_;intro v7 w7 b7 e6 gn;obtain⟨A7,c7,rfl⟩:=Ej b7;have ag:=hSn.trans (gn.mono cw);clear hSn e6;have hSn:=ag;clear ag;refine Ct q (fun d=>?_);clear q K;refine Aw 12 ?_;refine wpAnyH_done Kr ?_ _
           try clear d
           try simp only[Act.put]
           have iq:=Hq (show D7 E7 2 43 w9.heap.size w7 (.slice A7 (kx+(m.length-(kx+1))) c7) (m.take kx++m.drop (kx+1))from by
            unfold D7;have ir:kx+(m.length-(kx+1))=(m.take kx++m.drop (kx+1)).length:=(by rw[List.length_append,List.length_take,List.length_drop];omega);rw[← ir,List.flatMap_append];exact b7)
           have gp:=Hq hSn;clear b7 an bu bw ah gn hSn;go_upto_region 39 with fail;have hSn:Bw v5 w7.drew:=Af gp.out (Below.refl _ w7).drew;have cx:v5.heap.size≤w7.drew.heap.size:=gp.out.size;have Hy:=Hq (fun(u:World) (b4:Bw v5 u)=>(a7.out u b4));refine Gs (S:=(fun u=>Bw v5 u)) (fun d=>?_);have al:w7.heap.size≤w7.drew.heap.size:=Nat.le_refl _;have gq:Bw w7 w7.drew:=(Below.refl _ w7).drew;generalize w7.drew=x9 at hSn cx al gq ⊢;refine Aw 1 ?_;refine Aw 2 ?_;refine Aw 3 ?_;refine Aw 4 ?_;refine Aw 6 ?_;refine Aw 7 ?_;refine Aw 8 ?_;refine Aw 9 ?_;refine Aw 10 ?_;refine Cz 0 fun K q=>?_
           go_simp
           have bu:=fQ x9;have b6:=hSn.trans ((Ac x9 (.cells #[] 9)).mono hSn.size);have gr:=Af gq (Ac x9 (.cells #[] 9));clear hSn;have hSn:=b6;refine Ct q (fun d=>?_);clear q K;refine Cz 5 fun K q=>?_;refine Bh (by rfl) ?_;refine Uv _ (.tmp 192) (.tmp 196) 26 Rj Pr rfl x9.heap.size (.slice (some ⟨x9.heap.size,0,none⟩) 0 0) [] rfl bu (some ⟨g9,0,none⟩) kx c9 ((m.take kx).map (·.r)) cv rfl (cu.out.below b6) (by show 0+kx≤_;omega) (Ac x9 (.cells #[] 9)).size ?_;intro v6 x6 an e5 cy;rw[List.nil_append]at an;obtain⟨A6,c6,gu⟩:=Ej an.own;rw[cv]at gu;subst gu;have bw:x9.heap.size≤x6.heap.size:=(Nat.le_trans (Ac x9 (.cells #[] 9)).size cy.bl.size);have ag:=hSn.trans (cy.bl.mono cx);have gv:=gr.trans (cy.bl.mono al);clear hSn b6 e5 gr;have hSn:=ag;clear ag;refine Ct q (fun d=>?_);clear q K;refine Cz 11 fun K q=>?_
           try rw[← gj]
           refine Bh (by rfl) ?_;refine Uv _ (.tmp 197) (.tmp 202) 26 Rj Pr rfl x9.heap.size (.slice A6 kx c6) ((m.take kx).map (·.r)) rfl an AE (m.length-(kx+1)) (c9-(kx+1)) ((m.drop (kx+1)).map (·.r)) gk rfl (br.out.below hSn) (by rw[cv];omega) bw ?_;intro v7 x7 b7 e6 e7;obtain⟨A8,iu,gw⟩:=Ej b7.own;rw[List.length_append,cv,gk]at gw;subst gw;have ag:=hSn.trans (e7.bl.mono cx);have gx:=gv.trans (e7.bl.mono al);clear hSn e6 gv;have hSn:=ag;clear ag;refine Ct q (fun d=>?_);clear q K;refine Aw 12 ?_;refine wpAnyH_done Kr ?_ _
           try clear d
           try simp only[Act.put]
           have gy:w.heap.size≤w9.heap.size:=Nat.le_trans bc cw;have ea:w.heap.size≤x9.heap.size:=Nat.le_trans bc cx;have au:=Hq (show Yl w g3 (m.take kx++m.drop (kx+1)) (.slice A7 (kx+(m.length-(kx+1))) c7) (.slice A8 (kx+(m.length-(kx+1))) iu) C E G x7 from
            ⟨Ag M.out.st hSn,M.out.pr.below hSn,Oo (Bn iq.out gx) gy,by rw[List.map_append];exact b7.mono ea,Af M.out.be hSn⟩)
           have j7:=Hq (show x7.heap[g11]? =some (.cells #[a.kind,a.h,a.k,a.n,.int .u8 (a.c:Int),a.ap,a.asl] 45 (0,0))from Ag J.out hSn);clear hSn gx b7 e7 cy an bu bw;go_wp2_with fail;go_roundw
           case rel=>exact⟨j+1,_,_,_,C,E,G,by omega,rfl,rfl,by go_num,au.out,b5.out⟩
           case measure=>simp[intOf];omega
        ·have fv:(a.kind==2)=false:=beq_eq_false_iff_ne.2 h2
         clear a7 bj;go_wp2_with fail;go_roundw
         case rel=>exact⟨i+1,m,_,_,s,p,fs,by omega,rfl,rfl,by go_num,H.out,HJ.out⟩
         case measure=>simp[intOf];omega
      ·by_cases j8:a.k<0
       ·go_wp2_with fail
        go_roundw
        case rel=>exact⟨i+1,m,_,_,s,p,fs,by omega,rfl,rfl,by go_num,H.out,HJ.out⟩
        case measure=>simp[intOf];omega
       ·have F:(m.length:Int)≤a.k:=by omega
        go_wp2_with fail;go_roundw
        case rel=>exact⟨i+1,m,_,_,s,p,fs,by omega,rfl,rfl,by go_num,H.out,HJ.out⟩
        case measure=>simp[intOf];omega
   ·obtain rfl:i=l.length:=by omega
    as_aux_lemma=>
     have hh:¬ (l.length:Int)<(l.length:Int):=(by omega);have dq:m.length≤100:=by
      obtain⟨top,_,_,_,_,_,hx⟩:=HS.out;have:=hx.kl;omega
     go_upto_region 43 with(first
      |with_reducible refine lL H.out.st Aq ?_
      |(go_at_call 13;refine(uL s p fs HS.out _ H.out.pr).mono ?_;rintro e v1 ⟨s1,q1,vv,vw,L,rfl,ho,he,hL,gz,T⟩)
      |with_reducible refine sN (Ak s1 q1) ?_)
     have Y:=Af T (Ac v1 (.cells (Ak s1 q1) 36));obtain⟨A1,c1,rfl⟩:=Ej ho;obtain⟨A2,c2,rfl⟩:=Ej he.own;have eb:(L.map (·.r)).length=m.length:=(by rw[List.length_map];exact hL);have ae:=Hq (H.out.below Y);have ec:=Hq (show World.ownsRow (v1.alloc (.cells (Ak s1 q1) 36)) w.heap.size 43 2 (.slice A1 m.length c1) m.length (L.flatMap E7)from by
      have h9:=Oo (Bn ho (Ac v1 (.cells (Ak s1 q1) 36))) H.out.be.size
      rwa[hL]at h9)
     have ed:=Hq (show E1 w.heap.size (v1.alloc (.cells (Ak s1 q1) 36)) (.slice A2 m.length c2) (L.map (·.r))from by
      have h9:=(he.below (Ac v1 (.cells (Ak s1 q1) 36))).mono H.out.be.size
      rwa[eb]at h9)
     have HL:=Hq hL;have iv:=Hq gz;rw[hL,eb];generalize v1.alloc (.cells (Ak s1 q1) 36)=v2 at ae ec ed ⊢;clear T Y ho he hL eb gz H
     try simp only[Act.put]
     have iw:((m.length:Int) != (m.length:Int))=false:=bne_self_eq_false _;go_wp2_with fail;clear iw
     go_loopw [25] (fun x wr=>∃ (K:Nat) (s:Tx.St) (p:SP) (fs:List Fr),K≤m.length∧x= .int .i64 (K:Int)∧Yl w g3 m (.slice A8 m.length c8) (.slice A9 m.length c9) s p fs wr∧Pp l.length m s fs∧World.ownsRow wr w.heap.size 43 2 (.slice A1 m.length c1) m.length (L.flatMap E7)∧E1 w.heap.size wr (.slice A2 m.length c2) (L.map (·.r))) (fun x _=>m.length-(intOf x).toNat)
     case atStart=>exact⟨0,s,p,fs,Nat.zero_le _,rfl,ae.out,HS.out,ec.out,ed.out⟩
     case round=>
      clear ae HS ec ed;obtain⟨v3,rfl⟩:=ex wr;obtain⟨K,s,p,fs,q,rfl,hm,hs,ho,he⟩:=hrel;have H:=Hq hm;have HS:=Hq hs;have HO:=Hq ho;have HE:=Hq he;clear hm hs ho he
      by_cases ai:K<m.length
      ·have fu:(K:Int)<(m.length:Int):=by omega
       have ig:(0:Int)≤(K:Int):=(by omega);have ih:IntKind.i64.wrap ((K:Int)+1)=(K:Int)+1:=IntWalk.i64_in _ (by omega);obtain⟨g8,fw,e8,dy,cz,R⟩:=Mt H.out.ow (by omega)
       injection e8 with bk _ bm
       subst bk bm;obtain⟨g9,il,e9,cr,gg,ax⟩:=Mt H.out.oe.uN (by omega)
       injection e9 with e0 _ e3
       subst e0 e3;have V:=Hq (fun u (hu:Bw v3 u)=>show u.rangeAt g8 (K*2) [.int .i64 (m[K].pg:Int),.int .i64 (m[K].sl:Int)]from fun j v hv=>by
        obtain⟨b8,o8,e,_,P,hx⟩:=Cb Io R ai
        injection e with e
        injection e with e1 e2
        subst e1 e2;rw[hu.cell (p:=⟨g8,K*2+j,none⟩) P];have h9:=hx j v hv
        rwa[Nat.zero_add]at h9)
       have ee:=Hq (fun u (hu:Bw v3 u)=>show u.cell? ⟨g9,0+K,none⟩=some (.string m[K].r)from by
        obtain⟨b8,o8,e,_,P,hx⟩:=Cb Ur ax ai
        injection e with e
        injection e with e1 e2
        subst e1 e2;rw[hu.cell (p:=⟨g9,0+K,none⟩) P];have h9:=hx 0 _ rfl
        simpa using h9)
       have aj:=Hq (fun W (_hv:Fv W) (h:Am W s p fs)=>wU s p fs HS.out K ai W h);have dd:=Hq (iv.out m[K] (List.getElem_mem ai));obtain⟨z,hz⟩:=ex (m[K]);rw[← hz]at V ee aj dd;clear hz R ax;go_upto_region 48 with fail
       go_cut [26,27,28] (fun x y y2 wc=>∃ (g17:Nat) (C:Tx.St) (E:SP) (G:List Fr),x= .pointer (some ⟨g17,0,none⟩)∧y= .string z.r∧y2= .int .i64 0∧wc.heap[g17]? =some (.cells (Ak C E) 36 (0,0))∧Am wc C E G∧v3.heap.size≤g17∧Bw v3 wc∧Pp l.length m C G)
       case first=>
        have Z0:Bw v3 v3.drew:=(Below.refl _ v3).drew;refine Gs (S:=(fun u=>Bw v3 u)) (fun d=>?_);refine jD 0 (some 237) (v:=.agg (Ak s p)) rfl (yieldsIf_load_mid (by rfl) 36 (.tmp 3) rfl g3 0 (by rfl) (Ak s p).toList _ (fun u hu=>(by intro j v hj;rw[Nat.zero_add,Aa (Ag H.out.st hu)];simpa using hj)) Aq Kr Kr) ?_
        try simp only[Act.put,pS]
        refine Aw 1 ?_;refine Aw 2 ?_;refine Aw 3 ?_;refine jD 4 (some 241) (v:=.agg #[.int .i64 (z.pg:Int),.int .i64 (z.sl:Int)]) rfl (yieldsIf_load_mid (by rfl) 43 (.tmp 240) rfl g8 (K*2) (by rfl) [.int .i64 (z.pg:Int),.int .i64 (z.sl:Int)] _ (fun u hu=>V.out u hu) Od Kr Kr) ?_
        try simp only[Act.put,pS]
        refine wpAnyH_ready (rs:=[5,10]) Kr (by simp) ?_;refine(AllReadyH.cons (o:={dst:=some 242,op:=_,type:=_,pos:=_,after:=_,guard:=_}) rfl (fun K q=>?_) (AllReadyH.cons (o:={dst:=some 26,op:=_,type:=_,pos:=_,after:=_,guard:=_}) rfl (fun K q=>?_) AllReadyH.nil))
        ·
         go_simp
         refine(aj.out _ (HV.out _ (Af H.out.be Z0)) (H.out.pr.below Z0)).mono ?_;rintro e w5 ⟨C,E,G,rfl,I,N,D⟩;have Z2:=Af Z0 D;try clear hSn
         have hSn:=Z2;refine Ct q (fun d=>?_);clear q K;refine Aw 6 ?_;refine Aw 7 ?_;refine Aw 8 ?_;refine Aw 9 ?_;refine Cz 10 fun K q=>?_
         go_simp
         have X:=heap_alloc_new w5 (.cells #[(),(),(),'s',(),false,(),(),(),(),"",'s',(),'s',()] 36);have Z3:=Af Z2 (Ac w5 (.cells #[(),(),(),'s',(),false,(),(),(),(),"",'s',(),'s',()] 36));have bo:=I.below (Ac w5 (.cells #[(),(),(),'s',(),false,(),(),(),(),"",'s',(),'s',()] 36));clear hSn;have hSn:=Z3;refine Ct q (fun d=>?_);clear q K;refine Cz 11 fun K q=>?_;refine Bh (by rfl) ?_;refine sW (Ak C E) X ?_;have Z4:=Fu (g:=w5.heap.size) (by have:=Z2.size;omega) Z3 (Ak C E);have O:=setRow_heap _ _ _ (Ak C E) _ _ X;have af:=bo.other (t:=36) X (by decide) (by decide) (by decide) (Ak C E);have F:v3.heap.size≤w5.heap.size:=(by have:=Z2.size;omega);clear hSn;have hSn:=Z4;refine Ct q (fun d=>?_);clear q K;refine Aw 12 ?_;refine Aw 13 ?_;refine wpAnyH_done Kr ?_ _;clear d hSn;go_wp2_with fail;go_meet
         case rel=>exact⟨_,C,E,G,rfl,rfl,rfl,O,af,F,Z4,N⟩
        ·
         go_simp
         have Z1:=Af Z0 (Ac v3.drew (.cells #[(),(),(),'s',(),false,(),(),(),(),"",'s',(),'s',()] 36));have hSn:=Z1;refine Ct q (fun d=>?_);clear q K;refine Cz 5 fun K q=>?_
         go_simp
         refine(aj.out _ (HV.out _ (Af H.out.be Z1)) (H.out.pr.below Z1)).mono ?_;rintro e w5 ⟨C,E,G,rfl,I,N,D⟩;have Z2:=Af Z1 D;try clear hSn
         have hSn:=Z2;have X:=Bs D;refine Ct q (fun d=>?_);clear q K;refine Aw 6 ?_;refine Aw 7 ?_;refine Aw 8 ?_;refine Aw 9 ?_;refine Cz 11 fun K q=>?_;refine Bh (by rfl) ?_;refine sW (Ak C E) X ?_;have Z4:=Fu (g:=v3.drew.heap.size) (by show v3.heap.size≤v3.heap.size;omega) Z2 (Ak C E);have O:=setRow_heap _ _ _ (Ak C E) _ _ X;have af:=I.other (t:=36) X (by decide) (by decide) (by decide) (Ak C E);have F:v3.heap.size≤v3.drew.heap.size:=(by show v3.heap.size≤v3.heap.size;omega);clear hSn;have hSn:=Z4;refine Ct q (fun d=>?_);clear q K;refine Aw 12 ?_;refine Aw 13 ?_;refine wpAnyH_done Kr ?_ _;clear d hSn;go_wp2_with fail;go_meet
         case rel=>exact⟨_,C,E,G,rfl,rfl,rfl,O,af,F,Z4,N⟩
       case rest=>
        obtain⟨g17,C,E,G,rfl,rfl,rfl,a8,I,F,D,N⟩:=hcut;obtain⟨v4,rfl⟩:=ex wc;have aa:=Hq a8;have av:=Hq I;have U:=Hq (H.out.below D);have b5:=Hq N;have h3:=Hq (Bn HO.out D);have h4:=Hq (HE.out.below D);have da:g3<g17:=Nat.lt_of_lt_of_le (Bt H.out.st) F;have de:g8≠g3:=fun e=>by
         have h9:=H.out.ow;rw[e]at h9;exact Gj h9 H.out.st (by decide) rfl
        have df:g9≠g3:=fun e=>by
         have h9:=H.out.oe.own;rw[e]at h9;exact Gj h9 H.out.st (by decide) rfl
        have ef:=Hq (fun j v (hv:([.int .i64 (z.pg:Int),.int .i64 (z.sl:Int)]:List Value)[j]? =some v)=>show(v4.setRow g3 (Ak C E)).cell? ⟨g8,K*2+j,none⟩=some v from(by rw[Ki (V.out v4 D j v hv) U.out.st de]));have eg:=Hq (show(v4.setRow g3 (Ak C E)).cell? ⟨g9,0+K,none⟩=some (.string z.r)from(by rw[Ki (ee.out v4 D) U.out.st df]));clear a8 I N D F H HS V ee aj HO HE
        go_upto_region 50 with(first|with_reducible refine lL aa.out Aq ?_|with_reducible refine lS (Ak C E) U.out.st ?_)
        have M:=Hq (U.out.put az av.out);have eh:=Hq (Lr h3.out U.out.st (by decide) (cs':=Ak C E));have ei:=Hq (h4.out.other U.out.st (by decide) (Ak C E));generalize v4.setRow g3 (Ak C E)=v5 at M ef eg eh ei ⊢;clear U av aa h3 h4 de df
        try simp only[Act.put]
        have h6:=eg.out;rw[Nat.zero_add]at h6;have ix:(z.r.toList==z.r.toList)=true:=beq_self_eq_true _;go_wp2_with fail;clear h6 ix
        go_loopw [29,30] (fun x y wq=>∃ (k:Nat) (f:Bool),k≤L.length∧x= .bool f∧y= .int .i64 (k:Int)∧(∀ j (hj:j<L.length),j<k→L[j]=z→f=true)∧Bw v5 wq) (fun _ y _=>L.length-(intOf y).toNat)
        case atStart=>exact⟨0,false,Nat.zero_le _,rfl,rfl,fun j _ hj=>absurd hj (by omega),Below.refl _ _⟩
        case round=>
         obtain⟨v6,rfl⟩:=ex wr;obtain⟨k,f,hk,rfl,rfl,hf,ah⟩:=hrel;have HF:=Hq hf;have a6:=Hq ah;clear hf ah;have bx:=HL.out
         by_cases bg:k<L.length
         ·have dw:(k:Int)<(m.length:Int):=by omega
          have ia:(0:Int)≤(k:Int):=(by omega);have ib:IntKind.i64.wrap ((k:Int)+1)=(k:Int)+1:=IntWalk.i64_in _ (by omega);obtain⟨b1,o1,e1,-,T,ej⟩:=Cb (c:=c1) (A:=A1) Io (by have h9:=C5 eh.out;rwa[← bx]at h9) bg;obtain⟨b2,o2,e2,-,Y,h7⟩:=Cb (c:=c2) (A:=A2) Ur (by have h8:=ei.out.uN;unfold D7 at h8;rw[bx]at h8;have h9:=C5 h8;rwa[← bx]at h9) bg;subst e1 e2;have x0:v6.cell? ⟨b1,o1+k*2,none⟩=some (.int .i64 (L[k].pg:Int)):=(by rw[a6.out.cell (p:=⟨b1,o1+k*2,none⟩) T];have:=ej 0 _ rfl;simpa using this);have x1:v6.cell? ⟨b1,o1+k*2+1,none⟩=some (.int .i64 (L[k].sl:Int)):=(by rw[a6.out.cell (p:=⟨b1,o1+k*2+1,none⟩) T];exact ej 1 _ rfl);have x2:v6.cell? ⟨b2,o2+k,none⟩=some (.string L[k].r):=(by rw[a6.out.cell (p:=⟨b2,o2+k,none⟩) Y];have:=h7 0 _ rfl;simpa using this);have y0:v6.cell? ⟨g8,K*2,none⟩=some (.int .i64 (z.pg:Int)):=(by rw[a6.out.cell (p:=⟨g8,K*2,none⟩) (Om M.out.ow)];have:=ef.out 0 _ rfl;simpa using this);have y1:v6.cell? ⟨g8,K*2+1,none⟩=some (.int .i64 (z.sl:Int)):=(by rw[a6.out.cell (p:=⟨g8,K*2+1,none⟩) (Om M.out.ow)];have:=ef.out 1 _ rfl;simpa using this);have y2:v6.cell? ⟨g9,K,none⟩=some (.string z.r):=(by rw[a6.out.cell (p:=⟨g9,K,none⟩) (Om M.out.oe.uN)];have:=eg.out;simpa using this);have X:=Hq (fun(f2:Bool) (h:f=true→f2=true) (h2:L[k]=z→f2=true) (j:Nat) (hj:j<L.length) (ji:j<k+1) (he:L[j]=z)=>show f2=true from by
           by_cases e:j=k
           ·subst e;exact h2 he
           ·exact h (HF.out j hj (by omega) he))
          generalize L[k]=y at x0 x1 x2 X;clear ej h7 T Y bx;go_upto_region 56 with fail
          cases f with
          |true=>
           go_quiet (fail)
           go_wp2_with fail;go_roundw
           case rel=>exact⟨k+1,true,by omega,rfl,by go_num,X.out true (fun _=>rfl) (fun _=>rfl),Af a6.out (Ei _ _)⟩
           case measure=>simp[intOf];omega
          |false=>
           have bh:=fun W=>Qn (y.pg:Int) (y.sl:Int) (z.pg:Int) (z.sl:Int) W
           by_cases ha:y.pg=z.pg∧y.sl=z.sl
           ·rw[decide_eq_true (show(y.pg:Int)=(z.pg:Int)∧(y.sl:Int)=(z.sl:Int)from⟨by omega,by omega⟩)]at bh
            by_cases hr:y.r=z.r
            ·have iy:(y.r.toList==z.r.toList)=true:=by rw[hr];exact beq_self_eq_true _
             go_quiet (fail)
             go_wp2_with fail;go_roundw
             case rel=>exact⟨k+1,true,by omega,rfl,by go_num,X.out true (fun _=>rfl) (fun _=>rfl),Af a6.out (Ei _ _)⟩
             case measure=>simp[intOf];omega
            ·have iy:=Gd hr
             go_quiet (fail)
             go_wp2_with fail;go_roundw
             case rel=>exact⟨k+1,false,by omega,rfl,by go_num,X.out false (fun h=>h) (fun h=>absurd (by rw[h]) hr),Af a6.out (Ei _ _)⟩
             case measure=>simp[intOf];omega
           ·rw[decide_eq_false (show ¬ ((y.pg:Int)=(z.pg:Int)∧(y.sl:Int)=(z.sl:Int))from fun h=>ha ⟨by omega,by omega⟩)]at bh
            go_quiet (fail)
            go_wp2_with fail;go_roundw
            case rel=>exact⟨k+1,false,by omega,rfl,by go_num,X.out false (fun h=>h) (fun h=>absurd (by rw[h];exact⟨rfl,rfl⟩) ha),Af a6.out (Ei _ _)⟩
            case measure=>simp[intOf];omega
         ·obtain rfl:k=L.length:=by omega
          have dw:¬ (L.length:Int)<(m.length:Int):=(by omega);obtain⟨j,hj,iz⟩:=List.getElem_of_mem dd.out;obtain rfl:=HF.out j hj hj iz;clear bx;go_wp2_with fail;go_roundw
          case rel=>exact⟨K+1,C,E,G,by omega,by go_num,M.out.below a6.out,b5.out,Bn eh.out a6.out,ei.out.below a6.out⟩
          case measure=>simp[intOf];omega
      ·obtain rfl:K=m.length:=by omega
       have fu:¬ (m.length:Int)<(m.length:Int):=(by omega);go_wp2_with fail;exact HT.out _ H.out.be
end Go.Proofs.YtpogpkonojhakaaGreatDoor
