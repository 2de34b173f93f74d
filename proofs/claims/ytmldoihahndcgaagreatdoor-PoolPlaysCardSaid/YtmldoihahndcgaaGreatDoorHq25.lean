import Derived.Test.YtmldoihahndcgaaGreatDoorHq00
import Derived.Test.YtmldoihahndcgaaGreatDoorHq24
import Derived.Test.YtmldoihahndcgaaGreatDoorHq17
set_option maxRecDepth 100000
set_option maxHeartbeats 16000000
set_option linter.unusedSimpArgs false
namespace Go.Proofs.YtmldoihahndcgaaGreatDoor
open Go.RowKit Sc
theorem poolplays_any (z:Int)(hz: -9223372036854775808≤z∧z≤9223372036854775807)(l:List D1)(A:Option Addr)(c:Nat)(bf:∀ a∈l,(a.o.new.size≤140737488355328∧a.n≤9223372036854775807)∧a.p.r.op.new.size≤140737488355328)(er:l.length≤140737488355328)(w:World)(hv:Gf w)(hr:Reads w A c l.length (l.flatMap sV)):
 Cr 7 #[z,.slice A l.length c] w (.bool true):=by
 have bg:=Hq (fun W=>dE W)
 by_cases cn:40<l.length
 ·have e4:(40:Int)<(l.length:Int):=by omega
  clear hr bf hv;go_enter Tryz.func7,Tryz.ntmps7;go_upto_region 2 with fail
  go_wp2_with(go_at_call 42;refine(bg.out _).mono ?_;rintro e w1 ⟨rfl,aw⟩)
  go_ret;exact⟨rfl,aw⟩
 ·have e4:¬ (40:Int)<(l.length:Int):=by omega
  have cp:=Hq (fun W=>U8 z hz W);have bh:=Hq (fun(k:Nat) (hk:1≤k∧k≤5) W=>Te 700 8 k (by omega) (by omega) W);have R:=Hq (fun(k:Nat) (hk:1≤k∧k≤5)=>Zd (N:=700) (n:=8) (k:=k) (by omega) (by omega) (by omega));generalize Bu 700 8=SB at bh R;obtain⟨np,ez,bj,bk⟩:=pC z;unfold pB at bj bk;have cq:=Hq bj;have cr:=Hq bk;clear bj bk;have HR:=Hq (fun W (F:Bw w W)=>hr.below F);have e5:=Hq bf;have HV:=Hq (fun W (F:Bw w W)=>hv.below F);have HT:=Hq (fun w' (F:Bw w w')=>show(fun(e:Ending) (w':World)=>e= .returned (.bool true)∧Bw w w') (.returned (.bool true)) w' from⟨rfl,F⟩);unfold Cr;generalize (fun(e:Ending) (w':World)=>e= .returned (.bool true)∧Bw w w')=Q at HT ⊢;clear hr bf hv cn;go_enter Tryz.func7,Tryz.ntmps7
  go_upto_region 4 with(first
   |(go_at_call 42;refine(bg.out _).mono ?_;rintro e w1 ⟨rfl,aw⟩)
   |(go_at_call 43;refine(cq.out _).mono ?_;rintro e w2 ⟨F1,c1,rfl,ct⟩)
   |with_reducible refine sN #[.slice F1 np c1,()] ?_)
  have bl:=Hq (Ae aw (Ae ct (Ad w2 (.cells #[.slice F1 np c1,()] 33))));have bm:=Hq (heap_alloc_new w2 (.cells #[.slice F1 np c1,()] 33));obtain⟨g5,bn⟩:=ex w2.heap.size;obtain⟨w3,ax⟩:=ex (w2.alloc (.cells #[.slice F1 np c1,()] 33));rw[← bn,← ax]at bm;rw[← ax]at bl;rw[← ax,← bn];clear ax bn aw ct bg cq
  try simp only[Act.put]
  go_upto_region 5 with(first
   |(go_at_call 44;refine(cr.out _).mono ?_;rintro e w4 ⟨F2,c2,rfl,ak⟩)
   |with_reducible refine sN #[.slice F2 np c2,()] ?_)
  have G:=ak.trans ((Ad w4 (.cells #[.slice F2 np c2,()] 33)).mono ak.size);have ay:=Hq (Ae bl.out G);have bo:=Hq (Ac bm.out G);have bp:=Hq (heap_alloc_new w4 (.cells #[.slice F2 np c2,()] 33));obtain⟨g7,bq⟩:=ex w4.heap.size;obtain⟨Y,az⟩:=ex (w4.alloc (.cells #[.slice F2 np c2,()] 33));rw[← bq,← az]at bp;rw[← az]at ay bo;rw[← az,← bq];clear az bq ak G bm bl cr
  try simp only[Act.put]
  have e6:=show Y.cell? ⟨g5,0,none⟩=some (.slice F1 np c1)from(by rw[Aa bo.out];rfl);have e7:=show Y.cell? ⟨g7,0,none⟩=some (.slice F2 np c2)from(by rw[Aa bp.out];rfl);go_upto_region 7 with fail;clear e6 e7 bo bp
  go_upto_region 8 with(first
   |(go_at_call 46;refine(cp.out _).mono ?_;rintro e w6 ⟨fk,br,-,rfl,b0⟩)
   |(go_at_call 45;refine(bh.out fk br _).mono ?_;rintro e w7 ⟨q,rfl,J,a1⟩)
   |with_reducible refine sN (Ai (SB fk) q) ?_)
  have ag:=b0.trans ((a1.trans ((Ad w7 (.cells (Ai (SB fk) q) 36)).mono a1.size)).mono b0.size);have al:=Hq (Ae ay.out ag);have T:=Hq (heap_alloc_new w7 (.cells (Ai (SB fk) q) 36));have an:=Hq (J.below (Ad w7 (.cells (Ai (SB fk) q) 36)));have b9:w.heap.size≤w7.heap.size:=Nat.le_trans ay.out.size (Nat.le_trans b0.size a1.size);obtain⟨g9,a6⟩:=ex w7.heap.size;obtain⟨w8,b1⟩:=ex (w7.alloc (.cells (Ai (SB fk) q) 36));rw[← a6,← b1]at T;rw[← b1]at an al;rw[← b1,← a6];rw[← a6]at b9;clear b1 a6 b0 a1 ag J cp bh ay;have ad:=Hq (R.out fk br);generalize SB fk=s0 at T an ad ⊢;generalize Eh fk=fs0 at an ad;clear R br
  try simp only[Act.put]
  go_upto_region 9 with(first|with_reducible refine lL T.out Ak ?_|with_reducible refine sN (Ai s0 q) ?_)
  have L:=Ad w8 (.cells (Ai s0 q) 36);have bs:=Hq (Ae al.out L);have bt:=Hq (Ac T.out L);have bu:=Hq (heap_alloc_new w8 (.cells (Ai s0 q) 36));have b2:=Hq (an.out.below L);have ba:g9<w8.heap.size:=C0 T.out;obtain⟨g10,ae⟩:=ex w8.heap.size;obtain⟨w9,b3⟩:=ex (w8.alloc (.cells (Ai s0 q) 36));rw[← ae,← b3]at bu;rw[← b3]at bs bt b2;rw[← b3,← ae];rw[← ae]at ba;clear b3 ae L al T an
  try simp only[Act.put]
  go_wp2_with fail
  go_loopw [11] (fun i H=>∃ (k:Nat) (s:Tx.St) (p p':SP) (fs:List Fr),k≤l.length∧i= .int .i64 (k:Int)∧H.heap[g9]? =some (.cells (Ai s p) 36 (0,0))∧H.heap[g10]? =some (.cells (Ai s p') 36 (0,0))∧An H s p fs∧An H s p' fs∧Wf 700 8 k s fs∧Bw w H) (fun i _=>l.length-(intOf i).toNat)
  case atStart=>exact⟨0,s0,q,q,fs0,Nat.zero_le _,rfl,bt.out,bu.out,b2.out,b2.out,ad.out,bs.out⟩
  case round=>
   obtain⟨H,rfl⟩:=ex wr;obtain⟨k,s,p,p2,fs,hk,rfl,hs,hx,hp,cu,cv,F⟩:=hrel;have HS:=Hq hs;have HX:=Hq hx;have HP:=Hq hp;have cw:=Hq cu;have R:=Hq cv;have HB:=Hq F;clear hs hx hp cu cv F bt bu b2 ad bs;have et:(0:Int)≤(k:Int):=by omega
   by_cases cx:k<l.length
   ·have e8:(k:Int)<(l.length:Int):=by omega
    have eu:IntKind.i64.wrap ((k:Int)+1)=(k:Int)+1:=IntWalk.i64_in _ (by omega);obtain⟨b,off,ao,e9,cy,a7⟩:=Bi fK (HR.out w (Below.refl _ _)) cx;obtain⟨a,ha⟩:=ex (l[k]);have ah:=e5.out a (by rw[ha];exact List.getElem_mem cx);rw[← ha]at a7;have m:=Hq (fun u (M:Bw w u)=>show u.rangeAt b (off+k*25) (sV a)from fun i v hv=>by rw[M.cell (p:=⟨b,off+k*25+i,none⟩) cy];exact a7 i v hv);rw[ao];clear a7 e9 cy ao ha;have b4:=Hq (fun W (F:Bw H W)=>dT s p fs R.out (by omega) a ah.1.1 ah.2 W (HV.out W (Ae HB.out F)) (HP.out.below F));have bw:=Hq (fun W (F:Bw H W)=>aF s p2 fs R.out (by omega) (by omega) a ah.1.1 ah.2 W (HV.out W (Ae HB.out F)) (cw.out.below F));have HK:=Hq (R.out.act a ah.1.2);clear ah;generalize Ks s fs a=X at b4 bw HK;obtain⟨⟨xs,xfs,xe⟩,xb⟩:=X;go_upto_region 12 with fail
    go_cut [12,13,14] (fun x y z wc=>∃ (g12:Nat) (D:SP),x= .pointer (some ⟨g12,0,none⟩)∧y= .string xb∧z= .int .i64 xe∧wc.heap[g12]? =some (.cells (Ai xs D) 36 (0,0))∧An wc xs D xfs∧H.heap.size≤g12∧Bw H wc)
    case first=>
     have Z0:Bw H H.drew:=(Below.refl _ H).drew;refine E4 (S:=(fun u=>Bw H u)) (fun f=>?_);refine Kt 0 (some 63) (v:=.agg (Ai s p)) rfl (yieldsIf_load_mid (by rfl) 36 (.tmp 9) rfl g9 0 (by rfl) (Ai s p).toList _ (fun u M=>(by intro j v Z;rw[Nat.zero_add,Aa (Ac HS.out M)];simpa using Z)) Ak Kr Kr) ?_
     try simp only[Act.put,pS]
     refine Au 1 ?_;refine Au 2 ?_;refine Au 3 ?_;refine Kt 4 (some 67) (v:=.agg (F5 a)) rfl (yieldsIf_load_mid (by rfl) 90 (.tmp 66) rfl b (off+k*25) (by rfl) (sV a) _ (fun u M=>m.out u (Ae HB.out M)) rU Kr Kr) ?_
     try simp only[Act.put,pS]
     refine wpAnyH_ready (rs:=[5,10]) Kr (by simp) ?_;refine(AllReadyH.cons (o:={dst:=some 68,op:=_,type:=_,pos:=_,after:=_,guard:=_}) rfl (fun K h=>?_) (AllReadyH.cons (o:={dst:=some 12,op:=_,type:=_,pos:=_,after:=_,guard:=_}) rfl (fun K h=>?_) AllReadyH.nil))
     ·
      go_simp
      refine(b4.out _ Z0).mono ?_;rintro e Y ⟨D,rfl,a8,G⟩;have Z2:=Ae Z0 G;try clear hSn
      have hSn:=Z2;refine Bl h (fun f=>?_);clear h K;refine Au 6 ?_;refine Au 7 ?_;refine Au 8 ?_;refine Au 9 ?_;refine Bx 10 fun K h=>?_
      go_simp
      have HG:=heap_alloc_new Y (.cells Zq9 36);have Z3:=Ae Z2 (Ad Y (.cells Zq9 36));have bx:=a8.below (Ad Y (.cells Zq9 36));clear hSn;have hSn:=Z3;refine Bl h (fun f=>?_);clear h K;refine Bx 11 fun K h=>?_;refine Az (by rfl) ?_;refine sW (Ai xs D) HG ?_;have Z4:=Fj (g:=Y.heap.size) (by have:=Z2.size;omega) Z3 (Ai xs D);have aa:=setRow_heap _ _ _ (Ai xs D) _ _ HG;have J:=bx.other (t:=36) HG (by decide) (by decide) (by decide) (Ai xs D);have I:H.heap.size≤Y.heap.size:=(by have:=Z2.size;omega);clear hSn;have hSn:=Z4;refine Bl h (fun f=>?_);clear h K;refine Au 12 ?_;refine Au 13 ?_;refine wpAnyH_done Kr ?_ _;clear f hSn;go_wp2_with fail;go_meet
      case rel=>exact⟨_,D,rfl,rfl,rfl,aa,J,I,Z4⟩
     ·
      go_simp
      have Z1:=Ae Z0 (Ad H.drew (.cells Zq9 36));have hSn:=Z1;refine Bl h (fun f=>?_);clear h K;refine Bx 5 fun K h=>?_
      go_simp
      refine(b4.out _ Z1).mono ?_;rintro e Y ⟨D,rfl,a8,G⟩;have Z2:=Ae Z1 G;try clear hSn
      have hSn:=Z2;have HG:=Cb G;refine Bl h (fun f=>?_);clear h K;refine Au 6 ?_;refine Au 7 ?_;refine Au 8 ?_;refine Au 9 ?_;refine Bx 11 fun K h=>?_;refine Az (by rfl) ?_;refine sW (Ai xs D) HG ?_;have Z4:=Fj (g:=H.drew.heap.size) (by show H.heap.size≤H.heap.size;omega) Z2 (Ai xs D);have aa:=setRow_heap _ _ _ (Ai xs D) _ _ HG;have J:=a8.other (t:=36) HG (by decide) (by decide) (by decide) (Ai xs D);have I:H.heap.size≤H.drew.heap.size:=(by show H.heap.size≤H.heap.size;omega);clear hSn;have hSn:=Z4;refine Bl h (fun f=>?_);clear h K;refine Au 12 ?_;refine Au 13 ?_;refine wpAnyH_done Kr ?_ _;clear f hSn;go_wp2_with fail;go_meet
      case rel=>exact⟨_,D,rfl,rfl,rfl,aa,J,I,Z4⟩
    case rest=>
     obtain⟨g12,D,rfl,rfl,rfl,a6,cz,I,L⟩:=hcut;obtain⟨v0,rfl⟩:=ex wc;have bz:=Hq a6;have da:=Hq cz;have db:=Hq L;have dc:=Hq (Ac HS.out L);have c6:=Hq (Ac HX.out L);have c7:=Hq (Ae HB.out L);have c8:=Hq (fun W (F:Bw v0 W)=>bw.out W (Ae db.out F));have dd:g9<g12:=Nat.lt_of_lt_of_le (C0 HS.out) I;have ca:g10<g12:=Nat.lt_of_lt_of_le (C0 HX.out) I;clear a6 cz L I b4 bw HS HX HP cw HB R;go_upto_region 13 with fail
     go_cut [15,16,17] (fun x y z wc=>∃ (g15:Nat) (E:SP),x= .pointer (some ⟨g15,0,none⟩)∧y= .string xb∧z= .int .i64 xe∧wc.heap[g15]? =some (.cells (Ai xs E) 36 (0,0))∧An wc xs E xfs∧v0.heap.size≤g15∧Bw v0 wc)
     case first=>
      have Z0:Bw v0 v0.drew:=(Below.refl _ v0).drew;refine E4 (S:=(fun u=>Bw v0 u)) (fun f=>?_);refine Kt 0 (some 73) (v:=.agg (Ai s p2)) rfl (yieldsIf_load_mid (by rfl) 36 (.tmp 10) rfl g10 0 (by rfl) (Ai s p2).toList _ (fun u M=>(by intro j v Z;rw[Nat.zero_add,Aa (Ac c6.out M)];simpa using Z)) Ak Kr Kr) ?_
      try simp only[Act.put,pS]
      refine Au 1 ?_;refine Au 2 ?_;refine Au 3 ?_;refine Kt 4 (some 77) (v:=.agg (F5 a)) rfl (yieldsIf_load_mid (by rfl) 90 (.tmp 76) rfl b (off+k*25) (by rfl) (sV a) _ (fun u M=>m.out u (Ae c7.out M)) rU Kr Kr) ?_
      try simp only[Act.put,pS]
      refine wpAnyH_ready (rs:=[5,10]) Kr (by simp) ?_;refine(AllReadyH.cons (o:={dst:=some 78,op:=_,type:=_,pos:=_,after:=_,guard:=_}) rfl (fun K h=>?_) (AllReadyH.cons (o:={dst:=some 15,op:=_,type:=_,pos:=_,after:=_,guard:=_}) rfl (fun K h=>?_) AllReadyH.nil))
      ·
       go_simp
       refine(c8.out _ Z0).mono ?_;rintro e Y ⟨E,rfl,a8,G⟩;have Z2:=Ae Z0 G;try clear hSn
       have hSn:=Z2;refine Bl h (fun f=>?_);clear h K;refine Au 6 ?_;refine Au 7 ?_;refine Au 8 ?_;refine Au 9 ?_;refine Bx 10 fun K h=>?_
       go_simp
       have HG:=heap_alloc_new Y (.cells Zq9 36);have Z3:=Ae Z2 (Ad Y (.cells Zq9 36));have bx:=a8.below (Ad Y (.cells Zq9 36));clear hSn;have hSn:=Z3;refine Bl h (fun f=>?_);clear h K;refine Bx 11 fun K h=>?_;refine Az (by rfl) ?_;refine sW (Ai xs E) HG ?_;have Z4:=Fj (g:=Y.heap.size) (by have:=Z2.size;omega) Z3 (Ai xs E);have aa:=setRow_heap _ _ _ (Ai xs E) _ _ HG;have J:=bx.other (t:=36) HG (by decide) (by decide) (by decide) (Ai xs E);have I:v0.heap.size≤Y.heap.size:=(by have:=Z2.size;omega);clear hSn;have hSn:=Z4;refine Bl h (fun f=>?_);clear h K;refine Au 12 ?_;refine Au 13 ?_;refine wpAnyH_done Kr ?_ _;clear f hSn;go_wp2_with fail;go_meet
       case rel=>exact⟨_,E,rfl,rfl,rfl,aa,J,I,Z4⟩
      ·
       go_simp
       have Z1:=Ae Z0 (Ad v0.drew (.cells Zq9 36));have hSn:=Z1;refine Bl h (fun f=>?_);clear h K;refine Bx 5 fun K h=>?_
       go_simp
       refine(c8.out _ Z1).mono ?_;rintro e Y ⟨E,rfl,a8,G⟩;have Z2:=Ae Z1 G;try clear hSn
       have hSn:=Z2;have HG:=Cb G;refine Bl h (fun f=>?_);clear h K;refine Au 6 ?_;refine Au 7 ?_;refine Au 8 ?_;refine Au 9 ?_;refine Bx 11 fun K h=>?_;refine Az (by rfl) ?_;refine sW (Ai xs E) HG ?_;have Z4:=Fj (g:=v0.drew.heap.size) (by show v0.heap.size≤v0.heap.size;omega) Z2 (Ai xs E);have aa:=setRow_heap _ _ _ (Ai xs E) _ _ HG;have J:=a8.other (t:=36) HG (by decide) (by decide) (by decide) (Ai xs E);have I:v0.heap.size≤v0.drew.heap.size:=(by show v0.heap.size≤v0.heap.size;omega);clear hSn;have hSn:=Z4;refine Bl h (fun f=>?_);clear h K;refine Au 12 ?_;refine Au 13 ?_;refine wpAnyH_done Kr ?_ _;clear f hSn;go_wp2_with fail;go_meet
       case rel=>exact⟨_,E,rfl,rfl,rfl,aa,J,I,Z4⟩
     case rest=>
      obtain⟨g15,E,rfl,rfl,rfl,bb,bc,bd,P⟩:=hcut;have cb:=Hq (show g9<g12∧g10<g12∧g12<g15∧g9<g10∧w.heap.size≤g9 from⟨dd,ca,Nat.lt_of_lt_of_le (C0 bz.out) bd,ba,b9⟩);obtain⟨v1,rfl⟩:=ex wc;have aq:=Hq (Ac bz.out P);have ar:=Hq bb;have U:=Hq (da.out.below P);have V:=Hq bc;have de:=Hq (Ac dc.out P);have df:=Hq (Ac c6.out P);have B:=Hq (Ae c7.out P);clear bb bc bd P bz da db dc c6 c7 c8;have au:Wf 700 8 (k+1) xs xfs:=HK.out;have b5:=au.nf;have dh:=au.tl;have di:=Hq (fun W (F:Bw v1 W)=>aD xs D E xfs (by omega) dh W (U.out.below F) (V.out.below F));have cc:=Hq (fun W (F:Bw v1 W)=>vY xs D xfs (by omega) a.page W (U.out.below F));have cd:=Hq (fun W (F:Bw v1 W)=>Kq xs E xfs HK.out a.page W (V.out.below F));generalize Rk xfs a.page=ai at cc cd;go_upto_region 14 with fail;have hSn:Bw v1 v1.drew:=(Below.refl _ v1).drew;refine E4 (S:=(fun u=>Bw v1 u)) (fun f=>?_);generalize v1.drew=v9 at hSn ⊢;refine Au 0 ?_;refine Au 1 ?_;refine Au 2 ?_;refine Au 3 ?_;refine Au 4 ?_;refine Au 5 ?_;refine Au 6 ?_;refine Au 7 ?_;refine Au 8 ?_;refine Kt 9 (some 91) (v:=.agg (Ai xs D)) rfl (yieldsIf_load_mid (by rfl) 36 (.tmp 12) rfl g12 0 (by rfl) (Ai xs D).toList _ (fun u M=>(by intro j y Z;rw[Nat.zero_add,Aa (Ac aq.out M)];simpa using Z)) Ak Kr Kr) ?_
      try simp only[Act.put,pS]
      refine Kt 10 (some 92) (v:=.agg (Ai xs E)) rfl (yieldsIf_load_mid (by rfl) 36 (.tmp 15) rfl g15 0 (by rfl) (Ai xs E).toList _ (fun u M=>(by intro j y Z;rw[Nat.zero_add,Aa (Ac ar.out M)];simpa using Z)) Ak Kr Kr) ?_
      try simp only[Act.put,pS]
      refine Bx 11 fun K h=>?_
      go_simp
      (refine(di.out _ hSn).mono ?_);rintro e v3 ⟨rfl,ea⟩;have C:=Ae hSn ea;clear hSn;have hSn:=C;clear C
      refine Bl h (fun f=>?_);clear h K;refine Au 12 ?_;refine Au 13 ?_;refine Au 14 ?_;refine Kt 15 (some 97) (v:=.agg (Ai xs D)) rfl (yieldsIf_load_mid (by rfl) 36 (.tmp 12) rfl g12 0 (by rfl) (Ai xs D).toList _ (fun u M=>(by intro j y Z;rw[Nat.zero_add,Aa (Ac aq.out M)];simpa using Z)) Ak Kr Kr) ?_
      try simp only[Act.put,pS]
      refine Au 16 ?_;refine Au 17 ?_;refine Au 18 ?_;refine Au 19 ?_;refine Au 20 ?_ (hy:=by intro u d;have hcl0:=m.out u (Ae B.out d) 1 _ rfl;clear d;go_simp;(try with_reducible rfl));refine Kt 22 (some 104) (v:=.agg (Ai xs E)) rfl (yieldsIf_load_mid (by rfl) 36 (.tmp 15) rfl g15 0 (by rfl) (Ai xs E).toList _ (fun u M=>(by intro j y Z;rw[Nat.zero_add,Aa (Ac ar.out M)];simpa using Z)) Ak Kr Kr) ?_
      try simp only[Act.put,pS]
      refine Au 23 ?_;refine Au 24 ?_;refine Au 25 ?_;refine Au 26 ?_;refine Au 27 ?_ (hy:=by intro u d;have hcl0:=m.out u (Ae B.out d) 1 _ rfl;clear d;go_simp;(try with_reducible rfl));refine Bx 21 fun K h=>?_
      go_simp
      (refine(cc.out _ hSn).mono ?_);rintro e v4 ⟨rfl,ak⟩;have C:=Ae hSn ak;clear hSn;have hSn:=C;clear C
      refine Bl h (fun f=>?_);clear h K;refine Bx 28 fun K h=>?_
      go_simp
      (refine(cd.out _ hSn).mono ?_);rintro e v5 ⟨rfl,G⟩;have C:=Ae hSn G;clear hSn;have hSn:=C;clear C
      refine Bl h (fun f=>?_);clear h K;refine Au 29 ?_;refine Au 30 ?_;refine wpAnyH_done Kr ?_ _;clear f
      try simp only[Act.put]
      have b6:=Hq (fun W (F:Bw v1 W)=>Ql xs D xfs au.ds b5.2 W (U.out.below F));have b7:=Hq (fun W (F:Bw v1 W)=>Qu xs E xfs au.ds b5.2 W (V.out.below F));have eb:=Nat.le_trans (sI xfs) b5.2;clear au dh b5 di cc cd;unfold Za at b6 b7;generalize K4 xfs=dl at b6 b7 eb;clear f;go_upto_region 16 with fail;obtain⟨v6,rfl⟩:=ex v5;have C:=hSn.drew;clear hSn;have hSn:=C;clear C;refine E4 (S:=(fun u=>Bw v1 u)) (fun f=>?_);generalize v6.drew=v66 at hSn ⊢;refine Kt 0 (some 113) (v:=.agg (Ai xs D)) rfl (yieldsIf_load_mid (by rfl) 36 (.tmp 12) rfl g12 0 (by rfl) (Ai xs D).toList _ (fun u M=>(by intro j v Z;rw[Nat.zero_add,Aa (Ac aq.out M)];simpa using Z)) Ak Kr Kr) ?_
      try simp only[Act.put,pS]
      refine Kt 2 (some 115) (v:=.agg (Ai xs E)) rfl (yieldsIf_load_mid (by rfl) 36 (.tmp 15) rfl g15 0 (by rfl) (Ai xs E).toList _ (fun u M=>(by intro j v Z;rw[Nat.zero_add,Aa (Ac ar.out M)];simpa using Z)) Ak Kr Kr) ?_
      try simp only[Act.put,pS]
      refine Bx 1 fun K h=>?_
      go_simp
      (refine(b6.out _ hSn).mono ?_);rintro e v7 ⟨A1,c1,rfl,b8,ec,a1⟩;have C:=Ae hSn a1;clear hSn;have hSn:=C;clear C
      refine Bl h (fun f=>?_);clear h K;refine Bx 3 fun K h=>?_
      go_simp
      (refine(b7.out _ hSn).mono ?_);rintro e v8 ⟨A2,c2,rfl,dk,ed,ag⟩;have C:=Ae hSn ag;clear hSn;have hSn:=C;clear C
      refine Bl h (fun f=>?_);clear h K;refine Au 4 ?_;refine Au 5 ?_;refine wpAnyH_done Kr ?_ _;clear f
      try simp only[Act.put]
      have b8:=b8.below ag;have ee:=Hq (fun W (F:Bw v8 W)=>b8.below F);have ef:=Hq (fun W (F:Bw v8 W)=>dk.below F);have eg:=Hq (Ac aq.out hSn);have eh:=Hq (Ac ar.out hSn);have dm:=Hq (U.out.below hSn);have dn:=Hq (V.out.below hSn);have T:=Hq (Ac de.out hSn);have ei:=Hq (Ac df.out hSn);have al:=Hq (Ae B.out hSn);clear b8 dk ec ed a1 ag hSn aq ar U V de df B b6 b7 m;go_wp2_with fail
      go_loopw [20] (fun i wt=>∃ (j:Nat),j≤dl.length∧i= .int .i64 (j:Int)∧Bw v8 wt) (fun i _=>dl.length-(intOf i).toNat)
      case atStart=>exact⟨0,Nat.zero_le _,rfl,Below.refl _ _⟩
      case round=>
       obtain⟨v9,rfl⟩:=ex wr;obtain⟨j,Z,rfl,dq⟩:=hrel;have O:=Hq dq;clear dq;have ev:(0:Int)≤(j:Int):=by omega
       by_cases dt:j<dl.length
       ·have ej:(j:Int)<(dl.length:Int):=by omega
        have ew:IntKind.i64.wrap ((j:Int)+1)=(j:Int)+1:=IntWalk.i64_in _ (by omega);obtain⟨bA,oA,ao,ek,en,cf⟩:=Bi Jx (ee.out _ O.out) dt;obtain⟨bB,oB,du,eo,ep,cg⟩:=Bi Jx (ef.out _ O.out) dt;rw[ao,du];have y0:=cf 0 _ rfl;have y1:=cf 1 _ rfl;have z0:=cg 0 _ rfl;have z1:=cg 1 _ rfl;simp only[Nat.add_zero]at y0 z0;clear cf cg ek eo en ep ao du;generalize dl[j]=dj at y0 y1 z0 z1;obtain⟨dp,dr⟩:=dj;simp only at y0 y1 z0 z1;have ey:=fun W=>uM dp dr W;go_upto_region 22 with fail
        go_quiet (fail)
        go_wp2_with fail;go_roundw
        case rel=>exact⟨j+1,by omega,by go_num,Ae O.out (C5 _ _)⟩
        case measure=>simp[intOf];omega
       ·obtain rfl:j=dl.length:=by omega
        have ej:¬ (dl.length:Int)<(dl.length:Int):=(by omega);have aj:g9≠g12∧g9≠g15∧g10≠g12∧g10≠g15∧g9≠g10:=by
         have:=cb.out;omega
        go_upto_region 24 with fail;have hSn:v9.drew.heap[g12]? =some (.cells (Ai xs D) 36 (0,0))∧v9.drew.heap[g15]? =some (.cells (Ai xs E) 36 (0,0)):=⟨Ac eg.out O.out.drew,Ac eh.out O.out.drew⟩;have av:=show v9.drew.heap[g9]? =some (.cells (Ai s p) 36 (0,0))from Ac T.out O.out.drew;have dv:=show v9.drew.heap[g10]? =some (.cells (Ai s p2) 36 (0,0))from Ac ei.out O.out.drew;have dw:=dm.out.below O.out.drew;have dx:=dn.out.below O.out.drew;have dy:=(Ae al.out O.out).drew;refine E4 (S:=(fun u=>u.heap[g12]? =some (.cells (Ai xs D) 36 (0,0))∧u.heap[g15]? =some (.cells (Ai xs E) 36 (0,0)))) (fun f=>?_);generalize v9.drew=v10 at hSn av dv dw dx dy ⊢;refine Q3 0 Ak ?_;refine Q3 1 Ak ?_;refine Bx 2 fun K h=>?_;refine Az (by rfl) ?_;refine sW (Ai xs D) av ?_;have dz:=setRow_heap _ _ _ (Ai xs D) _ _ av;have af:=(Aj _ _ (Ai xs D) _ (show g10≠g9 from fun e=>aj.2.2.2.2 e.symm)).trans dv;have ch:=dw.other (t:=36) av (by decide) (by decide) (by decide) (Ai xs D);have cj:=dx.other (t:=36) av (by decide) (by decide) (by decide) (Ai xs D);have e0:=Fj (g:=g9) (by have:=cb.out;omega) dy (Ai xs D);have C:=And.intro ((Aj _ _ (Ai xs D) _ (show g12≠g9 from fun e=>aj.1 e.symm)).trans hSn.1) ((Aj _ _ (Ai xs D) _ (show g15≠g9 from fun e=>aj.2.1 e.symm)).trans hSn.2);clear hSn;have hSn:=C;clear C;refine Bl h (fun f=>?_);clear h K;refine Bx 3 fun K h=>?_;refine Az (by rfl) ?_;refine sW (Ai xs E) af ?_;have e1:=setRow_heap _ _ _ (Ai xs E) _ _ af;have e2:=(Aj _ _ (Ai xs E) _ (show g9≠g10 from aj.2.2.2.2)).trans dz;have ck:=ch.other (t:=36) af (by decide) (by decide) (by decide) (Ai xs E);have cm:=cj.other (t:=36) af (by decide) (by decide) (by decide) (Ai xs E);have e3:=Fj (g:=g10) (by have:=cb.out;omega) e0 (Ai xs E);have C:=And.intro ((Aj _ _ (Ai xs E) _ (show g12≠g10 from fun e=>aj.2.2.1 e.symm)).trans hSn.1) ((Aj _ _ (Ai xs E) _ (show g15≠g10 from fun e=>aj.2.2.2.1 e.symm)).trans hSn.2);clear hSn;have hSn:=C;clear C;refine Bl h (fun f=>?_);clear h K;refine wpAnyH_done Kr ?_ _;clear f
        try simp only[Act.put]
        go_wp2_with fail;go_roundw
        case rel=>exact⟨k+1,xs,D,E,xfs,by omega,by go_num,e2,e1,ck,cm,HK.out,e3⟩
        case measure=>simp[intOf];omega
   ·obtain rfl:k=l.length:=by omega
    have e8:¬ (l.length:Int)<(l.length:Int):=(by omega);go_wp2_with fail;exact HT.out _ HB.out
end Go.Proofs.YtmldoihahndcgaaGreatDoor
