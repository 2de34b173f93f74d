import Derived.Test.YtmldoihahndcgaaGreatDoorHq00
import Derived.Test.YtmldoihahndcgaaGreatDoorHq11
import Derived.Lib.ConvBytes
import Derived.Lib.AppendStr
import Derived.Lib.FrozenHead
import Derived.Deep.MidRow
import Derived.Lib.LazyBuf
import Derived.Test.YtmldoihahndcgaaGreatDoorHq01
import Derived.Test.YtmldoihahndcgaaGreatDoorHq12
import Derived.BigRegion
import Derived.Test.YtmldoihahndcgaaGreatDoorHq06
import Derived.Test.YtmldoihahndcgaaGreatDoorHq09
import Derived.Test.YtmldoihahndcgaaGreatDoorHq08
import Derived.BigQuiet
set_option maxRecDepth 100000
set_option maxHeartbeats 16000000
set_option linter.unusedSimpArgs false
namespace Go.Proofs.YtmldoihahndcgaaGreatDoor
open Go.RowKit
end Go.Proofs.YtmldoihahndcgaaGreatDoor
namespace Rc
theorem gL {α:Type}(f:α→List UInt8)(l:List α)(k:Nat)(h:k<l.length):(l.take (k+1)).flatMap f=(l.take k).flatMap f++f l[k]:=by
 rw[List.take_add_one,List.getElem?_eq_getElem h,List.flatMap_append]
 simp
end Rc
namespace Go.Proofs.YtmldoihahndcgaaGreatDoor
open Go.RowKit
theorem iX (r:Rc.Rec)(b7:Rc.Cv r)(A B:Option Addr)(c d:Nat)(w:World)(hr:Iy w r A c B d)(b8:r.kind=1∨r.kind=2∨r.kind=3∨r.kind=8):
 Cr 226 #[E1 r (.slice A r.txns.length c) (.slice B r.dirty.length d)] w (.string (Rc.mk (Rc.Eu r))):=by
 have HF:=Hq (Rc.Ix b7);have db:=Hq hr;clear b7 hr;obtain⟨h,prev,i,kind,b,next,nu,⟨ok,os,l,on⟩,k,root,⟨M,I,es⟩,ts,ds⟩:=r;have hk:=HF.out.kind;dsimp only at hk;have h9:kind=1∨kind=2∨kind=3∨kind=8:=b8;clear b8;have HK:=Hq h9;clear hk h9;dsimp only[E1,D7];obtain⟨w0,aa⟩:=ex (w.alloc (.cells (Ed h prev i kind b next nu ok os l on k root M I es (.slice A ts.length c) (.slice B ds.length d)) 88));have b9:=Hq (show Bw w w0 from by rw[aa];exact Ad _ _);have ah:=Hq (show w0.heap[w.heap.size]? =some (.cells (Ed h prev i kind b next nu ok os l on k root M I es (.slice A ts.length c) (.slice B ds.length d)) 88 (0,0))from by rw[aa];exact heap_alloc_new _ _);obtain⟨R,hR⟩:=ex (Rc.mk (Rc.Eu ⟨h,prev,i,kind,b,next,nu,⟨ok,os,l,on⟩,k,root,⟨M,I,es⟩,ts,ds⟩));rw[← hR];have HR:=Hq hR;clear hR;obtain⟨B1,ai⟩:=ex (Rc.mk (Rc.p kind 1));have cg:((Rc.p kind 1)).length=1:=Rc.Bf _ _;have ba:=Hq (show ∀ W,Cr 206 #[kind,.int .i64 1] W (.string B1) from fun W=>by rw[ai];exact F3 kind 1 (by omega) W);obtain⟨B2,aj⟩:=ex (Rc.mk (Rc.p h 6));have ch:((Rc.p h 6)).length=6:=Rc.Bf _ _;have bb:=Hq (show ∀ W,Cr 206 #[h,.int .i64 6] W (.string B2) from fun W=>by rw[aj];exact F3 h 6 (by omega) W);obtain⟨S2,ak⟩:=ex (Rc.mk ((Rc.p kind 1)++(Rc.p h 6)));have cj:∀ W:World,(Op.stringOp .add B1 B2).run Tryz.prog W= .ok (.string S2) W:=fun W=>by rw[ai,aj,ak];exact Gb _ _ (by(try simp only[Rc.Bf]);omega) W
 obtain⟨B3,al⟩:=ex (Rc.mk (Rc.p prev 6));have ck:((Rc.p prev 6)).length=6:=Rc.Bf _ _;have bc:=Hq (show ∀ W,Cr 206 #[prev,.int .i64 6] W (.string B3) from fun W=>by rw[al];exact F3 prev 6 (by omega) W);obtain⟨S3,an⟩:=ex (Rc.mk (((Rc.p kind 1)++(Rc.p h 6))++(Rc.p prev 6)));have cm:∀ W:World,(Op.stringOp .add S2 B3).run Tryz.prog W= .ok (.string S3) W:=fun W=>by rw[ak,al,an];exact Gb _ _ (by(try simp only[List.length_append,Rc.Bf]);omega) W
 obtain⟨B4,ao⟩:=ex (Rc.mk (Rc.p i 6));have cn:((Rc.p i 6)).length=6:=Rc.Bf _ _;have bd:=Hq (show ∀ W,Cr 206 #[i,.int .i64 6] W (.string B4) from fun W=>by rw[ao];exact F3 i 6 (by omega) W);obtain⟨S4,m⟩:=ex (Rc.mk ((((Rc.p kind 1)++(Rc.p h 6))++(Rc.p prev 6))++(Rc.p i 6)));have cp:∀ W:World,(Op.stringOp .add S3 B4).run Tryz.prog W= .ok (.string S4) W:=fun W=>by rw[an,ao,m];exact Gb _ _ (by(try simp only[List.length_append,Rc.Bf]);omega) W
 have ad:=Hq m;have G:((((Rc.p kind 1)++(Rc.p h 6))++(Rc.p prev 6))++(Rc.p i 6)).length=19:=by simp only[List.length_append];omega
 have aq:=Hq G;clear ai cg;clear aj ch;clear al ck;clear ao cn;clear ak;clear an;clear m;clear G;go_enter Tryz.func226,Tryz.ntmps226;go_upto_region 1 with fail;rw[← aa];clear aa;obtain⟨g,hg⟩:=ex w.heap.size;rw[← hg]at ah;rw[← hg];have cq:w.heap.size≤g:=Nat.le_of_eq hg.symm;clear hg
 go_cut [3] (fun s3 wc=>s3= .string S4∧wc.heap[g]? =some (.cells (Ed h prev i kind b next nu ok os l on k root M I es (.slice A ts.length c) (.slice B ds.length d)) 88 (0,0))∧Bw w wc)
 case first=>
  go_upto_region 1 with fail;have bf:=Ac ah.out (Below.refl _ w0).drew;have bg:=Ae b9.out (Below.refl _ w0).drew;refine E4 (S:=(fun u=>u.heap[g]? =some (.cells (Ed h prev i kind b next nu ok os l on k root M I es (.slice A ts.length c) (.slice B ds.length d)) 88 (0,0)))) (fun a=>?_);refine Au 0 ?_;refine Au 1 ?_;refine Au 3 ?_;refine Au 4 ?_;refine Au 7 ?_;refine Au 8 ?_;refine Au 11 ?_;refine Au 12 ?_;refine Bx 2 fun K j=>?_
  go_simp
  refine(ba.out _).mono ?_;rintro e dc ⟨rfl,f⟩;have ar:=Ac bf f;have bh:=Ae bg f;try clear hSn
  have hSn:=ar;clear f;refine Bl j (fun a=>?_);clear j K;refine Bx 5 fun K j=>?_
  go_simp
  refine(bb.out _).mono ?_;rintro e dd ⟨rfl,f⟩;have au:=Ac ar f;have bj:=Ae bh f;try clear hSn
  have hSn:=au;clear f;refine Bl j (fun a=>?_);clear j K;refine Au 6 ?_;refine Bx 9 fun K j=>?_
  go_simp
  refine(bc.out _).mono ?_;rintro e de ⟨rfl,f⟩;have av:=Ac au f;have bk:=Ae bj f;try clear hSn
  have hSn:=av;clear f;refine Bl j (fun a=>?_);clear j K;refine Au 10 ?_;refine Bx 13 fun K j=>?_
  go_simp
  refine(bd.out _).mono ?_;rintro e df ⟨rfl,f⟩;have aw:=Ac av f;have bl:=Ae bk f;try clear hSn
  have hSn:=aw;clear f;refine Bl j (fun a=>?_);clear j K;refine Au 14 ?_;refine Au 15 ?_;refine wpAnyH_done Kr ?_ _;have F:=Hq aw;have N:=Hq bl;clear a hSn bf bg ar bh au bj av bk aw bl;go_wp2_with fail;go_meet
  case rel=>exact⟨rfl,F.out,N.out⟩
 case rest=>
  obtain⟨rfl,bm,bn⟩:=hcut;obtain⟨w1,rfl⟩:=ex wc;have F:=Hq bm;have N:=Hq bn;clear bm bn ah b9 ba bb bc bd cj cm cp cq;rcases HK.out with rfl|rfl|rfl|rfl
  ·skip<;>(
   have m:=ad.out;have HE:=Hq (show S4=R from by rw[m,HR.out];(congr 1)<;>(unfold Rc.Eu;rw[show Rc.G7 _=[]from by unfold Rc.G7;rfl];unfold Rc.Ji;simp only[List.append_assoc,List.append_nil]));have X:=Aa F.out;clear m;go_wp2_with fail;go_ret;exact⟨by rw[← HE.out];rfl,N.out⟩)
  ·have m:=ad.out
   have G:=aq.out;have X:=Aa F.out;obtain⟨-,-,-,h4,h5⟩:=(HF.out.change (by unfold Rc.Fw;simp)).2;dsimp only at h4 h5;have Y:l.size≤65535:=(by omega);have Z:on.size≤65535:=(by omega);clear h4 h5;obtain⟨B5,q⟩:=ex (Rc.mk (Rc.p b 3));have P:((Rc.p b 3)).length=3:=Rc.Bf _ _;have Q:=Hq (show ∀ W,Cr 206 #[b,.int .i64 3] W (.string B5) from fun W=>by rw[q];exact F3 b 3 (by omega) W);obtain⟨S5,s⟩:=ex (Rc.mk (((((Rc.p 2 1)++(Rc.p h 6))++(Rc.p prev 6))++(Rc.p i 6))++(Rc.p b 3)));have bo:∀ W:World,(Op.stringOp .add S4 B5).run Tryz.prog W= .ok (.string S5) W:=fun W=>by rw[m,q,s];exact Gb _ _ (by(try simp only[List.length_append,Rc.Bf]);omega) W
   obtain⟨B6,v⟩:=ex (Rc.mk (Rc.Mw ⟨ok,os,l,on⟩));have T:((Rc.Mw ⟨ok,os,l,on⟩)).length≤140000:=(by unfold Rc.Mw;simp only[List.length_append,Rc.Bf,Rc.R8];omega);have U:=Hq (show ∀ W,Cr 274 #[.agg #[ok,os,l,on]] W (.string B6) from fun W=>by rw[v];exact Tc ⟨ok,os,l,on⟩ Y Z W);obtain⟨S6,x⟩:=ex (Rc.mk ((((((Rc.p 2 1)++(Rc.p h 6))++(Rc.p prev 6))++(Rc.p i 6))++(Rc.p b 3))++(Rc.Mw ⟨ok,os,l,on⟩)));have bp:∀ W:World,(Op.stringOp .add S5 B6).run Tryz.prog W= .ok (.string S6) W:=fun W=>by rw[s,v,x];exact Gb _ _ (by(try simp only[List.length_append,Rc.Bf]);omega) W
   obtain⟨B7,J⟩:=ex (Rc.mk (Rc.p k 1));have ae:((Rc.p k 1)).length=1:=Rc.Bf _ _;have af:=Hq (show ∀ W,Cr 206 #[k,.int .i64 1] W (.string B7) from fun W=>by rw[J];exact F3 k 1 (by omega) W);obtain⟨S7,H⟩:=ex (Rc.mk (((((((Rc.p 2 1)++(Rc.p h 6))++(Rc.p prev 6))++(Rc.p i 6))++(Rc.p b 3))++(Rc.Mw ⟨ok,os,l,on⟩))++(Rc.p k 1)));have cr:∀ W:World,(Op.stringOp .add S6 B7).run Tryz.prog W= .ok (.string S7) W:=fun W=>by rw[x,J,H];exact Gb _ _ (by(try simp only[List.length_append,Rc.Bf]);omega) W
   by_cases hh:k=1
   ·have ct:(k==1)=true:=by simpa using hh
    have HE:=Hq (show S7=R from by rw[H,HR.out];(congr 1)<;>(unfold Rc.Eu;rw[Rc.Oa rfl];unfold Rc.Ji;unfold Rc.M4;rw[if_pos hh];simp only[List.append_assoc,List.append_nil]));clear hh q P s v T x J ae H m G;go_upto_region 4 with fail;have y:=Ac F.out (Below.refl _ w1).drew;have z:=Ae N.out (Below.refl _ w1).drew;refine E4 (S:=(fun u=>u.heap[g]? =some (.cells (Ed h prev i 2 b next nu ok os l on k root M I es (.slice A ts.length c) (.slice B ds.length d)) 88 (0,0)))) (fun a=>?_);refine Au 0 ?_;refine Au 1 ?_;refine Au 2 ?_;refine Au 5 ?_;refine Au 6 ?_;refine Au 9 ?_;refine Au 10 ?_;refine Bx 3 fun K j=>?_
    go_simp
    refine(Q.out _).mono ?_;rintro e ax ⟨rfl,f⟩;have n:=Ac y f;have C:=Ae z f;try clear hSn
    have hSn:=n;clear f;refine Bl j (fun a=>?_);clear j K;refine Au 4 ?_;refine Bx 7 fun K j=>?_
    go_simp
    refine(U.out _).mono ?_;rintro e ay ⟨rfl,f⟩;have o:=Ac n f;have D:=Ae C f;try clear hSn
    have hSn:=o;clear f;refine Bl j (fun a=>?_);clear j K;refine Au 8 ?_;refine Bx 11 fun K j=>?_
    go_simp
    refine(af.out _).mono ?_;rintro e ag ⟨rfl,f⟩;have E:=Ac o f;have L:=Ae D f;try clear hSn
    have hSn:=E;clear f;refine Bl j (fun a=>?_);clear j K;refine Au 12 ?_;refine Au 13 ?_;refine wpAnyH_done Kr ?_ _;have V:=Hq E;have O:=Hq L;clear a hSn y z n C o D E L;have bq:=Aa V.out;go_wp2_with fail;go_ret;exact⟨by rw[← HE.out];rfl,O.out⟩
   ·have ct:(k==1)=false:=by simpa using hh
    have br:M.size≤65535:=by
     rcases HF.out.tree rfl with⟨h7,_⟩|⟨_,_,_,_,h8⟩
     ·exact absurd h7 hh
     ·dsimp only at h8;omega
    obtain⟨B8,az⟩:=ex (Rc.mk (Rc.p root 3));have cu:((Rc.p root 3)).length=3:=Rc.Bf _ _;have cv:=Hq (show ∀ W,Cr 206 #[root,.int .i64 3] W (.string B8) from fun W=>by rw[az];exact F3 root 3 (by omega) W);obtain⟨S8,b0⟩:=ex (Rc.mk ((((((((Rc.p 2 1)++(Rc.p h 6))++(Rc.p prev 6))++(Rc.p i 6))++(Rc.p b 3))++(Rc.Mw ⟨ok,os,l,on⟩))++(Rc.p k 1))++(Rc.p root 3)));have dh:∀ W:World,(Op.stringOp .add S7 B8).run Tryz.prog W= .ok (.string S8) W:=fun W=>by rw[H,az,b0];exact Gb _ _ (by(try simp only[List.length_append,Rc.Bf]);omega) W
    obtain⟨B9,b1⟩:=ex (Rc.mk (Rc.p I 3));have cw:((Rc.p I 3)).length=3:=Rc.Bf _ _;have cx:=Hq (show ∀ W,Cr 206 #[I,.int .i64 3] W (.string B9) from fun W=>by rw[b1];exact F3 I 3 (by omega) W);obtain⟨S9,b2⟩:=ex (Rc.mk (((((((((Rc.p 2 1)++(Rc.p h 6))++(Rc.p prev 6))++(Rc.p i 6))++(Rc.p b 3))++(Rc.Mw ⟨ok,os,l,on⟩))++(Rc.p k 1))++(Rc.p root 3))++(Rc.p I 3)));have di:∀ W:World,(Op.stringOp .add S8 B9).run Tryz.prog W= .ok (.string S9) W:=fun W=>by rw[b0,b1,b2];exact Gb _ _ (by(try simp only[List.length_append,Rc.Bf]);omega) W
    obtain⟨bs,a1⟩:=ex (Rc.mk (Rc.p es 2));have bt:((Rc.p es 2)).length=2:=Rc.Bf _ _;have bu:=Hq (show ∀ W,Cr 206 #[es,.int .i64 2] W (.string bs) from fun W=>by rw[a1];exact F3 es 2 (by omega) W);obtain⟨bw,a6⟩:=ex (Rc.mk ((((((((((Rc.p 2 1)++(Rc.p h 6))++(Rc.p prev 6))++(Rc.p i 6))++(Rc.p b 3))++(Rc.Mw ⟨ok,os,l,on⟩))++(Rc.p k 1))++(Rc.p root 3))++(Rc.p I 3))++(Rc.p es 2)));have cz:∀ W:World,(Op.stringOp .add S9 bs).run Tryz.prog W= .ok (.string bw) W:=fun W=>by rw[b2,a1,a6];exact Gb _ _ (by(try simp only[List.length_append,Rc.Bf]);omega) W
    obtain⟨bx,a7⟩:=ex (Rc.mk (Rc.t M));have bz:((Rc.t M)).length≤70000:=(by rw[Rc.R8];omega);have c6:=Hq (show ∀ W,Cr 275 #[M] W (.string bx) from fun W=>by rw[a7];exact K5 M br W);obtain⟨c7,a8⟩:=ex (Rc.mk (((((((((((Rc.p 2 1)++(Rc.p h 6))++(Rc.p prev 6))++(Rc.p i 6))++(Rc.p b 3))++(Rc.Mw ⟨ok,os,l,on⟩))++(Rc.p k 1))++(Rc.p root 3))++(Rc.p I 3))++(Rc.p es 2))++(Rc.t M)));have da:∀ W:World,(Op.stringOp .add bw bx).run Tryz.prog W= .ok (.string c7) W:=fun W=>by rw[a6,a7,a8];exact Gb _ _ (by(try simp only[List.length_append,Rc.Bf]);omega) W
    have HE:=Hq (show c7=R from by rw[a8,HR.out];(congr 1)<;>(unfold Rc.Eu;rw[Rc.Oa rfl];unfold Rc.Ji;unfold Rc.M4;rw[if_neg hh];simp only[List.append_assoc]));clear hh br;clear q P s;clear v T x;clear J ae H;clear az cu b0;clear b1 cw b2;clear a1 bt a6;clear a7 bz a8;clear m G;go_upto_region 4 with fail;have y:=Ac F.out (Below.refl _ w1).drew;have z:=Ae N.out (Below.refl _ w1).drew;refine E4 (S:=(fun u=>u.heap[g]? =some (.cells (Ed h prev i 2 b next nu ok os l on k root M I es (.slice A ts.length c) (.slice B ds.length d)) 88 (0,0)))) (fun a=>?_);refine Au 0 ?_;refine Au 1 ?_;refine Au 2 ?_;refine Au 5 ?_;refine Au 6 ?_;refine Au 9 ?_;refine Au 10 ?_;refine Bx 3 fun K j=>?_
    go_simp
    refine(Q.out _).mono ?_;rintro e ax ⟨rfl,f⟩;have n:=Ac y f;have C:=Ae z f;try clear hSn
    have hSn:=n;clear f;refine Bl j (fun a=>?_);clear j K;refine Au 4 ?_;refine Bx 7 fun K j=>?_
    go_simp
    refine(U.out _).mono ?_;rintro e ay ⟨rfl,f⟩;have o:=Ac n f;have D:=Ae C f;try clear hSn
    have hSn:=o;clear f;refine Bl j (fun a=>?_);clear j K;refine Au 8 ?_;refine Bx 11 fun K j=>?_
    go_simp
    refine(af.out _).mono ?_;rintro e ag ⟨rfl,f⟩;have E:=Ac o f;have L:=Ae D f;try clear hSn
    have hSn:=E;clear f;refine Bl j (fun a=>?_);clear j K;refine Au 12 ?_;refine Au 13 ?_;refine wpAnyH_done Kr ?_ _;have V:=Hq E;have O:=Hq L;clear a hSn y z n C o D E L;have bq:=Aa V.out;go_upto_region 7 with fail;have c8:=Ac V.out (Below.refl _ ag).drew;have ca:=Ae O.out (Below.refl _ ag).drew;refine E4 (S:=(fun u=>u.heap[g]? =some (.cells (Ed h prev i 2 b next nu ok os l on k root M I es (.slice A ts.length c) (.slice B ds.length d)) 88 (0,0)))) (fun a=>?_);refine Au 0 ?_;refine Au 1 ?_;refine Au 2 ?_;refine Au 5 ?_;refine Au 6 ?_;refine Au 7 ?_;refine Au 8 ?_;refine Au 11 ?_;refine Au 12 ?_;refine Au 13 ?_;refine Au 14 ?_;refine Au 17 ?_;refine Au 18 ?_;refine Au 19 ?_;refine Bx 3 fun K j=>?_
    go_simp
    refine(cv.out _).mono ?_;rintro e dj ⟨rfl,f⟩;have b3:=Ac c8 f;have cb:=Ae ca f;try clear hSn
    have hSn:=b3;clear f;refine Bl j (fun a=>?_);clear j K;refine Au 4 ?_;refine Bx 9 fun K j=>?_
    go_simp
    refine(cx.out _).mono ?_;rintro e dk ⟨rfl,f⟩;have b4:=Ac b3 f;have cc:=Ae cb f;try clear hSn
    have hSn:=b4;clear f;refine Bl j (fun a=>?_);clear j K;refine Au 10 ?_;refine Bx 15 fun K j=>?_
    go_simp
    refine(bu.out _).mono ?_;rintro e dm ⟨rfl,f⟩;have b5:=Ac b4 f;have cd:=Ae cc f;try clear hSn
    have hSn:=b5;clear f;refine Bl j (fun a=>?_);clear j K;refine Au 16 ?_;refine Bx 20 fun K j=>?_
    go_simp
    refine(c6.out _).mono ?_;rintro e dn ⟨rfl,f⟩;have b6:=Ac b5 f;have cf:=Ae cd f;try clear hSn
    have hSn:=b6;clear f;refine Bl j (fun a=>?_);clear j K;refine Au 21 ?_;refine Au 22 ?_;refine wpAnyH_done Kr ?_ _;have dp:=Hq b6;have cy:=Hq cf;clear a hSn c8 ca b3 cb b4 cc b5 cd b6 cf;go_wp2_with fail;go_ret;exact⟨by rw[← HE.out];rfl,cy.out⟩
  ·have m:=ad.out
   have G:=aq.out;have X:=Aa F.out;obtain⟨-,-,-,h4,h5⟩:=(HF.out.change (by unfold Rc.Fw;simp)).2;dsimp only at h4 h5;have Y:l.size≤65535:=(by omega);have Z:on.size≤65535:=(by omega);clear h4 h5;obtain⟨B5,q⟩:=ex (Rc.mk (Rc.p b 3));have P:((Rc.p b 3)).length=3:=Rc.Bf _ _;have Q:=Hq (show ∀ W,Cr 206 #[b,.int .i64 3] W (.string B5) from fun W=>by rw[q];exact F3 b 3 (by omega) W);obtain⟨S5,s⟩:=ex (Rc.mk (((((Rc.p 3 1)++(Rc.p h 6))++(Rc.p prev 6))++(Rc.p i 6))++(Rc.p b 3)));have bo:∀ W:World,(Op.stringOp .add S4 B5).run Tryz.prog W= .ok (.string S5) W:=fun W=>by rw[m,q,s];exact Gb _ _ (by(try simp only[List.length_append,Rc.Bf]);omega) W
   obtain⟨B6,v⟩:=ex (Rc.mk (Rc.Mw ⟨ok,os,l,on⟩));have T:((Rc.Mw ⟨ok,os,l,on⟩)).length≤140000:=(by unfold Rc.Mw;simp only[List.length_append,Rc.Bf,Rc.R8];omega);have U:=Hq (show ∀ W,Cr 274 #[.agg #[ok,os,l,on]] W (.string B6) from fun W=>by rw[v];exact Tc ⟨ok,os,l,on⟩ Y Z W);obtain⟨S6,x⟩:=ex (Rc.mk ((((((Rc.p 3 1)++(Rc.p h 6))++(Rc.p prev 6))++(Rc.p i 6))++(Rc.p b 3))++(Rc.Mw ⟨ok,os,l,on⟩)));have bp:∀ W:World,(Op.stringOp .add S5 B6).run Tryz.prog W= .ok (.string S6) W:=fun W=>by rw[s,v,x];exact Gb _ _ (by(try simp only[List.length_append,Rc.Bf]);omega) W
   obtain⟨B7,J⟩:=ex (Rc.mk (Rc.p next 6));have ae:((Rc.p next 6)).length=6:=Rc.Bf _ _;have af:=Hq (show ∀ W,Cr 206 #[next,.int .i64 6] W (.string B7) from fun W=>by rw[J];exact F3 next 6 (by omega) W);obtain⟨S7,H⟩:=ex (Rc.mk (((((((Rc.p 3 1)++(Rc.p h 6))++(Rc.p prev 6))++(Rc.p i 6))++(Rc.p b 3))++(Rc.Mw ⟨ok,os,l,on⟩))++(Rc.p next 6)));have cr:∀ W:World,(Op.stringOp .add S6 B7).run Tryz.prog W= .ok (.string S7) W:=fun W=>by rw[x,J,H];exact Gb _ _ (by(try simp only[List.length_append,Rc.Bf]);omega) W
   have HE:=Hq (show S7=R from by rw[H,HR.out];(congr 1)<;>(unfold Rc.Eu;rw[Rc.Q8 rfl];unfold Rc.Ji;simp only[List.append_assoc]));clear q P s;clear v T x;clear J ae H;clear m G;go_upto_region 9 with fail;have y:=Ac F.out (Below.refl _ w1).drew;have z:=Ae N.out (Below.refl _ w1).drew;refine E4 (S:=(fun u=>u.heap[g]? =some (.cells (Ed h prev i 3 b next nu ok os l on k root M I es (.slice A ts.length c) (.slice B ds.length d)) 88 (0,0)))) (fun a=>?_);refine Au 0 ?_;refine Au 1 ?_;refine Au 2 ?_;refine Au 5 ?_;refine Au 6 ?_;refine Au 9 ?_;refine Au 10 ?_;refine Bx 3 fun K j=>?_
   go_simp
   refine(Q.out _).mono ?_;rintro e ax ⟨rfl,f⟩;have n:=Ac y f;have C:=Ae z f;try clear hSn
   have hSn:=n;clear f;refine Bl j (fun a=>?_);clear j K;refine Au 4 ?_;refine Bx 7 fun K j=>?_
   go_simp
   refine(U.out _).mono ?_;rintro e ay ⟨rfl,f⟩;have o:=Ac n f;have D:=Ae C f;try clear hSn
   have hSn:=o;clear f;refine Bl j (fun a=>?_);clear j K;refine Au 8 ?_;refine Bx 11 fun K j=>?_
   go_simp
   refine(af.out _).mono ?_;rintro e ag ⟨rfl,f⟩;have E:=Ac o f;have L:=Ae D f;try clear hSn
   have hSn:=E;clear f;refine Bl j (fun a=>?_);clear j K;refine Au 12 ?_;refine Au 13 ?_;refine wpAnyH_done Kr ?_ _;have V:=Hq E;have O:=Hq L;clear a hSn y z n C o D E L;go_wp2_with fail;go_ret;exact⟨by rw[← HE.out];rfl,O.out⟩
  ·have m:=ad.out
   have G:=aq.out;have X:=Aa F.out;obtain⟨-,-,-,h4,h5⟩:=(HF.out.change (by unfold Rc.Fw;simp)).2;dsimp only at h4 h5;have Y:l.size≤65535:=(by omega);have Z:on.size≤65535:=(by omega);clear h4 h5;obtain⟨B5,q⟩:=ex (Rc.mk (Rc.p b 3));have P:((Rc.p b 3)).length=3:=Rc.Bf _ _;have Q:=Hq (show ∀ W,Cr 206 #[b,.int .i64 3] W (.string B5) from fun W=>by rw[q];exact F3 b 3 (by omega) W);obtain⟨S5,s⟩:=ex (Rc.mk (((((Rc.p 8 1)++(Rc.p h 6))++(Rc.p prev 6))++(Rc.p i 6))++(Rc.p b 3)));have bo:∀ W:World,(Op.stringOp .add S4 B5).run Tryz.prog W= .ok (.string S5) W:=fun W=>by rw[m,q,s];exact Gb _ _ (by(try simp only[List.length_append,Rc.Bf]);omega) W
   obtain⟨B6,v⟩:=ex (Rc.mk (Rc.Mw ⟨ok,os,l,on⟩));have T:((Rc.Mw ⟨ok,os,l,on⟩)).length≤140000:=(by unfold Rc.Mw;simp only[List.length_append,Rc.Bf,Rc.R8];omega);have U:=Hq (show ∀ W,Cr 274 #[.agg #[ok,os,l,on]] W (.string B6) from fun W=>by rw[v];exact Tc ⟨ok,os,l,on⟩ Y Z W);obtain⟨S6,x⟩:=ex (Rc.mk ((((((Rc.p 8 1)++(Rc.p h 6))++(Rc.p prev 6))++(Rc.p i 6))++(Rc.p b 3))++(Rc.Mw ⟨ok,os,l,on⟩)));have bp:∀ W:World,(Op.stringOp .add S5 B6).run Tryz.prog W= .ok (.string S6) W:=fun W=>by rw[s,v,x];exact Gb _ _ (by(try simp only[List.length_append,Rc.Bf]);omega) W
   have HE:=Hq (show S6=R from by rw[x,HR.out];(congr 1)<;>(unfold Rc.Eu;rw[Rc.Q9 rfl];unfold Rc.Ji;simp only[List.append_assoc]));clear q P s;clear v T x;clear m G;go_upto_region 13 with fail;have y:=Ac F.out (Below.refl _ w1).drew;have z:=Ae N.out (Below.refl _ w1).drew;refine E4 (S:=(fun u=>u.heap[g]? =some (.cells (Ed h prev i 8 b next nu ok os l on k root M I es (.slice A ts.length c) (.slice B ds.length d)) 88 (0,0)))) (fun a=>?_);refine Au 0 ?_;refine Au 1 ?_;refine Au 2 ?_;refine Au 5 ?_;refine Au 6 ?_;refine Bx 3 fun K j=>?_
   go_simp
   refine(Q.out _).mono ?_;rintro e ax ⟨rfl,f⟩;have n:=Ac y f;have C:=Ae z f;try clear hSn
   have hSn:=n;clear f;refine Bl j (fun a=>?_);clear j K;refine Au 4 ?_;refine Bx 7 fun K j=>?_
   go_simp
   refine(U.out _).mono ?_;rintro e ay ⟨rfl,f⟩;have o:=Ac n f;have D:=Ae C f;try clear hSn
   have hSn:=o;clear f;refine Bl j (fun a=>?_);clear j K;refine Au 8 ?_;refine Au 9 ?_;refine wpAnyH_done Kr ?_ _;have V:=Hq o;have O:=Hq D;clear a hSn y z n C o D;go_wp2_with fail;go_ret;exact⟨by rw[← HE.out];rfl,O.out⟩
theorem iY (r:Rc.Rec)(g:¬ Rc.Cv r)(A D:Option Addr)(c d:Nat)(w:World)(i:Iy w r A c D d)(a:r.kind=1∨r.kind=2∨r.kind=3∨r.kind=8):
 Cr 174 #[E1 r (.slice A r.txns.length c) (.slice D r.dirty.length d)] w (.tuple #["",.int .i64 1]):=by
 have b:=Hq (fun W (h:Bw w W)=>Td r A D c d W (i.below h) a);have j:Rc.Fb r=false:=by
  cases h:Rc.Fb r with
  |false=>rfl
  |true=>exact absurd (Rc.R5.1 h) g
 rw[j]at b;have k:=Hq (heap_alloc_new w (.cells (D7 r (.slice A r.txns.length c) (.slice D r.dirty.length d)) 88));clear g j i;obtain⟨m,prev,n,kind,l,next,p,⟨ok,os,q,on⟩,o,root,⟨s,t,es⟩,u,v⟩:=r;dsimp only[E1,D7]at b k ⊢;go_enter Tryz.func174,Tryz.ntmps174
 go_wp2_with(first
  |with_reducible refine lL k.out Ds ?_
  |(go_at_call 225;(with_reducible refine(b.out _ (Ad _ _)).mono ?_);rintro e x ⟨rfl,f⟩))
 go_ret2;exact⟨rfl,Ae (Ad _ _) f⟩
theorem cN (r:Rc.Rec)(u:Rc.Cv r)(A D:Option Addr)(c d:Nat)(w:World)(E:Iy w r A c D d)(l:r.kind=1∨r.kind=2∨r.kind=3∨r.kind=8):
 Cr 174 #[E1 r (.slice A r.txns.length c) (.slice D r.dirty.length d)] w (.tuple #[.string ⟨(Lg.Ei r).toArray⟩,()]):=by
 have v:=Hq (fun W (h:Bw w W)=>Td r A D c d W (E.below h) l);rw[Rc.Jj u]at v;have x:=Hq (fun W (h:Bw w W)=>iX r u A D c d W (E.below h) l);have hlen:=Rc.Mi u;obtain⟨L,z⟩:=ex (Rc.Eu r);have f:(⟨(Lg.Ei r).toArray⟩:ByteArray)=Rc.mk (Rc.p (L.length:Int) 4++Rc.p ((Oct.Gy L:Nat):Int) 4++L):=by
  have R:L.length≤40000:=by rw[z];exact hlen.2
  have M:Oct.word (L.length:Int)=L.length:=Oct.Ef _ (by omega);have N:Oct.word ((Oct.Gy L:Nat):Int)=Oct.Gy L:=Oct.Ef _ (by have:=Oct.dV L;omega);unfold Lg.Ei Rc.mk Rc.p;rw[M,N,← z,List.append_assoc]
 rw[f];rw[← z]at x hlen;clear f;have F:L.length≤40000:=by omega
 have B:=Hq (fun W=>Xc (Rc.mk L) (by rw[Rc.Ri];omega) W);rw[show(Rc.mk L).data.toList=L from rfl]at B;have g:=Hq (fun W=>show Cr 206 #[.int .i64 (L.length:Int),.int .i64 4] W (.string (Rc.mk (Rc.p (L.length:Int) 4))) from F3 (L.length:Int) 4 (by omega) W);have i:=Hq (fun W=>show Cr 206 #[.int .i64 ((Oct.Gy L:Nat):Int),.int .i64 4] W (.string (Rc.mk (Rc.p ((Oct.Gy L:Nat):Int) 4))) from F3 ((Oct.Gy L:Nat):Int) 4 (by omega) W);have m:∀ n,(Rc.p n 4).length=4:=fun n=>Oct.Be _ _;have a:=fun W=>Gb (Rc.p (L.length:Int) 4) (Rc.p ((Oct.Gy L:Nat):Int) 4) (by rw[m,m];omega) W;have b:=fun W=>Gb (Rc.p (L.length:Int) 4++Rc.p ((Oct.Gy L:Nat):Int) 4) L (by rw[List.length_append,m,m];omega) W;have j:(Rc.mk L).size=L.length:=Rc.Ri L;generalize ((Oct.Gy L:Nat):Int)=q at B i a b ⊢;obtain⟨z3,o⟩:=ex (Rc.mk (Rc.p (L.length:Int) 4++Rc.p q 4++L));rw[← o]at b ⊢;obtain⟨z2,s⟩:=ex (Rc.mk (Rc.p (L.length:Int) 4++Rc.p q 4));rw[← s]at a b;clear s o;generalize Rc.mk (Rc.p (L.length:Int) 4)=x1 at g a;generalize Rc.mk (Rc.p q 4)=x2 at i a;generalize Rc.mk L=y at x B b j;rw[← j]at g;clear z u hlen F j m;have C:=Hq (heap_alloc_new w (.cells (D7 r (.slice A r.txns.length c) (.slice D r.dirty.length d)) 88));clear E;obtain⟨O,prev,P,kind,K,next,S,⟨ok,os,T,on⟩,Q,root,⟨U,V,es⟩,X,Y⟩:=r;dsimp only[E1,D7]at v C x ⊢;go_enter Tryz.func174,Tryz.ntmps174
 go_upto_region 3 with(first
  |with_reducible refine lL C.out Ds ?_
  |(go_at_call 225;(with_reducible refine(v.out _ (Ad _ _)).mono ?_);rintro e Z ⟨rfl,k⟩))
 have t:=Hq (Ae (Ad w _) k);have G:=Hq (Ac C.out k);clear k C v
 go_wp2_with(first
  |with_reducible refine lL G.out Ds ?_
  |(go_at_call 226;(with_reducible refine(x.out _ t.out).mono ?_);rintro e w2 ⟨rfl,H⟩)
  |(go_at_call 206;(with_reducible refine(g.out _).mono ?_);rintro e w3 ⟨rfl,I⟩)
  |(go_at_call 227;(with_reducible refine(B.out _).mono ?_);rintro e w4 ⟨rfl,rfl⟩)
  |(go_at_call 206;(with_reducible refine(i.out _).mono ?_);rintro e w5 ⟨rfl,J⟩))
 go_ret2;exact⟨rfl,Ae (Ae (Ae t.out H) I) J⟩
theorem iZ (a n:Int)(w:World):
 Cr 104 #[a,n] w (Oc ⟨a,n,0,0,⟨#[]⟩⟩):=by
 have b:=Hq (heap_alloc_new w (.cells #[(),(),(),(),""] 30));go_enter Tryz.func104,Tryz.ntmps104
 go_wp2_with(with_reducible refine lS #[a,n,(),(),""] b.out ?_)
 refine rT1 b.out Fp ?_;exact⟨rfl,((Dm.nil (Below.refl w.heap.size w)).new (by simp) #[(),(),(),(),""] 30).row 0 _ _ rfl|>.below⟩
def Lg.Ox (n:Int):Int:=if n<0∨1099511627776<n then 0 else n*128
theorem cO (f n e s:Int)(t:ByteArray)(w:World):
 Cr 175 #[.agg #[f,n,e,s,t]] w (.int .i64 (Lg.Ox n)):=by
 by_cases a:n<0
 ·rw[show Lg.Ox n=0 by unfold Lg.Ox;rw[if_pos (.inl a)]]
  go_enter Tryz.func175,Tryz.ntmps175;go_wp2_with fail;go_ret;exact⟨by simp,Ad _ _⟩
 ·by_cases b:1099511627776<n
  ·rw[show Lg.Ox n=0 by unfold Lg.Ox;rw[if_pos (.inr b)]]
   go_enter Tryz.func175,Tryz.ntmps175;go_wp2_with fail;go_ret;exact⟨by simp,Ad _ _⟩
  ·rw[show Lg.Ox n=n*128 by unfold Lg.Ox;rw[if_neg (by omega)]]
   have c:IntKind.i64.wrap (n*128)=n*128:=IntWalk.i64_in _ (by omega);go_enter Tryz.func175,Tryz.ntmps175;go_wp2_with fail;go_ret;exact⟨by simp,Ad _ _⟩
theorem Qn (l:Lg.Lo)(ai:0≤l.end_)(aj:l.end_≤1000000000)(ak:0≤l.n)(al:l.n≤1000000000)(ht:l.tail.size≤1000000000)(r:Rc.Rec)(A D:Option Addr)(c d:Nat)(w:World)(T:Iy w r A c D d)(a7:r.kind=1∨r.kind=2∨r.kind=3∨r.kind=8):
 Cq 103 #[Oc l,E1 r (.slice A r.txns.length c) (.slice D r.dirty.length d)] w (Sg (Lg.Ay l r) w):=by
 have P:=Hq (fun z W (hb:Bw w W)=>cN {r with lsn:=l.end_+1} z A D c d W ⟨T.txns.below hb,T.dirty.below hb,T.small⟩ a7);have Q:=Hq (fun z W (hb:Bw w W)=>iY {r with lsn:=l.end_+1} z A D c d W ⟨T.txns.below hb,T.dirty.below hb,T.small⟩ a7);have HN:=Hq (@Lg.Od l r);have I:=Hq (@Lg.Qf l r);have J:=Hq (@Lg.Un l r);generalize Lg.Ay l r=o at HN I J ⊢;clear T;obtain⟨j,n,en,k,g⟩:=l;obtain⟨lsn,prev,b,kind,a,next,B,⟨ok,os,C,on⟩,f,root,⟨E,F,es⟩,G,H⟩:=r;dsimp only[E1,D7,Oc]at P Q HN I J ai aj ak al ht ⊢;have au:IntKind.i64.wrap (en+1)=en+1:=IntWalk.i64_in _ (by omega)
 by_cases z:Rc.Cv ⟨en+1,prev,b,kind,a,next,B,⟨ok,os,C,on⟩,f,root,⟨E,F,es⟩,G,H⟩
 ·have HP:=Hq (P.out z)
  have y:=Hq (I.out z);have m:=Hq (J.out z);have L:(Lg.Ei ⟨en+1,prev,b,kind,a,next,B,⟨ok,os,C,on⟩,f,root,⟨E,F,es⟩,G,H⟩).length≤40008:=by rw[Lg.Lt];have:=(Rc.Mi z).2;omega
  obtain⟨x,hx⟩:=ex (⟨(Lg.Ei ⟨en+1,prev,b,kind,a,next,B,⟨ok,os,C,on⟩,f,root,⟨E,F,es⟩,G,H⟩).toArray⟩:ByteArray);have a8:(Lg.Ei ⟨en+1,prev,b,kind,a,next,B,⟨ok,os,C,on⟩,f,root,⟨E,F,es⟩,G,H⟩).length=x.size:=by rw[hx];show _=((Lg.Ei ⟨en+1,prev,b,kind,a,next,B,⟨ok,os,C,on⟩,f,root,⟨E,F,es⟩,G,H⟩).toArray).size;simp
  rw[a8]at y m L;rw[← hx]at HP m;have av:=L;clear P Q HN I J z hx a8 L;go_enter Tryz.func103,Tryz.ntmps103;go_upto_region 1 with fail;have s:=Jo w #[j,n,en,k,g] 30 (Ed lsn prev b kind a next B ok os C on f root E F es (.slice A G.length c) (.slice D H.length d)) 88 #[(),(),(),(),""] 30;obtain⟨U,t⟩:=Dr s;have V:U.heap.size=w.heap.size+3:=by rw[t];simp
  rw[← t]at s ⊢;have X:=Aa s.out.Ag;have Y:=Aa s.out.Ah;have Z:=Ao s.out.Ah;clear t;go_upto_region 2 with fail;have H1:=Hq (show Dm w.heap.size w [(#[j,n,en,k,g],30),((Ed (en+1) prev b kind a next B ok os C on f root E F es (.slice A G.length c) (.slice D H.length d)),88),(#[(),(),(),(),""],30)] (U.setCell ⟨w.heap.size+1,0,none⟩ (.int .i64 (en+1)))from by have h:=s.out.set 1 0 (.int .i64 (en+1)) _ rfl;simpa using h);obtain⟨W1,M⟩:=ex (U.setCell ⟨w.heap.size+1,0,none⟩ (.int .i64 (en+1)));rw[← M]at H1 ⊢;clear M X Y Z s V;have N:=Hq H1.out.Ah
  go_upto_region 3 with(first
   |with_reducible refine lL N.out Ds ?_
   |(go_at_call 174;(with_reducible refine(HP.out _ H1.out.below).mono ?_);rintro e w2 ⟨rfl,O⟩))
  have q:=Hq (H1.out.step O);clear O H1 N HP;have R:=Hq (show w2.drew.heap[w.heap.size]? =some (.cells #[j,n,en,k,g] 30 (0,0))from by have h:=q.out.drew.get 0 _ rfl;simpa using h);have aa:=Hq (fun W=>show Cr 175 #[.agg #[j,n,en,k,g]] W (.int .i64 (n*128)) from by
   have h9:=cO j n en k g W;rw[show Lg.Ox n=n*128 from by unfold Lg.Ox;rw[if_neg (by omega)]]at h9;exact h9)
  go_upto_region 5 with fail;refine E4 (S:=(fun u=>u.heap[w.heap.size]? =some (.cells #[j,n,en,k,g] 30 (0,0)))) (fun i=>?_) (by first|exact hSn|exact R.out);refine Au 0 ?_;refine Au 1 ?_;refine Q3 2 Fp ?_;refine Au 4 ?_;refine Au 5 ?_;refine Bx 3 fun K hK=>?_
  go_simp
  refine(aa.out _).mono ?_;rintro e w3 ⟨rfl,a1⟩;have hSn:=Ac R.out a1;refine Bl hK (fun i=>?_) (by first|exact hSn|exact R.out);clear hK K;refine Au 6 ?_;refine Au 7 ?_;refine wpAnyH_done Kr ?_ _;clear i hSn aa R;have ad:=Hq (q.out.drew.step a1);clear a1 q;have q:=ad;clear ad;have hm:IntKind.i64.wrap (n*128)=n*128:=IntWalk.i64_in _ (by omega);have aw:IntKind.i64.wrap (n*128-en)=n*128-en:=IntWalk.i64_in _ (by omega);have ax:IntKind.i64.wrap (en+(x.size:Int))=en+(x.size:Int):=IntWalk.i64_in _ (by omega);have ay:n*128-en<(x.size:Int)↔n*128-(x.size:Int)<en:=by omega
  by_cases an:n*128-en<(x.size:Int)
  ·have HO:=Hq (y.out (by omega))
   have p:=Hq (show w3.heap[w.heap.size]? =some (.cells #[j,n,en,k,g] 30 (0,0))from by have h:=q.out.Ag;simpa using h);have ae:=Aa p.out;clear y m
   go_wp2_with(first
    |with_reducible refine lL p.out Fp ?_
    |with_reducible refine lS #[j,n,en,k,g] q.out.Ax ?_)
   refine rT3 () (.int .i64 18) q.out.Ax Fp ?_;rw[HO.out];exact⟨rfl,(q.out.row 2 _ _ rfl).below⟩
  ·have HO:=Hq (m.out (by omega))
   have af:∀ W:World,(Op.stringOp .add g x).run Tryz.prog W= .ok (.string (g++x)) W:=fun W=>run_string_add_sum W _ _ (by omega);have p:=Hq (show w3.heap[w.heap.size]? =some (.cells #[j,n,en,k,g] 30 (0,0))from by have h:=q.out.Ag;simpa using h);have ae:=Aa p.out;have ao:=Ao p.out;clear y m;go_upto_region 8 with fail;have H3:=Hq (show Dm w.heap.size w [(#[j,n,en,k,.string (g++x)],30),((Ed (en+1) prev b kind a next B ok os C on f root E F es (.slice A G.length c) (.slice D H.length d)),88),(#[(),(),(),(),""],30)] (w3.setCell ⟨w.heap.size,4,none⟩ (.string (g++x)))from by have h:=q.out.set 0 4 (.string (g++x)) _ rfl;simpa using h);obtain⟨W3,ag⟩:=ex (w3.setCell ⟨w.heap.size,4,none⟩ (.string (g++x)));rw[← ag]at H3 ⊢;clear ag ae ao p q;have aq:=Aa H3.out.Ag;have ar:=Ao H3.out.Ag;go_upto_region 9 with fail;have H4:=Hq (show Dm w.heap.size w [(#[j,n,.int .i64 (en+(x.size:Int)),k,.string (g++x)],30),((Ed (en+1) prev b kind a next B ok os C on f root E F es (.slice A G.length c) (.slice D H.length d)),88),(#[(),(),(),(),""],30)] (W3.setCell ⟨w.heap.size,2,none⟩ (.int .i64 (en+(x.size:Int))))from by have h:=H3.out.set 0 2 (.int .i64 (en+(x.size:Int))) _ rfl;simpa using h);obtain⟨W4,ah⟩:=ex (W3.setCell ⟨w.heap.size,2,none⟩ (.int .i64 (en+(x.size:Int))));rw[← ah]at H4 ⊢;clear ah aq ar H3 af;have v:=Hq H4.out.drew;refine E4 (S:=(fun u=>u.heap[w.heap.size]? =some (.cells #[j,n,.int .i64 (en+(x.size:Int)),k,.string (g++x)] 30 (0,0))∧u.heap[w.heap.size+1]? =some (.cells (Ed (en+1) prev b kind a next B ok os C on f root E F es (.slice A G.length c) (.slice D H.length d)) 88 (0,0)))) (fun i=>?_) (by first|exact hSn|exact⟨(by have h:=v.out.Ag;simpa using h),v.out.Ah⟩);refine Au 0 ?_;refine Au 1 ?_;refine Au 2 ?_;refine Bx 3 fun K hK=>?_;refine Az (by rfl) ?_;refine sW #[j,n,.int .i64 (en+(x.size:Int)),k,.string (g++x)] v.out.Ax ?_;have a6:=v.out.row 2 #[j,n,.int .i64 (en+(x.size:Int)),k,.string (g++x)] _ rfl;have hSn:=And.intro (show _=some (Obj.cells #[j,n,.int .i64 (en+(x.size:Int)),k,.string (g++x)] 30 (0,0))from by have h:=a6.get 0 _ rfl;simpa using h) (a6.get 1 _ rfl);refine Bl hK (fun i=>?_) (by first|exact hSn|exact⟨(by have h:=v.out.Ag;simpa using h),v.out.Ah⟩);clear hK K
   try simp only[Act.put]
   refine Au 4 ?_;refine Au 5 ?_;refine wpAnyH_done Kr ?_ _;clear i;go_wp2_with fail;refine rT3 (.int .i64 (en+1)) () v.out.Ax Fp ?_;rw[HO.out];exact⟨rfl,a6.below⟩
 ·have HO:=Hq (HN.out z)
  have HP:=Hq (Q.out z);clear P Q HN I J z;go_enter Tryz.func103,Tryz.ntmps103;go_upto_region 1 with fail;have s:=Jo w #[j,n,en,k,g] 30 (Ed lsn prev b kind a next B ok os C on f root E F es (.slice A G.length c) (.slice D H.length d)) 88 #[(),(),(),(),""] 30;obtain⟨U,t⟩:=Dr s;have V:U.heap.size=w.heap.size+3:=by rw[t];simp
  rw[← t]at s ⊢;have X:=Aa s.out.Ag;have Y:=Aa s.out.Ah;have Z:=Ao s.out.Ah;clear t;go_upto_region 2 with fail;have H1:=Hq (show Dm w.heap.size w [(#[j,n,en,k,g],30),((Ed (en+1) prev b kind a next B ok os C on f root E F es (.slice A G.length c) (.slice D H.length d)),88),(#[(),(),(),(),""],30)] (U.setCell ⟨w.heap.size+1,0,none⟩ (.int .i64 (en+1)))from by have h:=s.out.set 1 0 (.int .i64 (en+1)) _ rfl;simpa using h);obtain⟨W1,M⟩:=ex (U.setCell ⟨w.heap.size+1,0,none⟩ (.int .i64 (en+1)));rw[← M]at H1 ⊢;clear M X Y Z s V;have N:=Hq H1.out.Ah
  go_upto_region 3 with(first
   |with_reducible refine lL N.out Ds ?_
   |(go_at_call 174;(with_reducible refine(HP.out _ H1.out.below).mono ?_);rintro e w3 ⟨rfl,O⟩))
  have q:=Hq (H1.out.step O);clear O H1 N HP;have p:=Hq (show w3.heap[w.heap.size]? =some (.cells #[j,n,en,k,g] 30 (0,0))from by have h:=q.out.Ag;simpa using h)
  go_wp2_with(first
   |with_reducible refine lL p.out Fp ?_
   |with_reducible refine lS #[j,n,en,k,g] q.out.Ax ?_)
  refine rT3 () (.int .i64 1) q.out.Ax Fp ?_;rw[HO.out];exact⟨rfl,(q.out.row 2 _ _ rfl).below⟩
open Sc
theorem qV (z:Array Value)(n i:Nat)(hi:i<n):(madeCells z n)[i]? =some (z[i%z.size]!):=by
 unfold madeCells;rw[Array.getElem?_map,Array.getElem?_range,if_pos hi];rfl
theorem jA (k:Nat):madeCells (Value.agg #[(),"",(),false,()]).cells (k*5)=((Eh k).flatMap F4).toArray:=by
 have g:((Eh k).flatMap F4).length=k*5:=by rw[Di Cc,I7]
 apply Array.ext_getElem?
 intro i;have c:((Eh k).flatMap F4).toArray[i]? =((Eh k).flatMap F4)[i]? :=by simp
 rw[c]
 by_cases d:i<k*5
 ·have e:i=i/5*5+i%5:=by omega
  have a:i/5<(Eh k).length:=by rw[I7];omega
  have b:=Hu Cc (Eh k) (i/5) (i%5) a (by omega);rw[← e,Hd a]at b;rw[qV _ _ _ d,b];have f:i%5=0∨i%5=1∨i%5=2∨i%5=3∨i%5=4:=by omega
  show some (#[Value.int .i64 0,"",(),false,()][i%5]!)=_
  rcases f with h|h|h|h|h<;>rw[h]<;>rfl
 ·rw[Array.getElem?_eq_none (by rw[size_madeCells];omega),List.getElem?_eq_none (by omega)]
theorem Py (k:Nat)(e:k≤64)(W:World):(Instr.makeSlice 31 (.int .i64 (k:Int)) (.int .i64 (k:Int))).run Tryz.prog W= .ok (.slice (some ⟨W.heap.size,0,none⟩) k k) (W.alloc (.cells ((Eh k).flatMap F4).toArray 116)):=by
 obtain⟨i0,d,a,b,c⟩:=info_parts Wd;have h:=run_make (P:=Tryz.prog) W 31 116 i0 (.agg #[(),"",(),false,()]) qM d a .i64 .i64 (k:Int) (k:Int) (by omega) (by omega) (by rw[c];omega) (by omega);rw[b,Int.toNat_natCast,jA]at h;exact h
def nT (k:Nat)(w:World)(e:Ending)(w':World):Prop:=
 ∃ b,e= .returned (.tuple #[.agg #[.slice (some ⟨b,0,none⟩) k k,()],()])∧Reads w' (some ⟨b,0,none⟩) k k ((Eh k).flatMap F4)∧C4 w.heap.size w' 116 (some ⟨b,0,none⟩)∧Bw w w'
theorem jB (k:Nat)(j:1≤k∧k≤64)(w:World):
 Cq 44 #[.int .i64 (k:Int)] w (nT k w):=by
 have f:=fun W=>Py k j.2 W;have l:¬ (k:Int)<1:=by omega
 have m:¬ (64:Int)<(k:Int):=by omega
 generalize b:((Eh k).flatMap F4).toArray=fr at f;have g:=Hq b;clear b;go_enter Tryz.func44,Tryz.ntmps44;go_upto_region 1 with fail;have d:=Tq w #['s',()] 33;obtain⟨a,c⟩:=Dr d;rw[← c]at d ⊢;clear c;go_upto_region 3 with fail;have H1:=Hq (d.out.step (Ad a (.cells fr 116)));have n:=Hq (heap_alloc_new a (.cells fr 116))
 go_wp2_with(with_reducible refine lS #[.slice (some ⟨a.heap.size,0,none⟩) k k,()] H1.out.Ag ?_)
 refine rT2 () H1.out.Ag cP ?_;have o:w.heap.size<a.heap.size:=by have:=d.out.lt (i:=0) (by simp);omega
 have h:=(Aj (a.alloc (.cells fr 116)) w.heap.size #[.slice (some ⟨a.heap.size,0,none⟩) k k,()] a.heap.size (by omega)).trans n.out;refine⟨a.heap.size,rfl,Fu (T:=116) (by rw[h,← g.out]) (Nat.le_refl _),fun p e=>?_,(H1.out.row 0 _ _ rfl).below⟩
 injection e with e
 subst e;exact⟨by show w.heap.size≤a.heap.size;omega,_,_,h⟩
noncomputable def Gi (N:Nat):Lg.Lo×Int×Int:=Lg.Ay ⟨1,(N:Int),0,0,⟨#[]⟩⟩ (Rc.bare 1 0 0 1)
noncomputable def Bu (N n k:Nat):Tx.St:={nL N n k with log:=(Gi N).1,txns:=[⟨1,(Gi N).2.1,(Gi N).2.1,false⟩],next:=2}
theorem U4 {N n k:Nat}(a:1≤n∧n≤60∧N≤3000)(f:10≤N)(b:1≤k∧k≤64):∃ g:Lg.Lo,Gi N=(g,1,0)∧PI N n {nL N n k with log:=g} (Eh k) (fun _=>Gk (0:Nat)):=by
 have c:PI N n (nL N n k) (Eh k) (fun _=>Gk (0:Nat)):=tS a b;obtain⟨g2,e,d,_,_⟩:=c.log (Rc.bare 1 0 0 1) (.small 1 _ 0 1 (.inl rfl) ⟨by show(0:Int)≤0+1;decide,by show(0:Int)+1<_;decide⟩ Rc.vP ⟨by decide,by decide⟩) (by show(1:Int)≠9;decide) (by show(0:Int)+1262≤(N:Int)*128;omega);exact⟨g2,e,d⟩
theorem jC (N:Nat):Ww N (Gi N).1:=by
 refine Ww.append (l:=⟨1,(N:Int),0,0,⟨#[]⟩⟩) ⟨Int.le_refl _,?_,Int.le_refl _,Int.le_refl _,rfl,rfl,⟨Int.le_refl _,Int.le_refl _,rfl⟩⟩ _
 show(0:Int)≤(N:Int)*128
 omega
theorem Wm:Rc.num 1:=⟨by decide,by decide⟩
theorem Zd {N n k:Nat}(d:1≤n∧n≤60∧N≤3000)(o:10≤N)(l:1≤k∧k≤64):Wf N n 0 (Bu N n k) (Eh k):=by
 have a:=jC N;obtain⟨g,e,_⟩:=U4 d o l;have s:=a.ef;have p:=a.n;refine⟨rfl,rfl,d,⟨a.e0,by show(Gi N).1.end_≤_;omega,a.t0,a.t1,a.f,by show 0≤(Gi N).1.n;omega,by show(Gi N).1.n≤_;omega,a.al.s0,a.al.se⟩,a.al,a.n,a.ef,
  ⟨fun x q=>?_,⟨by show _≤(-1:Int);decide,by show(-1:Int)≤_;decide⟩,List.length_replicate⟩,by rw[I7];exact l,⟨Int.le_refl _,(by decide:(0:Int)≤64)⟩,fun i b=>?_,fun i j b u _ m _=>?_,by show 1≤800000;omega,fun t r=>?_⟩
 ·rw[(List.mem_replicate.1 q).2];exact Lg.Iz
 ·rw[Hd b]
  exact⟨by decide,⟨Int.le_refl _,Int.le_refl _⟩,Jn,⟨Int.le_refl _,by show(0:Int)<(n:Int);omega⟩,fun h=>absurd rfl h,fun h=>absurd rfl h⟩
 ·rw[Full,Hd b]at m;exact absurd rfl m
 ·have c:t=⟨1,(Gi N).2.1,(Gi N).2.1,false⟩:=by simpa[Bu]using r
  rw[c,e];exact⟨Wm,Wm,Wm⟩
theorem nU {N n k:Nat}(a:1≤n∧n≤60∧N≤3000)(b:10≤N)(c:1≤k∧k≤64):PQ N n (Bu N n k) (Eh k) (fun _=>Gk (0:Nat)):=by
 obtain⟨g,e,h⟩:=U4 a b c;exact⟨rfl,rfl,by show Pw _ _ (nL N n k).Am (Gi N).1;rw[e];exact h.pw,⟨h.fr.at_,h.fr.ds⟩,h.nm,h.dk⟩
theorem Te (N n k:Nat)(hn:1≤n∧n≤60∧N≤3000)(hk:1≤k∧k≤64)(w:World):
 Cq 45 #[.agg #[.int .i64 (N:Int),.int .i64 (n:Int),.int .i64 (k:Int)]] w fun e w'=>∃ q:SP,e= .returned (Af (Bu N n k) q)∧An w' (Bu N n k) q (Eh k)∧Bw w w':=by
 have r:=Hq (fun W=>show Cq 102 #[.int .i64 ((1+N+4*n:Nat):Int)] W (V2 (Lg.Ky (1+N+4*n)) W)from mH (1+N+4*n) (by omega) (by omega) W);have a1:=Hq (fun W=>jB k hk W);have a6:=Hq (fun W=>iZ 1 (N:Int) W);have v:=Hq (fun W=>show Cq 103 #[Oc ⟨1,(N:Int),0,0,⟨#[]⟩⟩,.agg #[(),(),.int .i64 1,.int .i64 1,(),(),(),(),(),"","",(),(),"",(),(),'s','s']] W (Sg (Gi N) W)from by
  have h0:=Qn ⟨1,(N:Int),0,0,⟨#[]⟩⟩ (Int.le_refl _) (by show(0:Int)≤1000000000;decide) (by show(0:Int)≤(N:Int);omega) (by show(N:Int)≤_;omega) (by show(0:Nat)≤1000000000;omega) (Rc.bare 1 0 0 1) none none 0 0 W (Su (Rc.bare 1 0 0 1) W rfl rfl) (.inl rfl);exact h0)
 have ay:IntKind.i64.wrap (1+(N:Int))=1+(N:Int):=IntWalk.i64_in _ (by omega);have az:IntKind.i64.wrap (4*(n:Int))=4*(n:Int):=IntWalk.i64_in _ (by omega);have aq:IntKind.i64.wrap (1+(N:Int)+4*(n:Int))=((1+N+4*n:Nat):Int):=(IntWalk.i64_in _ (by omega)).trans (by omega);have HS:=Hq (show Bu N n k=⟨(N:Int),(n:Int),(k:Int),Lg.Ky (1+N+4*n),(Gi N).1,0,[⟨1,(Gi N).2.1,(Gi N).2.1,false⟩],2⟩from rfl);generalize Bu N n k=S at HS ⊢;have x:(Lg.Ky (1+N+4*n)).left= -1∧(Lg.Ky (1+N+4*n)).down=false:=⟨rfl,rfl⟩;have HQ:=Hq (fun(w':World) (q:SP) (hp:An w' S q (Eh k)) (hb:Bw w w')=>show(fun(e:Ending) (w':World)=>∃ q:SP,e= .returned (Af S q)∧An w' S q (Eh k)∧Bw w w') (.returned (Af S q)) w' from⟨q,rfl,hp,hb⟩);generalize (fun(e:Ending) (w':World)=>∃ q:SP,e= .returned (Af S q)∧An w' S q (Eh k)∧Bw w w')=Q at HQ ⊢;generalize Lg.Ky (1+N+4*n)=d at r HS x;obtain⟨L,dl,dd⟩:=d;simp only at x;obtain⟨rfl,rfl⟩:=x;generalize Gi N=a at v HS;obtain⟨l,b,le⟩:=a;simp only at HS;generalize hM:((1+N+4*n:Nat):Int)=M at r aq;clear hM;go_enter Tryz.func45,Tryz.ntmps45;go_upto_region 1 with fail;have X:=Il w #[.int .i64 (N:Int),.int .i64 (n:Int),.int .i64 (k:Int)] 25 #[(),(),(),'s',(),false,(),(),(),(),"",'s',(),'s',()] 36;obtain⟨W0,a7⟩:=Dr X;rw[← a7]at X ⊢;clear a7;have y:=show W0.cell? ⟨w.heap.size,0,none⟩=some (.int .i64 (N:Int))from by rw[Aa X.out.Ag];rfl
 have ar:=show W0.cell? ⟨w.heap.size,1,none⟩=some (.int .i64 (n:Int))from by rw[Aa X.out.Ag];rfl
 go_upto_region 2 with(first
  |(go_at_call 102;refine(r.out _).mono ?_;rintro e Y ⟨A,c,rfl,a8,aa,z⟩)
  |with_reducible refine sN #[.slice A L.length c,.int .i64 (-1),false] ?_)
 have ae:=z.trans ((Ad Y (.cells #[.slice A L.length c,.int .i64 (-1),false] 28)).mono z.size);have H2:=Hq (X.out.step ae);have B:=Hq (heap_alloc_new Y (.cells #[.slice A L.length c,.int .i64 (-1),false] 28));have C:=Hq (a8.below (Ad Y (.cells #[.slice A L.length c,.int .i64 (-1),false] 28)));have D:=Hq (aa.below (Ad Y (.cells #[.slice A L.length c,.int .i64 (-1),false] 28)));obtain⟨g1,E⟩:=ex Y.heap.size;obtain⟨w2,h⟩:=ex (Y.alloc (.cells #[.slice A L.length c,.int .i64 (-1),false] 28));rw[← E,← h]at B;rw[← h]at H2 C D;rw[← h,← E];clear h E z ae X a8 aa y ar
 try simp only[Act.put]
 have au:=show w2.cell? ⟨w.heap.size,2,none⟩=some (.int .i64 (k:Int))from by rw[Aa H2.out.Ag];rfl
 go_upto_region 3 with(first
  |(go_at_call 44;refine(a1.out _).mono ?_;rintro e Z ⟨m,rfl,af,ag,F⟩)
  |with_reducible refine sN #[.slice (some ⟨m,0,none⟩) k k,()] ?_)
 have o:=F.trans ((Ad Z (.cells #[.slice (some ⟨m,0,none⟩) k k,()] 33)).mono F.size);have H4:=Hq (H2.out.step o);have G:=Hq (Ac B.out o);have H:=Hq (heap_alloc_new Z (.cells #[.slice (some ⟨m,0,none⟩) k k,()] 33));have I:=Hq (C.out.below o);have J:=Hq (D.out.below o);have K:=Hq (af.below (Ad Z (.cells #[.slice (some ⟨m,0,none⟩) k k,()] 33)));have p:=Hq (ag.below (Ad Z (.cells #[.slice (some ⟨m,0,none⟩) k k,()] 33)));obtain⟨g2,O⟩:=ex Z.heap.size;obtain⟨w4,i⟩:=ex (Z.alloc (.cells #[.slice (some ⟨m,0,none⟩) k k,()] 33));rw[← O,← i]at H;rw[← i]at H4 G I J K p;rw[← i,← O];clear i O F o H2 B C D af ag au r a1
 try simp only[Act.put]
 have y:=show w4.cell? ⟨w.heap.size,0,none⟩=some (.int .i64 (N:Int))from by rw[Aa H4.out.Ag];rfl
 go_upto_region 4 with(first
  |(go_at_call 104;refine(a6.out _).mono ?_;rintro e w5 ⟨rfl,ah⟩)
  |(go_at_call 103;refine(v.out _).mono ?_;rintro e w6 ⟨rfl,ai⟩)
  |with_reducible refine sN #[l.from_,l.n,l.end_,l.safe,l.tail] ?_)
 have f:=Ae ah (Ae ai (Ad w6 (.cells #[l.from_,l.n,l.end_,l.safe,l.tail] 30)));have H7:=Hq (H4.out.step f);have P:=Hq (Ac G.out f);have R:=Hq (Ac H.out f);have U:=Hq (heap_alloc_new w6 (.cells #[l.from_,l.n,l.end_,l.safe,l.tail] 30));have aj:=Hq (I.out.below f);have ak:=Hq (J.out.below f);have al:=Hq (K.out.below f);have s:=Hq (p.out.below f);obtain⟨g3,V⟩:=ex w6.heap.size;obtain⟨u,j⟩:=ex (w6.alloc (.cells #[l.from_,l.n,l.end_,l.safe,l.tail] 30));rw[← V,← j]at U;rw[← j]at H7 P R aj ak al s;rw[← j,← V];clear j V ah ai f H4 G H I J K p y a6 v
 try simp only[Act.put]
 have g:=Ad u (.cells #[.int .i64 1,b,b,false] 134);have H8:=Hq (H7.out.step g);have an:=Hq (heap_alloc_new u (.cells #[.int .i64 1,b,b,false] 134));have b0:=Hq (Ac P.out g);have b1:=Hq (Ac R.out g);have b2:=Hq (Ac U.out g);have av:=Hq (aj.out.below g);have aw:=Hq (ak.out.below g);have ax:=Hq (al.out.below g);have ao:=Hq (s.out.below g)
 go_wp2_with(first
  |with_reducible refine lL H7.out.Ag qW ?_
  |with_reducible refine lL P.out Bz ?_
  |with_reducible refine lL U.out Fp ?_
  |with_reducible refine lL R.out cP ?_
  |with_reducible refine lS (Ai ⟨(N:Int),(n:Int),(k:Int),⟨L,-1,false⟩,l,0,[⟨1,b,b,false⟩],2⟩ ⟨A,c,some ⟨m,0,none⟩,k,k,some ⟨u.heap.size,0,none⟩,1⟩) H8.out.Ah ?_)
 refine rT1 H8.out.Ah Ak ?_;have hs:=HS.out;subst hs;have hp:An (u.alloc (.cells #[.int .i64 1,b,b,false] 134)) ⟨(N:Int),(n:Int),(k:Int),⟨L,-1,false⟩,l,0,[⟨1,b,b,false⟩],2⟩ ⟨A,c,some ⟨m,0,none⟩,k,k,some ⟨u.heap.size,0,none⟩,1⟩ (Eh k):=⟨⟨av.out,aw.out.mono (Nat.zero_le _),Fu (T:=134) (by rw[an.out];rfl) (Nat.le_refl _),fun ad e=>by
  injection e with e
  subst e;exact⟨Nat.zero_le _,_,_,an.out⟩⟩,(I7 k).symm,by rw[I7];exact ax.out,ao.out.mono (Nat.zero_le _)⟩
 exact HQ.out _ ⟨A,c,some ⟨m,0,none⟩,k,k,some ⟨u.heap.size,0,none⟩,1⟩ (hp.other (t:=36) H8.out.Ah (by decide) (by decide) (by decide) (Ai ⟨(N:Int),(n:Int),(k:Int),⟨L,-1,false⟩,l,0,[⟨1,b,b,false⟩],2⟩ ⟨A,c,some ⟨m,0,none⟩,k,k,some ⟨u.heap.size,0,none⟩,1⟩)) (H8.out.row 1 (Ai ⟨(N:Int),(n:Int),(k:Int),⟨L,-1,false⟩,l,0,[⟨1,b,b,false⟩],2⟩ ⟨A,c,some ⟨m,0,none⟩,k,k,some ⟨u.heap.size,0,none⟩,1⟩) _ rfl).below
end Go.Proofs.YtmldoihahndcgaaGreatDoor
