import Derived.Test.YtmldoihahndcgaaGreatDoorHs00
import Derived.Test.YtmldoihahndcgaaGreatDoorHs11
import Derived.Lib.ConvBytes
import Derived.Lib.AppendStr
import Derived.Lib.FrozenHead
import Derived.Deep.MidRow
import Derived.Lib.LazyBuf
import Derived.Test.YtmldoihahndcgaaGreatDoorHs01
import Derived.Test.YtmldoihahndcgaaGreatDoorHs12
import Derived.BigRegion
import Derived.Test.YtmldoihahndcgaaGreatDoorHs05
import Derived.Test.YtmldoihahndcgaaGreatDoorHs10
import Derived.Test.YtmldoihahndcgaaGreatDoorHs07
import Derived.BigQuiet
set_option maxRecDepth 100000
set_option maxHeartbeats 16000000
set_option linter.unusedSimpArgs false
namespace Go.Proofs.YtmldoihahndcgaaGreatDoor
open Go.RowKit
end Go.Proofs.YtmldoihahndcgaaGreatDoor
namespace Rc
theorem gY {α:Type}(f:α→List UInt8)(l:List α)(k:Nat)(h:k<l.length):(l.take (k+1)).flatMap f=(l.take k).flatMap f++f l[k]:=by
 rw[List.take_add_one,List.getElem?_eq_getElem h,List.flatMap_append]
 simp
end Rc
namespace Go.Proofs.YtmldoihahndcgaaGreatDoor
open Go.RowKit
theorem jR (r:Rc.Rec)(b7:Rc.Bs r)(A B:Option Addr)(c d:Nat)(w:World)(hr:Hv w r A c B d)(b8:r.kind=1∨r.kind=2∨r.kind=3∨r.kind=8):
 Cr 226 #[D7 r (.slice A r.txns.length c) (.slice B r.dirty.length d)] w (.string (Rc.mk (Rc.Dj r))):=by
 have HF:=Hq (Rc.F0 b7);have dc:=Hq hr;clear b7 hr;obtain⟨f,prev,h,kind,Ac,next,nu,⟨ok,os,k,on⟩,j,root,⟨L,H,es⟩,ts,ds⟩:=r;have hk:=HF.out.kind;dsimp only at hk;have h9:kind=1∨kind=2∨kind=3∨kind=8:=b8;clear b8;have HK:=Hq h9;clear hk h9;dsimp only[D7,Dz];obtain⟨w0,a8⟩:=ex (w.alloc (.cells (Ct f prev h kind Ac next nu ok os k on j root L H es (.slice A ts.length c) (.slice B ds.length d)) 88));have b9:=Hq (show Bw w w0 from by rw[a8];exact Ab _ _);have ag:=Hq (show w0.heap[w.heap.size]? =some (.cells (Ct f prev h kind Ac next nu ok os k on j root L H es (.slice A ts.length c) (.slice B ds.length d)) 88 (0,0))from by rw[a8];exact heap_alloc_new _ _);obtain⟨R,hR⟩:=ex (Rc.mk (Rc.Dj ⟨f,prev,h,kind,Ac,next,nu,⟨ok,os,k,on⟩,j,root,⟨L,H,es⟩,ts,ds⟩));rw[← hR];have HR:=Hq hR;clear hR;obtain⟨B1,ah⟩:=ex (Rc.mk (Rc.p kind 1));have cg:((Rc.p kind 1)).length=1:=Rc.A6 _ _;have ba:=Hq (show ∀ W,Cr 206 #[kind,.int .i64 1] W (.string B1) from fun W=>by rw[ah];exact Ft kind 1 (by omega) W);obtain⟨B2,ai⟩:=ex (Rc.mk (Rc.p f 6));have cj:((Rc.p f 6)).length=6:=Rc.A6 _ _;have bb:=Hq (show ∀ W,Cr 206 #[f,.int .i64 6] W (.string B2) from fun W=>by rw[ai];exact Ft f 6 (by omega) W);obtain⟨S2,aj⟩:=ex (Rc.mk ((Rc.p kind 1)++(Rc.p f 6)));have ck:∀ W:World,(Op.stringOp .add B1 B2).run Tryz.prog W= .ok (.string S2) W:=fun W=>by rw[ah,ai,aj];exact Fy _ _ (by(try simp only[Rc.A6]);omega) W
 obtain⟨B3,ak⟩:=ex (Rc.mk (Rc.p prev 6));have cm:((Rc.p prev 6)).length=6:=Rc.A6 _ _;have bc:=Hq (show ∀ W,Cr 206 #[prev,.int .i64 6] W (.string B3) from fun W=>by rw[ak];exact Ft prev 6 (by omega) W);obtain⟨S3,an⟩:=ex (Rc.mk (((Rc.p kind 1)++(Rc.p f 6))++(Rc.p prev 6)));have cn:∀ W:World,(Op.stringOp .add S2 B3).run Tryz.prog W= .ok (.string S3) W:=fun W=>by rw[aj,ak,an];exact Fy _ _ (by(try simp only[List.length_append,Rc.A6]);omega) W
 obtain⟨B4,ao⟩:=ex (Rc.mk (Rc.p h 6));have cp:((Rc.p h 6)).length=6:=Rc.A6 _ _;have bd:=Hq (show ∀ W,Cr 206 #[h,.int .i64 6] W (.string B4) from fun W=>by rw[ao];exact Ft h 6 (by omega) W);obtain⟨S4,l⟩:=ex (Rc.mk ((((Rc.p kind 1)++(Rc.p f 6))++(Rc.p prev 6))++(Rc.p h 6)));have cq:∀ W:World,(Op.stringOp .add S3 B4).run Tryz.prog W= .ok (.string S4) W:=fun W=>by rw[an,ao,l];exact Fy _ _ (by(try simp only[List.length_append,Rc.A6]);omega) W
 have aa:=Hq l;have F:((((Rc.p kind 1)++(Rc.p f 6))++(Rc.p prev 6))++(Rc.p h 6)).length=19:=by simp only[List.length_append];omega
 have aq:=Hq F;clear ah cg;clear ai cj;clear ak cm;clear ao cp;clear aj;clear an;clear l;clear F;go_enter Tryz.func226,Tryz.ntmps226;go_upto_region 1 with fail;rw[← a8];clear a8;obtain⟨g,hg⟩:=ex w.heap.size;rw[← hg]at ag;rw[← hg];have cr:w.heap.size≤g:=Nat.le_of_eq hg.symm;clear hg
 go_cut [3] (fun s3 wc=>s3= .string S4∧wc.heap[g]? =some (.cells (Ct f prev h kind Ac next nu ok os k on j root L H es (.slice A ts.length c) (.slice B ds.length d)) 88 (0,0))∧Bw w wc)
 case first=>
  go_upto_region 1 with fail;have bf:=Ae ag.out (Below.refl _ w0).drew;have bg:=Ad b9.out (Below.refl _ w0).drew;refine Gd (S:=(fun u=>u.heap[g]? =some (.cells (Ct f prev h kind Ac next nu ok os k on j root L H es (.slice A ts.length c) (.slice B ds.length d)) 88 (0,0)))) (fun a=>?_);refine Au 0 ?_;refine Au 1 ?_;refine Au 3 ?_;refine Au 4 ?_;refine Au 7 ?_;refine Au 8 ?_;refine Au 11 ?_;refine Au 12 ?_;refine Ch 2 fun K i=>?_
  go_simp
  refine(ba.out _).mono ?_;rintro e dd ⟨rfl,b⟩;have ar:=Ae bf b;have bh:=Ad bg b;try clear hSn
  have hSn:=ar;clear b;refine Bq i (fun a=>?_);clear i K;refine Ch 5 fun K i=>?_
  go_simp
  refine(bb.out _).mono ?_;rintro e de ⟨rfl,b⟩;have au:=Ae ar b;have bj:=Ad bh b;try clear hSn
  have hSn:=au;clear b;refine Bq i (fun a=>?_);clear i K;refine Au 6 ?_;refine Ch 9 fun K i=>?_
  go_simp
  refine(bc.out _).mono ?_;rintro e df ⟨rfl,b⟩;have av:=Ae au b;have bk:=Ad bj b;try clear hSn
  have hSn:=av;clear b;refine Bq i (fun a=>?_);clear i K;refine Au 10 ?_;refine Ch 13 fun K i=>?_
  go_simp
  refine(bd.out _).mono ?_;rintro e dh ⟨rfl,b⟩;have aw:=Ae av b;have bl:=Ad bk b;try clear hSn
  have hSn:=aw;clear b;refine Bq i (fun a=>?_);clear i K;refine Au 14 ?_;refine Au 15 ?_;refine wpAnyH_done Kr ?_ _;have E:=Hq aw;have M:=Hq bl;clear a hSn bf bg ar bh au bj av bk aw bl;go_wp2_with fail;go_meet
  case rel=>exact⟨rfl,E.out,M.out⟩
 case rest=>
  obtain⟨rfl,bm,bn⟩:=hcut;obtain⟨w1,rfl⟩:=ex wc;have E:=Hq bm;have M:=Hq bn;clear bm bn ag b9 ba bb bc bd ck cn cq cr;rcases HK.out with rfl|rfl|rfl|rfl
  ·skip<;>(
   have l:=aa.out;have HE:=Hq (show S4=R from by rw[l,HR.out];(congr 1)<;>(unfold Rc.Dj;rw[show Rc.F4 _=[]from by unfold Rc.F4;rfl];unfold Rc.Ga;simp only[List.append_assoc,List.append_nil]));have V:=Aa E.out;clear l;go_wp2_with fail;go_ret;exact⟨by rw[← HE.out];rfl,M.out⟩)
  ·have l:=aa.out
   have F:=aq.out;have V:=Aa E.out;obtain⟨-,-,-,h4,h5⟩:=(HF.out.change (by unfold Rc.E1;simp)).2;dsimp only at h4 h5;have X:k.size≤65535:=(by omega);have Y:on.size≤65535:=(by omega);clear h4 h5;obtain⟨B5,o⟩:=ex (Rc.mk (Rc.p Ac 3));have O:((Rc.p Ac 3)).length=3:=Rc.A6 _ _;have P:=Hq (show ∀ W,Cr 206 #[Ac,.int .i64 3] W (.string B5) from fun W=>by rw[o];exact Ft Ac 3 (by omega) W);obtain⟨S5,q⟩:=ex (Rc.mk (((((Rc.p 2 1)++(Rc.p f 6))++(Rc.p prev 6))++(Rc.p h 6))++(Rc.p Ac 3)));have bo:∀ W:World,(Op.stringOp .add S4 B5).run Tryz.prog W= .ok (.string S5) W:=fun W=>by rw[l,o,q];exact Fy _ _ (by(try simp only[List.length_append,Rc.A6]);omega) W
   obtain⟨B6,s⟩:=ex (Rc.mk (Rc.Mn ⟨ok,os,k,on⟩));have Q:((Rc.Mn ⟨ok,os,k,on⟩)).length≤140000:=(by unfold Rc.Mn;simp only[List.length_append,Rc.A6,Rc.Rw];omega);have T:=Hq (show ∀ W,Cr 274 #[.agg #[ok,os,k,on]] W (.string B6) from fun W=>by rw[s];exact Sr ⟨ok,os,k,on⟩ X Y W);obtain⟨S6,v⟩:=ex (Rc.mk ((((((Rc.p 2 1)++(Rc.p f 6))++(Rc.p prev 6))++(Rc.p h 6))++(Rc.p Ac 3))++(Rc.Mn ⟨ok,os,k,on⟩)));have bp:∀ W:World,(Op.stringOp .add S5 B6).run Tryz.prog W= .ok (.string S6) W:=fun W=>by rw[q,s,v];exact Fy _ _ (by(try simp only[List.length_append,Rc.A6]);omega) W
   obtain⟨B7,I⟩:=ex (Rc.mk (Rc.p j 1));have ad:((Rc.p j 1)).length=1:=Rc.A6 _ _;have ae:=Hq (show ∀ W,Cr 206 #[j,.int .i64 1] W (.string B7) from fun W=>by rw[I];exact Ft j 1 (by omega) W);obtain⟨S7,G⟩:=ex (Rc.mk (((((((Rc.p 2 1)++(Rc.p f 6))++(Rc.p prev 6))++(Rc.p h 6))++(Rc.p Ac 3))++(Rc.Mn ⟨ok,os,k,on⟩))++(Rc.p j 1)));have ct:∀ W:World,(Op.stringOp .add S6 B7).run Tryz.prog W= .ok (.string S7) W:=fun W=>by rw[v,I,G];exact Fy _ _ (by(try simp only[List.length_append,Rc.A6]);omega) W
   by_cases hh:j=1
   ·have cu:(j==1)=true:=by simpa using hh
    have HE:=Hq (show S7=R from by rw[G,HR.out];(congr 1)<;>(unfold Rc.Dj;rw[Rc.Ny rfl];unfold Rc.Ga;unfold Rc.Mt;rw[if_pos hh];simp only[List.append_assoc,List.append_nil]));clear hh o O q s Q v I ad G l F;go_upto_region 4 with fail;have x:=Ae E.out (Below.refl _ w1).drew;have y:=Ad M.out (Below.refl _ w1).drew;refine Gd (S:=(fun u=>u.heap[g]? =some (.cells (Ct f prev h 2 Ac next nu ok os k on j root L H es (.slice A ts.length c) (.slice B ds.length d)) 88 (0,0)))) (fun a=>?_);refine Au 0 ?_;refine Au 1 ?_;refine Au 2 ?_;refine Au 5 ?_;refine Au 6 ?_;refine Au 9 ?_;refine Au 10 ?_;refine Ch 3 fun K i=>?_
    go_simp
    refine(P.out _).mono ?_;rintro e ax ⟨rfl,b⟩;have m:=Ae x b;have z:=Ad y b;try clear hSn
    have hSn:=m;clear b;refine Bq i (fun a=>?_);clear i K;refine Au 4 ?_;refine Ch 7 fun K i=>?_
    go_simp
    refine(T.out _).mono ?_;rintro e ay ⟨rfl,b⟩;have n:=Ae m b;have C:=Ad z b;try clear hSn
    have hSn:=n;clear b;refine Bq i (fun a=>?_);clear i K;refine Au 8 ?_;refine Ch 11 fun K i=>?_
    go_simp
    refine(ae.out _).mono ?_;rintro e af ⟨rfl,b⟩;have D:=Ae n b;have J:=Ad C b;try clear hSn
    have hSn:=D;clear b;refine Bq i (fun a=>?_);clear i K;refine Au 12 ?_;refine Au 13 ?_;refine wpAnyH_done Kr ?_ _;have U:=Hq D;have N:=Hq J;clear a hSn x y m z n C D J;have bq:=Aa U.out;go_wp2_with fail;go_ret;exact⟨by rw[← HE.out];rfl,N.out⟩
   ·have cu:(j==1)=false:=by simpa using hh
    have br:L.size≤65535:=by
     rcases HF.out.tree rfl with⟨h7,_⟩|⟨_,_,_,_,h8⟩
     ·exact absurd h7 hh
     ·dsimp only at h8;omega
    obtain⟨B8,az⟩:=ex (Rc.mk (Rc.p root 3));have cv:((Rc.p root 3)).length=3:=Rc.A6 _ _;have cw:=Hq (show ∀ W,Cr 206 #[root,.int .i64 3] W (.string B8) from fun W=>by rw[az];exact Ft root 3 (by omega) W);obtain⟨S8,b0⟩:=ex (Rc.mk ((((((((Rc.p 2 1)++(Rc.p f 6))++(Rc.p prev 6))++(Rc.p h 6))++(Rc.p Ac 3))++(Rc.Mn ⟨ok,os,k,on⟩))++(Rc.p j 1))++(Rc.p root 3)));have di:∀ W:World,(Op.stringOp .add S7 B8).run Tryz.prog W= .ok (.string S8) W:=fun W=>by rw[G,az,b0];exact Fy _ _ (by(try simp only[List.length_append,Rc.A6]);omega) W
    obtain⟨B9,b1⟩:=ex (Rc.mk (Rc.p H 3));have cx:((Rc.p H 3)).length=3:=Rc.A6 _ _;have cy:=Hq (show ∀ W,Cr 206 #[H,.int .i64 3] W (.string B9) from fun W=>by rw[b1];exact Ft H 3 (by omega) W);obtain⟨S9,b2⟩:=ex (Rc.mk (((((((((Rc.p 2 1)++(Rc.p f 6))++(Rc.p prev 6))++(Rc.p h 6))++(Rc.p Ac 3))++(Rc.Mn ⟨ok,os,k,on⟩))++(Rc.p j 1))++(Rc.p root 3))++(Rc.p H 3)));have dj:∀ W:World,(Op.stringOp .add S8 B9).run Tryz.prog W= .ok (.string S9) W:=fun W=>by rw[b0,b1,b2];exact Fy _ _ (by(try simp only[List.length_append,Rc.A6]);omega) W
    obtain⟨bs,Z⟩:=ex (Rc.mk (Rc.p es 2));have bt:((Rc.p es 2)).length=2:=Rc.A6 _ _;have bu:=Hq (show ∀ W,Cr 206 #[es,.int .i64 2] W (.string bs) from fun W=>by rw[Z];exact Ft es 2 (by omega) W);obtain⟨bw,a1⟩:=ex (Rc.mk ((((((((((Rc.p 2 1)++(Rc.p f 6))++(Rc.p prev 6))++(Rc.p h 6))++(Rc.p Ac 3))++(Rc.Mn ⟨ok,os,k,on⟩))++(Rc.p j 1))++(Rc.p root 3))++(Rc.p H 3))++(Rc.p es 2)));have da:∀ W:World,(Op.stringOp .add S9 bs).run Tryz.prog W= .ok (.string bw) W:=fun W=>by rw[b2,Z,a1];exact Fy _ _ (by(try simp only[List.length_append,Rc.A6]);omega) W
    obtain⟨bx,a6⟩:=ex (Rc.mk (Rc.t L));have bz:((Rc.t L)).length≤70000:=(by rw[Rc.Rw];omega);have c6:=Hq (show ∀ W,Cr 275 #[L] W (.string bx) from fun W=>by rw[a6];exact Kz L br W);obtain⟨c7,a7⟩:=ex (Rc.mk (((((((((((Rc.p 2 1)++(Rc.p f 6))++(Rc.p prev 6))++(Rc.p h 6))++(Rc.p Ac 3))++(Rc.Mn ⟨ok,os,k,on⟩))++(Rc.p j 1))++(Rc.p root 3))++(Rc.p H 3))++(Rc.p es 2))++(Rc.t L)));have db:∀ W:World,(Op.stringOp .add bw bx).run Tryz.prog W= .ok (.string c7) W:=fun W=>by rw[a1,a6,a7];exact Fy _ _ (by(try simp only[List.length_append,Rc.A6]);omega) W
    have HE:=Hq (show c7=R from by rw[a7,HR.out];(congr 1)<;>(unfold Rc.Dj;rw[Rc.Ny rfl];unfold Rc.Ga;unfold Rc.Mt;rw[if_neg hh];simp only[List.append_assoc]));clear hh br;clear o O q;clear s Q v;clear I ad G;clear az cv b0;clear b1 cx b2;clear Z bt a1;clear a6 bz a7;clear l F;go_upto_region 4 with fail;have x:=Ae E.out (Below.refl _ w1).drew;have y:=Ad M.out (Below.refl _ w1).drew;refine Gd (S:=(fun u=>u.heap[g]? =some (.cells (Ct f prev h 2 Ac next nu ok os k on j root L H es (.slice A ts.length c) (.slice B ds.length d)) 88 (0,0)))) (fun a=>?_);refine Au 0 ?_;refine Au 1 ?_;refine Au 2 ?_;refine Au 5 ?_;refine Au 6 ?_;refine Au 9 ?_;refine Au 10 ?_;refine Ch 3 fun K i=>?_
    go_simp
    refine(P.out _).mono ?_;rintro e ax ⟨rfl,b⟩;have m:=Ae x b;have z:=Ad y b;try clear hSn
    have hSn:=m;clear b;refine Bq i (fun a=>?_);clear i K;refine Au 4 ?_;refine Ch 7 fun K i=>?_
    go_simp
    refine(T.out _).mono ?_;rintro e ay ⟨rfl,b⟩;have n:=Ae m b;have C:=Ad z b;try clear hSn
    have hSn:=n;clear b;refine Bq i (fun a=>?_);clear i K;refine Au 8 ?_;refine Ch 11 fun K i=>?_
    go_simp
    refine(ae.out _).mono ?_;rintro e af ⟨rfl,b⟩;have D:=Ae n b;have J:=Ad C b;try clear hSn
    have hSn:=D;clear b;refine Bq i (fun a=>?_);clear i K;refine Au 12 ?_;refine Au 13 ?_;refine wpAnyH_done Kr ?_ _;have U:=Hq D;have N:=Hq J;clear a hSn x y m z n C D J;have bq:=Aa U.out;go_upto_region 7 with fail;have c8:=Ae U.out (Below.refl _ af).drew;have ca:=Ad N.out (Below.refl _ af).drew;refine Gd (S:=(fun u=>u.heap[g]? =some (.cells (Ct f prev h 2 Ac next nu ok os k on j root L H es (.slice A ts.length c) (.slice B ds.length d)) 88 (0,0)))) (fun a=>?_);refine Au 0 ?_;refine Au 1 ?_;refine Au 2 ?_;refine Au 5 ?_;refine Au 6 ?_;refine Au 7 ?_;refine Au 8 ?_;refine Au 11 ?_;refine Au 12 ?_;refine Au 13 ?_;refine Au 14 ?_;refine Au 17 ?_;refine Au 18 ?_;refine Au 19 ?_;refine Ch 3 fun K i=>?_
    go_simp
    refine(cw.out _).mono ?_;rintro e dk ⟨rfl,b⟩;have b3:=Ae c8 b;have cb:=Ad ca b;try clear hSn
    have hSn:=b3;clear b;refine Bq i (fun a=>?_);clear i K;refine Au 4 ?_;refine Ch 9 fun K i=>?_
    go_simp
    refine(cy.out _).mono ?_;rintro e dm ⟨rfl,b⟩;have b4:=Ae b3 b;have cc:=Ad cb b;try clear hSn
    have hSn:=b4;clear b;refine Bq i (fun a=>?_);clear i K;refine Au 10 ?_;refine Ch 15 fun K i=>?_
    go_simp
    refine(bu.out _).mono ?_;rintro e dn ⟨rfl,b⟩;have b5:=Ae b4 b;have cd:=Ad cc b;try clear hSn
    have hSn:=b5;clear b;refine Bq i (fun a=>?_);clear i K;refine Au 16 ?_;refine Ch 20 fun K i=>?_
    go_simp
    refine(c6.out _).mono ?_;rintro e dp ⟨rfl,b⟩;have b6:=Ae b5 b;have cf:=Ad cd b;try clear hSn
    have hSn:=b6;clear b;refine Bq i (fun a=>?_);clear i K;refine Au 21 ?_;refine Au 22 ?_;refine wpAnyH_done Kr ?_ _;have dq:=Hq b6;have cz:=Hq cf;clear a hSn c8 ca b3 cb b4 cc b5 cd b6 cf;go_wp2_with fail;go_ret;exact⟨by rw[← HE.out];rfl,cz.out⟩
  ·have l:=aa.out
   have F:=aq.out;have V:=Aa E.out;obtain⟨-,-,-,h4,h5⟩:=(HF.out.change (by unfold Rc.E1;simp)).2;dsimp only at h4 h5;have X:k.size≤65535:=(by omega);have Y:on.size≤65535:=(by omega);clear h4 h5;obtain⟨B5,o⟩:=ex (Rc.mk (Rc.p Ac 3));have O:((Rc.p Ac 3)).length=3:=Rc.A6 _ _;have P:=Hq (show ∀ W,Cr 206 #[Ac,.int .i64 3] W (.string B5) from fun W=>by rw[o];exact Ft Ac 3 (by omega) W);obtain⟨S5,q⟩:=ex (Rc.mk (((((Rc.p 3 1)++(Rc.p f 6))++(Rc.p prev 6))++(Rc.p h 6))++(Rc.p Ac 3)));have bo:∀ W:World,(Op.stringOp .add S4 B5).run Tryz.prog W= .ok (.string S5) W:=fun W=>by rw[l,o,q];exact Fy _ _ (by(try simp only[List.length_append,Rc.A6]);omega) W
   obtain⟨B6,s⟩:=ex (Rc.mk (Rc.Mn ⟨ok,os,k,on⟩));have Q:((Rc.Mn ⟨ok,os,k,on⟩)).length≤140000:=(by unfold Rc.Mn;simp only[List.length_append,Rc.A6,Rc.Rw];omega);have T:=Hq (show ∀ W,Cr 274 #[.agg #[ok,os,k,on]] W (.string B6) from fun W=>by rw[s];exact Sr ⟨ok,os,k,on⟩ X Y W);obtain⟨S6,v⟩:=ex (Rc.mk ((((((Rc.p 3 1)++(Rc.p f 6))++(Rc.p prev 6))++(Rc.p h 6))++(Rc.p Ac 3))++(Rc.Mn ⟨ok,os,k,on⟩)));have bp:∀ W:World,(Op.stringOp .add S5 B6).run Tryz.prog W= .ok (.string S6) W:=fun W=>by rw[q,s,v];exact Fy _ _ (by(try simp only[List.length_append,Rc.A6]);omega) W
   obtain⟨B7,I⟩:=ex (Rc.mk (Rc.p next 6));have ad:((Rc.p next 6)).length=6:=Rc.A6 _ _;have ae:=Hq (show ∀ W,Cr 206 #[next,.int .i64 6] W (.string B7) from fun W=>by rw[I];exact Ft next 6 (by omega) W);obtain⟨S7,G⟩:=ex (Rc.mk (((((((Rc.p 3 1)++(Rc.p f 6))++(Rc.p prev 6))++(Rc.p h 6))++(Rc.p Ac 3))++(Rc.Mn ⟨ok,os,k,on⟩))++(Rc.p next 6)));have ct:∀ W:World,(Op.stringOp .add S6 B7).run Tryz.prog W= .ok (.string S7) W:=fun W=>by rw[v,I,G];exact Fy _ _ (by(try simp only[List.length_append,Rc.A6]);omega) W
   have HE:=Hq (show S7=R from by rw[G,HR.out];(congr 1)<;>(unfold Rc.Dj;rw[Rc.Ql rfl];unfold Rc.Ga;simp only[List.append_assoc]));clear o O q;clear s Q v;clear I ad G;clear l F;go_upto_region 9 with fail;have x:=Ae E.out (Below.refl _ w1).drew;have y:=Ad M.out (Below.refl _ w1).drew;refine Gd (S:=(fun u=>u.heap[g]? =some (.cells (Ct f prev h 3 Ac next nu ok os k on j root L H es (.slice A ts.length c) (.slice B ds.length d)) 88 (0,0)))) (fun a=>?_);refine Au 0 ?_;refine Au 1 ?_;refine Au 2 ?_;refine Au 5 ?_;refine Au 6 ?_;refine Au 9 ?_;refine Au 10 ?_;refine Ch 3 fun K i=>?_
   go_simp
   refine(P.out _).mono ?_;rintro e ax ⟨rfl,b⟩;have m:=Ae x b;have z:=Ad y b;try clear hSn
   have hSn:=m;clear b;refine Bq i (fun a=>?_);clear i K;refine Au 4 ?_;refine Ch 7 fun K i=>?_
   go_simp
   refine(T.out _).mono ?_;rintro e ay ⟨rfl,b⟩;have n:=Ae m b;have C:=Ad z b;try clear hSn
   have hSn:=n;clear b;refine Bq i (fun a=>?_);clear i K;refine Au 8 ?_;refine Ch 11 fun K i=>?_
   go_simp
   refine(ae.out _).mono ?_;rintro e af ⟨rfl,b⟩;have D:=Ae n b;have J:=Ad C b;try clear hSn
   have hSn:=D;clear b;refine Bq i (fun a=>?_);clear i K;refine Au 12 ?_;refine Au 13 ?_;refine wpAnyH_done Kr ?_ _;have U:=Hq D;have N:=Hq J;clear a hSn x y m z n C D J;go_wp2_with fail;go_ret;exact⟨by rw[← HE.out];rfl,N.out⟩
  ·have l:=aa.out
   have F:=aq.out;have V:=Aa E.out;obtain⟨-,-,-,h4,h5⟩:=(HF.out.change (by unfold Rc.E1;simp)).2;dsimp only at h4 h5;have X:k.size≤65535:=(by omega);have Y:on.size≤65535:=(by omega);clear h4 h5;obtain⟨B5,o⟩:=ex (Rc.mk (Rc.p Ac 3));have O:((Rc.p Ac 3)).length=3:=Rc.A6 _ _;have P:=Hq (show ∀ W,Cr 206 #[Ac,.int .i64 3] W (.string B5) from fun W=>by rw[o];exact Ft Ac 3 (by omega) W);obtain⟨S5,q⟩:=ex (Rc.mk (((((Rc.p 8 1)++(Rc.p f 6))++(Rc.p prev 6))++(Rc.p h 6))++(Rc.p Ac 3)));have bo:∀ W:World,(Op.stringOp .add S4 B5).run Tryz.prog W= .ok (.string S5) W:=fun W=>by rw[l,o,q];exact Fy _ _ (by(try simp only[List.length_append,Rc.A6]);omega) W
   obtain⟨B6,s⟩:=ex (Rc.mk (Rc.Mn ⟨ok,os,k,on⟩));have Q:((Rc.Mn ⟨ok,os,k,on⟩)).length≤140000:=(by unfold Rc.Mn;simp only[List.length_append,Rc.A6,Rc.Rw];omega);have T:=Hq (show ∀ W,Cr 274 #[.agg #[ok,os,k,on]] W (.string B6) from fun W=>by rw[s];exact Sr ⟨ok,os,k,on⟩ X Y W);obtain⟨S6,v⟩:=ex (Rc.mk ((((((Rc.p 8 1)++(Rc.p f 6))++(Rc.p prev 6))++(Rc.p h 6))++(Rc.p Ac 3))++(Rc.Mn ⟨ok,os,k,on⟩)));have bp:∀ W:World,(Op.stringOp .add S5 B6).run Tryz.prog W= .ok (.string S6) W:=fun W=>by rw[q,s,v];exact Fy _ _ (by(try simp only[List.length_append,Rc.A6]);omega) W
   have HE:=Hq (show S6=R from by rw[v,HR.out];(congr 1)<;>(unfold Rc.Dj;rw[Rc.Qm rfl];unfold Rc.Ga;simp only[List.append_assoc]));clear o O q;clear s Q v;clear l F;go_upto_region 13 with fail;have x:=Ae E.out (Below.refl _ w1).drew;have y:=Ad M.out (Below.refl _ w1).drew;refine Gd (S:=(fun u=>u.heap[g]? =some (.cells (Ct f prev h 8 Ac next nu ok os k on j root L H es (.slice A ts.length c) (.slice B ds.length d)) 88 (0,0)))) (fun a=>?_);refine Au 0 ?_;refine Au 1 ?_;refine Au 2 ?_;refine Au 5 ?_;refine Au 6 ?_;refine Ch 3 fun K i=>?_
   go_simp
   refine(P.out _).mono ?_;rintro e ax ⟨rfl,b⟩;have m:=Ae x b;have z:=Ad y b;try clear hSn
   have hSn:=m;clear b;refine Bq i (fun a=>?_);clear i K;refine Au 4 ?_;refine Ch 7 fun K i=>?_
   go_simp
   refine(T.out _).mono ?_;rintro e ay ⟨rfl,b⟩;have n:=Ae m b;have C:=Ad z b;try clear hSn
   have hSn:=n;clear b;refine Bq i (fun a=>?_);clear i K;refine Au 8 ?_;refine Au 9 ?_;refine wpAnyH_done Kr ?_ _;have U:=Hq n;have N:=Hq C;clear a hSn x y m z n C;go_wp2_with fail;go_ret;exact⟨by rw[← HE.out];rfl,N.out⟩
theorem jS (r:Rc.Rec)(g:¬ Rc.Bs r)(A D:Option Addr)(c d:Nat)(w:World)(i:Hv w r A c D d)(a:r.kind=1∨r.kind=2∨r.kind=3∨r.kind=8):
 Cr 174 #[D7 r (.slice A r.txns.length c) (.slice D r.dirty.length d)] w (.tuple #["",.int .i64 1]):=by
 have b:=Hq (fun W (h:Bw w W)=>Ss r A D c d W (i.below h) a);have j:Rc.Dy r=false:=by
  cases h:Rc.Dy r with
  |false=>rfl
  |true=>exact absurd (Rc.Rr.1 h) g
 rw[j]at b;have k:=Hq (heap_alloc_new w (.cells (Dz r (.slice A r.txns.length c) (.slice D r.dirty.length d)) 88));clear g j i;obtain⟨l,prev,m,kind,Ac,next,o,⟨ok,os,p,on⟩,n,root,⟨q,s,es⟩,t,u⟩:=r;dsimp only[D7,Dz]at b k ⊢;go_enter Tryz.func174,Tryz.ntmps174
 go_wp2_with(first
  |with_reducible refine lL k.out Da ?_
  |(go_at_call 225;(with_reducible refine(b.out _ (Ab _ _)).mono ?_);rintro e v ⟨rfl,f⟩))
 go_ret2;exact⟨rfl,Ad (Ab _ _) f⟩
theorem cV (r:Rc.Rec)(u:Rc.Bs r)(A D:Option Addr)(c d:Nat)(w:World)(E:Hv w r A c D d)(l:r.kind=1∨r.kind=2∨r.kind=3∨r.kind=8):
 Cr 174 #[D7 r (.slice A r.txns.length c) (.slice D r.dirty.length d)] w (.tuple #[.string ⟨(Lg.D8 r).toArray⟩,()]):=by
 have v:=Hq (fun W (h:Bw w W)=>Ss r A D c d W (E.below h) l);rw[Rc.Fv u]at v;have x:=Hq (fun W (h:Bw w W)=>jR r u A D c d W (E.below h) l);have hlen:=Rc.Mc u;obtain⟨L,z⟩:=ex (Rc.Dj r);have f:(⟨(Lg.D8 r).toArray⟩:ByteArray)=Rc.mk (Rc.p (L.length:Int) 4++Rc.p ((Oct.Gm L:Nat):Int) 4++L):=by
  have Q:L.length≤40000:=by rw[z];exact hlen.2
  have K:Oct.word (L.length:Int)=L.length:=Oct.D0 _ (by omega);have M:Oct.word ((Oct.Gm L:Nat):Int)=Oct.Gm L:=Oct.D0 _ (by have:=Oct.dX L;omega);unfold Lg.D8 Rc.mk Rc.p;rw[K,M,← z,List.append_assoc]
 rw[f];rw[← z]at x hlen;clear f;have F:L.length≤40000:=by omega
 have B:=Hq (fun W=>Xd (Rc.mk L) (by rw[Rc.Qu];omega) W);rw[show(Rc.mk L).data.toList=L from rfl]at B;have g:=Hq (fun W=>show Cr 206 #[.int .i64 (L.length:Int),.int .i64 4] W (.string (Rc.mk (Rc.p (L.length:Int) 4))) from Ft (L.length:Int) 4 (by omega) W);have i:=Hq (fun W=>show Cr 206 #[.int .i64 ((Oct.Gm L:Nat):Int),.int .i64 4] W (.string (Rc.mk (Rc.p ((Oct.Gm L:Nat):Int) 4))) from Ft ((Oct.Gm L:Nat):Int) 4 (by omega) W);have m:∀ n,(Rc.p n 4).length=4:=fun n=>Oct.A5 _ _;have a:=fun W=>Fy (Rc.p (L.length:Int) 4) (Rc.p ((Oct.Gm L:Nat):Int) 4) (by rw[m,m];omega) W;have b:=fun W=>Fy (Rc.p (L.length:Int) 4++Rc.p ((Oct.Gm L:Nat):Int) 4) L (by rw[List.length_append,m,m];omega) W;have j:(Rc.mk L).size=L.length:=Rc.Qu L;generalize ((Oct.Gm L:Nat):Int)=q at B i a b ⊢;obtain⟨z3,o⟩:=ex (Rc.mk (Rc.p (L.length:Int) 4++Rc.p q 4++L));rw[← o]at b ⊢;obtain⟨z2,s⟩:=ex (Rc.mk (Rc.p (L.length:Int) 4++Rc.p q 4));rw[← s]at a b;clear s o;generalize Rc.mk (Rc.p (L.length:Int) 4)=x1 at g a;generalize Rc.mk (Rc.p q 4)=x2 at i a;generalize Rc.mk L=y at x B b j;rw[← j]at g;clear z u hlen F j m;have C:=Hq (heap_alloc_new w (.cells (Dz r (.slice A r.txns.length c) (.slice D r.dirty.length d)) 88));clear E;obtain⟨N,prev,O,kind,Ac,next,R,⟨ok,os,S,on⟩,P,root,⟨T,U,es⟩,V,X⟩:=r;dsimp only[D7,Dz]at v C x ⊢;go_enter Tryz.func174,Tryz.ntmps174
 go_upto_region 3 with(first
  |with_reducible refine lL C.out Da ?_
  |(go_at_call 225;(with_reducible refine(v.out _ (Ab _ _)).mono ?_);rintro e Y ⟨rfl,k⟩))
 have t:=Hq (Ad (Ab w _) k);have G:=Hq (Ae C.out k);clear k C v
 go_wp2_with(first
  |with_reducible refine lL G.out Da ?_
  |(go_at_call 226;(with_reducible refine(x.out _ t.out).mono ?_);rintro e Z ⟨rfl,H⟩)
  |(go_at_call 206;(with_reducible refine(g.out _).mono ?_);rintro e w3 ⟨rfl,I⟩)
  |(go_at_call 227;(with_reducible refine(B.out _).mono ?_);rintro e w4 ⟨rfl,rfl⟩)
  |(go_at_call 206;(with_reducible refine(i.out _).mono ?_);rintro e w5 ⟨rfl,J⟩))
 go_ret2;exact⟨rfl,Ad (Ad (Ad t.out H) I) J⟩
def Lg.Og (n:Int):Int:=if n<0∨1099511627776<n then 0 else n*128
theorem cW (f n e s:Int)(t:ByteArray)(w:World):
 Cr 175 #[.agg #[f,n,e,s,t]] w (.int .i64 (Lg.Og n)):=by
 by_cases a:n<0
 ·rw[show Lg.Og n=0 by unfold Lg.Og;rw[if_pos (.inl a)]]
  go_enter Tryz.func175,Tryz.ntmps175;go_wp2_with fail;go_ret;exact⟨by simp,Ab _ _⟩
 ·by_cases b:1099511627776<n
  ·rw[show Lg.Og n=0 by unfold Lg.Og;rw[if_pos (.inr b)]]
   go_enter Tryz.func175,Tryz.ntmps175;go_wp2_with fail;go_ret;exact⟨by simp,Ab _ _⟩
  ·rw[show Lg.Og n=n*128 by unfold Lg.Og;rw[if_neg (by omega)]]
   have c:IntKind.i64.wrap (n*128)=n*128:=IntWalk.i64_in _ (by omega);go_enter Tryz.func175,Tryz.ntmps175;go_wp2_with fail;go_ret;exact⟨by simp,Ab _ _⟩
theorem Zm (l:Lg.Lo)(ah:0≤l.end_)(ai:l.end_≤1000000000)(aj:0≤l.n)(ak:l.n≤1000000000)(ht:l.tail.size≤1000000000)(r:Rc.Rec)(A D:Option Addr)(c d:Nat)(w:World)(R:Hv w r A c D d)(a6:r.kind=1∨r.kind=2∨r.kind=3∨r.kind=8):
 Cq 103 #[Kv l,D7 r (.slice A r.txns.length c) (.slice D r.dirty.length d)] w (V1 (Lg.Aw l r) w):=by
 have O:=Hq (fun y W (hb:Bw w W)=>cV {r with lsn:=l.end_+1} y A D c d W ⟨R.txns.below hb,R.dirty.below hb,R.small⟩ a6);have P:=Hq (fun y W (hb:Bw w W)=>jS {r with lsn:=l.end_+1} y A D c d W ⟨R.txns.below hb,R.dirty.below hb,R.small⟩ a6);have HN:=Hq (@Lg.N6 l r);have H:=Hq (@Lg.P5 l r);have I:=Hq (@Lg.Ue l r);generalize Lg.Aw l r=o at HN H I ⊢;clear R;obtain⟨i,n,en,j,f⟩:=l;obtain⟨lsn,prev,a,kind,Ac,next,z,⟨ok,os,B,on⟩,b,root,⟨C,E,es⟩,F,G⟩:=r;dsimp only[D7,Dz,Kv]at O P HN H I ah ai aj ak ht ⊢;have au:IntKind.i64.wrap (en+1)=en+1:=IntWalk.i64_in _ (by omega)
 by_cases y:Rc.Bs ⟨en+1,prev,a,kind,Ac,next,z,⟨ok,os,B,on⟩,b,root,⟨C,E,es⟩,F,G⟩
 ·have HP:=Hq (O.out y)
  have v:=Hq (H.out y);have k:=Hq (I.out y);have J:(Lg.D8 ⟨en+1,prev,a,kind,Ac,next,z,⟨ok,os,B,on⟩,b,root,⟨C,E,es⟩,F,G⟩).length≤40008:=by rw[Lg.Lk];have:=(Rc.Mc y).2;omega
  obtain⟨x,hx⟩:=ex (⟨(Lg.D8 ⟨en+1,prev,a,kind,Ac,next,z,⟨ok,os,B,on⟩,b,root,⟨C,E,es⟩,F,G⟩).toArray⟩:ByteArray);have a7:(Lg.D8 ⟨en+1,prev,a,kind,Ac,next,z,⟨ok,os,B,on⟩,b,root,⟨C,E,es⟩,F,G⟩).length=x.size:=by rw[hx];show _=((Lg.D8 ⟨en+1,prev,a,kind,Ac,next,z,⟨ok,os,B,on⟩,b,root,⟨C,E,es⟩,F,G⟩).toArray).size;simp
  rw[a7]at v k J;rw[← hx]at HP k;have av:=J;clear O P HN H I y hx a7 J;go_enter Tryz.func103,Tryz.ntmps103;go_upto_region 1 with fail;have q:=Q6 w #[i,n,en,j,f] 30 (Ct lsn prev a kind Ac next z ok os B on b root C E es (.slice A F.length c) (.slice D G.length d)) 88 #[(),(),(),(),""] 30;obtain⟨T,s⟩:=Ee q;have U:T.heap.size=w.heap.size+3:=by rw[s];simp
  rw[← s]at q ⊢;have V:=Aa q.out.Ai;have X:=Aa q.out.Am;have Y:=Ap q.out.Am;clear s;go_upto_region 2 with fail;have H1:=Hq (show D6 w.heap.size w [(#[i,n,en,j,f],30),((Ct (en+1) prev a kind Ac next z ok os B on b root C E es (.slice A F.length c) (.slice D G.length d)),88),(#[(),(),(),(),""],30)] (T.setCell ⟨w.heap.size+1,0,none⟩ (.int .i64 (en+1)))from by have h:=q.out.set 1 0 (.int .i64 (en+1)) _ rfl;simpa using h);obtain⟨W1,L⟩:=ex (T.setCell ⟨w.heap.size+1,0,none⟩ (.int .i64 (en+1)));rw[← L]at H1 ⊢;clear L V X Y q U;have M:=Hq H1.out.Am
  go_upto_region 3 with(first
   |with_reducible refine lL M.out Da ?_
   |(go_at_call 174;(with_reducible refine(HP.out _ H1.out.below).mono ?_);rintro e w2 ⟨rfl,N⟩))
  have p:=Hq (H1.out.step N);clear N H1 M HP;have Q:=Hq (show w2.drew.heap[w.heap.size]? =some (.cells #[i,n,en,j,f] 30 (0,0))from by have h:=p.out.drew.get 0 _ rfl;simpa using h);have a8:=Hq (fun W=>show Cr 175 #[.agg #[i,n,en,j,f]] W (.int .i64 (n*128)) from by
   have h9:=cW i n en j f W;rw[show Lg.Og n=n*128 from by unfold Lg.Og;rw[if_neg (by omega)]]at h9;exact h9)
  go_upto_region 5 with fail;refine Gd (S:=(fun u=>u.heap[w.heap.size]? =some (.cells #[i,n,en,j,f] 30 (0,0)))) (fun g=>?_) (by first|exact hSn|exact Q.out);refine Au 0 ?_;refine Au 1 ?_;refine Nk 2 Fi ?_;refine Au 4 ?_;refine Au 5 ?_;refine Ch 3 fun K hK=>?_
  go_simp
  refine(a8.out _).mono ?_;rintro e w3 ⟨rfl,Z⟩;have hSn:=Ae Q.out Z;refine Bq hK (fun g=>?_) (by first|exact hSn|exact Q.out);clear hK K;refine Au 6 ?_;refine Au 7 ?_;refine wpAnyH_done Kr ?_ _;clear g hSn a8 Q;have aa:=Hq (p.out.drew.step Z);clear Z p;have p:=aa;clear aa;have hm:IntKind.i64.wrap (n*128)=n*128:=IntWalk.i64_in _ (by omega);have aw:IntKind.i64.wrap (n*128-en)=n*128-en:=IntWalk.i64_in _ (by omega);have ax:IntKind.i64.wrap (en+(x.size:Int))=en+(x.size:Int):=IntWalk.i64_in _ (by omega);have ay:n*128-en<(x.size:Int)↔n*128-(x.size:Int)<en:=by omega
  by_cases an:n*128-en<(x.size:Int)
  ·have HO:=Hq (v.out (by omega))
   have m:=Hq (show w3.heap[w.heap.size]? =some (.cells #[i,n,en,j,f] 30 (0,0))from by have h:=p.out.Ai;simpa using h);have ad:=Aa m.out;clear v k
   go_wp2_with(first
    |with_reducible refine lL m.out Fi ?_
    |with_reducible refine lS #[i,n,en,j,f] p.out.Cj ?_)
   refine rT3 () (.int .i64 18) p.out.Cj Fi ?_;rw[HO.out];exact⟨rfl,(p.out.row 2 _ _ rfl).below⟩
  ·have HO:=Hq (k.out (by omega))
   have ae:∀ W:World,(Op.stringOp .add f x).run Tryz.prog W= .ok (.string (f++x)) W:=fun W=>run_string_add_sum W _ _ (by omega);have m:=Hq (show w3.heap[w.heap.size]? =some (.cells #[i,n,en,j,f] 30 (0,0))from by have h:=p.out.Ai;simpa using h);have ad:=Aa m.out;have ao:=Ap m.out;clear v k;go_upto_region 8 with fail;have H3:=Hq (show D6 w.heap.size w [(#[i,n,en,j,.string (f++x)],30),((Ct (en+1) prev a kind Ac next z ok os B on b root C E es (.slice A F.length c) (.slice D G.length d)),88),(#[(),(),(),(),""],30)] (w3.setCell ⟨w.heap.size,4,none⟩ (.string (f++x)))from by have h:=p.out.set 0 4 (.string (f++x)) _ rfl;simpa using h);obtain⟨W3,af⟩:=ex (w3.setCell ⟨w.heap.size,4,none⟩ (.string (f++x)));rw[← af]at H3 ⊢;clear af ad ao m p;have aq:=Aa H3.out.Ai;have ar:=Ap H3.out.Ai;go_upto_region 9 with fail;have H4:=Hq (show D6 w.heap.size w [(#[i,n,.int .i64 (en+(x.size:Int)),j,.string (f++x)],30),((Ct (en+1) prev a kind Ac next z ok os B on b root C E es (.slice A F.length c) (.slice D G.length d)),88),(#[(),(),(),(),""],30)] (W3.setCell ⟨w.heap.size,2,none⟩ (.int .i64 (en+(x.size:Int))))from by have h:=H3.out.set 0 2 (.int .i64 (en+(x.size:Int))) _ rfl;simpa using h);obtain⟨W4,ag⟩:=ex (W3.setCell ⟨w.heap.size,2,none⟩ (.int .i64 (en+(x.size:Int))));rw[← ag]at H4 ⊢;clear ag aq ar H3 ae;have t:=Hq H4.out.drew;refine Gd (S:=(fun u=>u.heap[w.heap.size]? =some (.cells #[i,n,.int .i64 (en+(x.size:Int)),j,.string (f++x)] 30 (0,0))∧u.heap[w.heap.size+1]? =some (.cells (Ct (en+1) prev a kind Ac next z ok os B on b root C E es (.slice A F.length c) (.slice D G.length d)) 88 (0,0)))) (fun g=>?_) (by first|exact hSn|exact⟨(by have h:=t.out.Ai;simpa using h),t.out.Am⟩);refine Au 0 ?_;refine Au 1 ?_;refine Au 2 ?_;refine Ch 3 fun K hK=>?_;refine Ay (by rfl) ?_;refine sW #[i,n,.int .i64 (en+(x.size:Int)),j,.string (f++x)] t.out.Cj ?_;have a1:=t.out.row 2 #[i,n,.int .i64 (en+(x.size:Int)),j,.string (f++x)] _ rfl;have hSn:=And.intro (show _=some (Obj.cells #[i,n,.int .i64 (en+(x.size:Int)),j,.string (f++x)] 30 (0,0))from by have h:=a1.get 0 _ rfl;simpa using h) (a1.get 1 _ rfl);refine Bq hK (fun g=>?_) (by first|exact hSn|exact⟨(by have h:=t.out.Ai;simpa using h),t.out.Am⟩);clear hK K
   try simp only[Act.put]
   refine Au 4 ?_;refine Au 5 ?_;refine wpAnyH_done Kr ?_ _;clear g;go_wp2_with fail;refine rT3 (.int .i64 (en+1)) () t.out.Cj Fi ?_;rw[HO.out];exact⟨rfl,a1.below⟩
 ·have HO:=Hq (HN.out y)
  have HP:=Hq (P.out y);clear O P HN H I y;go_enter Tryz.func103,Tryz.ntmps103;go_upto_region 1 with fail;have q:=Q6 w #[i,n,en,j,f] 30 (Ct lsn prev a kind Ac next z ok os B on b root C E es (.slice A F.length c) (.slice D G.length d)) 88 #[(),(),(),(),""] 30;obtain⟨T,s⟩:=Ee q;have U:T.heap.size=w.heap.size+3:=by rw[s];simp
  rw[← s]at q ⊢;have V:=Aa q.out.Ai;have X:=Aa q.out.Am;have Y:=Ap q.out.Am;clear s;go_upto_region 2 with fail;have H1:=Hq (show D6 w.heap.size w [(#[i,n,en,j,f],30),((Ct (en+1) prev a kind Ac next z ok os B on b root C E es (.slice A F.length c) (.slice D G.length d)),88),(#[(),(),(),(),""],30)] (T.setCell ⟨w.heap.size+1,0,none⟩ (.int .i64 (en+1)))from by have h:=q.out.set 1 0 (.int .i64 (en+1)) _ rfl;simpa using h);obtain⟨W1,L⟩:=ex (T.setCell ⟨w.heap.size+1,0,none⟩ (.int .i64 (en+1)));rw[← L]at H1 ⊢;clear L V X Y q U;have M:=Hq H1.out.Am
  go_upto_region 3 with(first
   |with_reducible refine lL M.out Da ?_
   |(go_at_call 174;(with_reducible refine(HP.out _ H1.out.below).mono ?_);rintro e w3 ⟨rfl,N⟩))
  have p:=Hq (H1.out.step N);clear N H1 M HP;have m:=Hq (show w3.heap[w.heap.size]? =some (.cells #[i,n,en,j,f] 30 (0,0))from by have h:=p.out.Ai;simpa using h)
  go_wp2_with(first
   |with_reducible refine lL m.out Fi ?_
   |with_reducible refine lS #[i,n,en,j,f] p.out.Cj ?_)
  refine rT3 () (.int .i64 1) p.out.Cj Fi ?_;rw[HO.out];exact⟨rfl,(p.out.row 2 _ _ rfl).below⟩
open Sc
theorem Wj (z:Array Value)(n i:Nat)(hi:i<n):(madeCells z n)[i]? =some (z[i%z.size]!):=by
 unfold madeCells;rw[Array.getElem?_map,Array.getElem?_range,if_pos hi];rfl
theorem Pf (k:Nat):madeCells (Value.agg #[(),"",(),false,()]).cells (k*5)=((D5 k).flatMap Ib).toArray:=by
 have hk:((D5 k).flatMap Ib).length=k*5:=by rw[Cc Dh,Ei]
 apply Array.ext_getElem?
 intro i;have c:((D5 k).flatMap Ib).toArray[i]? =((D5 k).flatMap Ib)[i]? :=by simp
 rw[c]
 by_cases d:i<k*5
 ·have e:i=i/5*5+i%5:=by omega
  have a:i/5<(D5 k).length:=by rw[Ei];omega
  have b:=Ih Dh (D5 k) (i/5) (i%5) a (by omega);rw[← e,Gv a]at b;rw[Wj _ _ _ d,b];have f:i%5=0∨i%5=1∨i%5=2∨i%5=3∨i%5=4:=by omega
  show some (#[Value.int .i64 0,"",(),false,()][i%5]!)=_
  rcases f with h|h|h|h|h<;>rw[h]<;>rfl
 ·rw[Array.getElem?_eq_none (by rw[size_madeCells];omega),List.getElem?_eq_none (by omega)]
theorem Ur (k:Nat)(hk:k≤64)(W:World):(Instr.makeSlice 31 (.int .i64 (k:Int)) (.int .i64 (k:Int))).run Tryz.prog W= .ok (.slice (some ⟨W.heap.size,0,none⟩) k k) (W.alloc (.cells ((D5 k).flatMap Ib).toArray 116)):=by
 obtain⟨i0,d,a,b,c⟩:=info_parts Qq;have h:=run_make (P:=Tryz.prog) W 31 116 i0 (.agg #[(),"",(),false,()]) nG d a .i64 .i64 (k:Int) (k:Int) (by omega) (by omega) (by rw[c];omega) (by omega);rw[b,Int.toNat_natCast,Pf]at h;exact h
end Go.Proofs.YtmldoihahndcgaaGreatDoor
