import Derived.Test.YtmfkhdhnbkambaaGreatDoorHw00
import Derived.Test.YtmfkhdhnbkambaaGreatDoorHw12
import Derived.Lib.ConvBytes
import Derived.Lib.AppendStr
import Derived.Lib.FrozenHead
import Derived.Deep.MidRow
import Derived.Lib.LazyBuf
import Derived.Test.YtmfkhdhnbkambaaGreatDoorHw01
import Derived.Test.YtmfkhdhnbkambaaGreatDoorHw13
import Derived.BigRegion
import Derived.Test.YtmfkhdhnbkambaaGreatDoorHw06
import Derived.Test.YtmfkhdhnbkambaaGreatDoorHw11
import Derived.Test.YtmfkhdhnbkambaaGreatDoorHw08
import Derived.BigQuiet
set_option maxRecDepth 100000
set_option maxHeartbeats 16000000
set_option linter.unusedSimpArgs false
namespace Go.Proofs.YtmfkhdhnbkambaaGreatDoor
open Go.RowKit
end Go.Proofs.YtmfkhdhnbkambaaGreatDoor
namespace Rc
theorem jE {α:Type}(f:α→List UInt8)(l:List α)(k:Nat)(h:k<l.length):(l.take (k+1)).flatMap f=(l.take k).flatMap f++f l[k]:=by
 rw[List.take_add_one,List.getElem?_eq_getElem h,List.flatMap_append]
 simp
end Rc
namespace Go.Proofs.YtmfkhdhnbkambaaGreatDoor
open Go.RowKit
theorem lE (r:Rc.Rec)(b6:Rc.Bu r)(A B:Option Addr)(c d:Nat)(w:World)(hr:Ig w r A c B d)(b7:r.kind=1∨r.kind=2∨r.kind=3∨r.kind=8):
 Cr 122 #[D9 r (.slice A r.txns.length c) (.slice B r.dirty.length d)] w (.string (Rc.mk (Rc.Di r))):=by
 have HF:=Hq (Rc.F9 b6);have da:=Hq hr;clear b6 hr;obtain⟨f,prev,h,kind,Ad,next,nu,⟨ok,os,k,on⟩,j,root,⟨L,H,es⟩,ts,ds⟩:=r;have hk:=HF.out.kind;dsimp only at hk;have h9:kind=1∨kind=2∨kind=3∨kind=8:=b7;clear b7;have HK:=Hq h9;clear hk h9;dsimp only[D9,D3];obtain⟨w0,a8⟩:=ex (w.alloc (.cells (Cn f prev h kind Ad next nu ok os k on j root L H es (.slice A ts.length c) (.slice B ds.length d)) 49));have b8:=Hq (show Bw w w0 from by rw[a8];exact Ac _ _);have ag:=Hq (show w0.heap[w.heap.size]? =some (.cells (Cn f prev h kind Ad next nu ok os k on j root L H es (.slice A ts.length c) (.slice B ds.length d)) 49 (0,0))from by rw[a8];exact heap_alloc_new _ _);obtain⟨R,hR⟩:=ex (Rc.mk (Rc.Di ⟨f,prev,h,kind,Ad,next,nu,⟨ok,os,k,on⟩,j,root,⟨L,H,es⟩,ts,ds⟩));rw[← hR];have HR:=Hq hR;clear hR;obtain⟨B1,ah⟩:=ex (Rc.mk (Rc.p kind 1));have cd:((Rc.p kind 1)).length=1:=Rc.Bf _ _;have b9:=Hq (show ∀ W,Cr 73 #[kind,.int .i64 1] W (.string B1) from fun W=>by rw[ah];exact Fq kind 1 (by omega) W);obtain⟨B2,ai⟩:=ex (Rc.mk (Rc.p f 6));have cf:((Rc.p f 6)).length=6:=Rc.Bf _ _;have ba:=Hq (show ∀ W,Cr 73 #[f,.int .i64 6] W (.string B2) from fun W=>by rw[ai];exact Fq f 6 (by omega) W);obtain⟨S2,aj⟩:=ex (Rc.mk ((Rc.p kind 1)++(Rc.p f 6)));have cg:∀ W:World,(Op.stringOp .add B1 B2).run Tryz.prog W= .ok (.string S2) W:=fun W=>by rw[ah,ai,aj];exact F5 _ _ (by(try simp only[Rc.Bf]);omega) W
 obtain⟨B3,ak⟩:=ex (Rc.mk (Rc.p prev 6));have cj:((Rc.p prev 6)).length=6:=Rc.Bf _ _;have bb:=Hq (show ∀ W,Cr 73 #[prev,.int .i64 6] W (.string B3) from fun W=>by rw[ak];exact Fq prev 6 (by omega) W);obtain⟨S3,al⟩:=ex (Rc.mk (((Rc.p kind 1)++(Rc.p f 6))++(Rc.p prev 6)));have ck:∀ W:World,(Op.stringOp .add S2 B3).run Tryz.prog W= .ok (.string S3) W:=fun W=>by rw[aj,ak,al];exact F5 _ _ (by(try simp only[List.length_append,Rc.Bf]);omega) W
 obtain⟨B4,an⟩:=ex (Rc.mk (Rc.p h 6));have cm:((Rc.p h 6)).length=6:=Rc.Bf _ _;have bc:=Hq (show ∀ W,Cr 73 #[h,.int .i64 6] W (.string B4) from fun W=>by rw[an];exact Fq h 6 (by omega) W);obtain⟨S4,l⟩:=ex (Rc.mk ((((Rc.p kind 1)++(Rc.p f 6))++(Rc.p prev 6))++(Rc.p h 6)));have cn:∀ W:World,(Op.stringOp .add S3 B4).run Tryz.prog W= .ok (.string S4) W:=fun W=>by rw[al,an,l];exact F5 _ _ (by(try simp only[List.length_append,Rc.Bf]);omega) W
 have aa:=Hq l;have F:((((Rc.p kind 1)++(Rc.p f 6))++(Rc.p prev 6))++(Rc.p h 6)).length=19:=by simp only[List.length_append];omega
 have ao:=Hq F;clear ah cd;clear ai cf;clear ak cj;clear an cm;clear aj;clear al;clear l;clear F;go_enter Tryz.func122,Tryz.ntmps122;go_upto_region 1 with fail;rw[← a8];clear a8;obtain⟨g,hg⟩:=ex w.heap.size;rw[← hg]at ag;rw[← hg];have cp:w.heap.size≤g:=Nat.le_of_eq hg.symm;clear hg
 go_cut [3] (fun s3 wc=>s3= .string S4∧wc.heap[g]? =some (.cells (Cn f prev h kind Ad next nu ok os k on j root L H es (.slice A ts.length c) (.slice B ds.length d)) 49 (0,0))∧Bw w wc)
 case first=>
  go_upto_region 1 with fail;have bd:=Af ag.out (Below.refl _ w0).drew;have bf:=Ag b8.out (Below.refl _ w0).drew;refine G7 (S:=(fun u=>u.heap[g]? =some (.cells (Cn f prev h kind Ad next nu ok os k on j root L H es (.slice A ts.length c) (.slice B ds.length d)) 49 (0,0)))) (fun a=>?_);refine Bb 0 ?_;refine Bb 1 ?_;refine Bb 3 ?_;refine Bb 4 ?_;refine Bb 7 ?_;refine Bb 8 ?_;refine Bb 11 ?_;refine Bb 12 ?_;refine Dg 2 fun K i=>?_
  go_simp
  refine(b9.out _).mono ?_;rintro e db ⟨rfl,b⟩;have aq:=Af bd b;have bg:=Ag bf b;try clear hSn
  have hSn:=aq;clear b;refine Cw i (fun a=>?_);clear i K;refine Dg 5 fun K i=>?_
  go_simp
  refine(ba.out _).mono ?_;rintro e dc ⟨rfl,b⟩;have ar:=Af aq b;have bh:=Ag bg b;try clear hSn
  have hSn:=ar;clear b;refine Cw i (fun a=>?_);clear i K;refine Bb 6 ?_;refine Dg 9 fun K i=>?_
  go_simp
  refine(bb.out _).mono ?_;rintro e dd ⟨rfl,b⟩;have au:=Af ar b;have bj:=Ag bh b;try clear hSn
  have hSn:=au;clear b;refine Cw i (fun a=>?_);clear i K;refine Bb 10 ?_;refine Dg 13 fun K i=>?_
  go_simp
  refine(bc.out _).mono ?_;rintro e de ⟨rfl,b⟩;have av:=Af au b;have bk:=Ag bj b;try clear hSn
  have hSn:=av;clear b;refine Cw i (fun a=>?_);clear i K;refine Bb 14 ?_;refine Bb 15 ?_;refine wpAnyH_done Kr ?_ _;have E:=Hq av;have M:=Hq bk;clear a hSn bd bf aq bg ar bh au bj av bk;go_wp2_with fail;go_meet
  case rel=>exact⟨rfl,E.out,M.out⟩
 case rest=>
  obtain⟨rfl,bl,bm⟩:=hcut;obtain⟨w1,rfl⟩:=ex wc;have E:=Hq bl;have M:=Hq bm;clear bl bm ag b8 b9 ba bb bc cg ck cn cp;rcases HK.out with rfl|rfl|rfl|rfl
  ·skip<;>(
   have l:=aa.out;have HE:=Hq (show S4=R from by rw[l,HR.out];(congr 1)<;>(unfold Rc.Di;rw[show Rc.Gc _=[]from by unfold Rc.Gc;rfl];unfold Rc.Gf;simp only[List.append_assoc,List.append_nil]));have V:=Aa E.out;clear l;go_wp2_with fail;go_ret;exact⟨by rw[← HE.out];rfl,M.out⟩)
  ·have l:=aa.out
   have F:=ao.out;have V:=Aa E.out;obtain⟨-,-,-,h4,h5⟩:=(HF.out.change (by unfold Rc.E4;simp)).2;dsimp only at h4 h5;have X:k.size≤65535:=(by omega);have Y:on.size≤65535:=(by omega);clear h4 h5;obtain⟨B5,o⟩:=ex (Rc.mk (Rc.p Ad 3));have O:((Rc.p Ad 3)).length=3:=Rc.Bf _ _;have P:=Hq (show ∀ W,Cr 73 #[Ad,.int .i64 3] W (.string B5) from fun W=>by rw[o];exact Fq Ad 3 (by omega) W);obtain⟨S5,q⟩:=ex (Rc.mk (((((Rc.p 2 1)++(Rc.p f 6))++(Rc.p prev 6))++(Rc.p h 6))++(Rc.p Ad 3)));have bn:∀ W:World,(Op.stringOp .add S4 B5).run Tryz.prog W= .ok (.string S5) W:=fun W=>by rw[l,o,q];exact F5 _ _ (by(try simp only[List.length_append,Rc.Bf]);omega) W
   obtain⟨B6,s⟩:=ex (Rc.mk (Rc.M1 ⟨ok,os,k,on⟩));have Q:((Rc.M1 ⟨ok,os,k,on⟩)).length≤140000:=(by unfold Rc.M1;simp only[List.length_append,Rc.Bf,Rc.Sl];omega);have T:=Hq (show ∀ W,Cr 164 #[.agg #[ok,os,k,on]] W (.string B6) from fun W=>by rw[s];exact Ts ⟨ok,os,k,on⟩ X Y W);obtain⟨S6,v⟩:=ex (Rc.mk ((((((Rc.p 2 1)++(Rc.p f 6))++(Rc.p prev 6))++(Rc.p h 6))++(Rc.p Ad 3))++(Rc.M1 ⟨ok,os,k,on⟩)));have bo:∀ W:World,(Op.stringOp .add S5 B6).run Tryz.prog W= .ok (.string S6) W:=fun W=>by rw[q,s,v];exact F5 _ _ (by(try simp only[List.length_append,Rc.Bf]);omega) W
   obtain⟨B7,I⟩:=ex (Rc.mk (Rc.p j 1));have ad:((Rc.p j 1)).length=1:=Rc.Bf _ _;have ae:=Hq (show ∀ W,Cr 73 #[j,.int .i64 1] W (.string B7) from fun W=>by rw[I];exact Fq j 1 (by omega) W);obtain⟨S7,G⟩:=ex (Rc.mk (((((((Rc.p 2 1)++(Rc.p f 6))++(Rc.p prev 6))++(Rc.p h 6))++(Rc.p Ad 3))++(Rc.M1 ⟨ok,os,k,on⟩))++(Rc.p j 1)));have cq:∀ W:World,(Op.stringOp .add S6 B7).run Tryz.prog W= .ok (.string S7) W:=fun W=>by rw[v,I,G];exact F5 _ _ (by(try simp only[List.length_append,Rc.Bf]);omega) W
   by_cases hh:j=1
   ·have cr:(j==1)=true:=by simpa using hh
    have HE:=Hq (show S7=R from by rw[G,HR.out];(congr 1)<;>(unfold Rc.Di;rw[Rc.O0 rfl];unfold Rc.Gf;unfold Rc.Nv;rw[if_pos hh];simp only[List.append_assoc,List.append_nil]));clear hh o O q s Q v I ad G l F;go_upto_region 4 with fail;have x:=Af E.out (Below.refl _ w1).drew;have y:=Ag M.out (Below.refl _ w1).drew;refine G7 (S:=(fun u=>u.heap[g]? =some (.cells (Cn f prev h 2 Ad next nu ok os k on j root L H es (.slice A ts.length c) (.slice B ds.length d)) 49 (0,0)))) (fun a=>?_);refine Bb 0 ?_;refine Bb 1 ?_;refine Bb 2 ?_;refine Bb 5 ?_;refine Bb 6 ?_;refine Bb 9 ?_;refine Bb 10 ?_;refine Dg 3 fun K i=>?_
    go_simp
    refine(P.out _).mono ?_;rintro e aw ⟨rfl,b⟩;have m:=Af x b;have z:=Ag y b;try clear hSn
    have hSn:=m;clear b;refine Cw i (fun a=>?_);clear i K;refine Bb 4 ?_;refine Dg 7 fun K i=>?_
    go_simp
    refine(T.out _).mono ?_;rintro e ax ⟨rfl,b⟩;have n:=Af m b;have C:=Ag z b;try clear hSn
    have hSn:=n;clear b;refine Cw i (fun a=>?_);clear i K;refine Bb 8 ?_;refine Dg 11 fun K i=>?_
    go_simp
    refine(ae.out _).mono ?_;rintro e af ⟨rfl,b⟩;have D:=Af n b;have J:=Ag C b;try clear hSn
    have hSn:=D;clear b;refine Cw i (fun a=>?_);clear i K;refine Bb 12 ?_;refine Bb 13 ?_;refine wpAnyH_done Kr ?_ _;have U:=Hq D;have N:=Hq J;clear a hSn x y m z n C D J;have bp:=Aa U.out;go_wp2_with fail;go_ret;exact⟨by rw[← HE.out];rfl,N.out⟩
   ·have cr:(j==1)=false:=by simpa using hh
    have bq:L.size≤65535:=by
     rcases HF.out.tree rfl with⟨h7,_⟩|⟨_,_,_,_,h8⟩
     ·exact absurd h7 hh
     ·dsimp only at h8;omega
    obtain⟨B8,ay⟩:=ex (Rc.mk (Rc.p root 3));have ct:((Rc.p root 3)).length=3:=Rc.Bf _ _;have cu:=Hq (show ∀ W,Cr 73 #[root,.int .i64 3] W (.string B8) from fun W=>by rw[ay];exact Fq root 3 (by omega) W);obtain⟨S8,az⟩:=ex (Rc.mk ((((((((Rc.p 2 1)++(Rc.p f 6))++(Rc.p prev 6))++(Rc.p h 6))++(Rc.p Ad 3))++(Rc.M1 ⟨ok,os,k,on⟩))++(Rc.p j 1))++(Rc.p root 3)));have df:∀ W:World,(Op.stringOp .add S7 B8).run Tryz.prog W= .ok (.string S8) W:=fun W=>by rw[G,ay,az];exact F5 _ _ (by(try simp only[List.length_append,Rc.Bf]);omega) W
    obtain⟨B9,b0⟩:=ex (Rc.mk (Rc.p H 3));have cv:((Rc.p H 3)).length=3:=Rc.Bf _ _;have cw:=Hq (show ∀ W,Cr 73 #[H,.int .i64 3] W (.string B9) from fun W=>by rw[b0];exact Fq H 3 (by omega) W);obtain⟨S9,b1⟩:=ex (Rc.mk (((((((((Rc.p 2 1)++(Rc.p f 6))++(Rc.p prev 6))++(Rc.p h 6))++(Rc.p Ad 3))++(Rc.M1 ⟨ok,os,k,on⟩))++(Rc.p j 1))++(Rc.p root 3))++(Rc.p H 3)));have dh:∀ W:World,(Op.stringOp .add S8 B9).run Tryz.prog W= .ok (.string S9) W:=fun W=>by rw[az,b0,b1];exact F5 _ _ (by(try simp only[List.length_append,Rc.Bf]);omega) W
    obtain⟨br,Z⟩:=ex (Rc.mk (Rc.p es 2));have bs:((Rc.p es 2)).length=2:=Rc.Bf _ _;have bt:=Hq (show ∀ W,Cr 73 #[es,.int .i64 2] W (.string br) from fun W=>by rw[Z];exact Fq es 2 (by omega) W);obtain⟨bu,a1⟩:=ex (Rc.mk ((((((((((Rc.p 2 1)++(Rc.p f 6))++(Rc.p prev 6))++(Rc.p h 6))++(Rc.p Ad 3))++(Rc.M1 ⟨ok,os,k,on⟩))++(Rc.p j 1))++(Rc.p root 3))++(Rc.p H 3))++(Rc.p es 2)));have cy:∀ W:World,(Op.stringOp .add S9 br).run Tryz.prog W= .ok (.string bu) W:=fun W=>by rw[b1,Z,a1];exact F5 _ _ (by(try simp only[List.length_append,Rc.Bf]);omega) W
    obtain⟨bw,a6⟩:=ex (Rc.mk (Rc.t L));have bx:((Rc.t L)).length≤70000:=(by rw[Rc.Sl];omega);have bz:=Hq (show ∀ W,Cr 165 #[L] W (.string bw) from fun W=>by rw[a6];exact Lq L bq W);obtain⟨c1,a7⟩:=ex (Rc.mk (((((((((((Rc.p 2 1)++(Rc.p f 6))++(Rc.p prev 6))++(Rc.p h 6))++(Rc.p Ad 3))++(Rc.M1 ⟨ok,os,k,on⟩))++(Rc.p j 1))++(Rc.p root 3))++(Rc.p H 3))++(Rc.p es 2))++(Rc.t L)));have cz:∀ W:World,(Op.stringOp .add bu bw).run Tryz.prog W= .ok (.string c1) W:=fun W=>by rw[a1,a6,a7];exact F5 _ _ (by(try simp only[List.length_append,Rc.Bf]);omega) W
    have HE:=Hq (show c1=R from by rw[a7,HR.out];(congr 1)<;>(unfold Rc.Di;rw[Rc.O0 rfl];unfold Rc.Gf;unfold Rc.Nv;rw[if_neg hh];simp only[List.append_assoc]));clear hh bq;clear o O q;clear s Q v;clear I ad G;clear ay ct az;clear b0 cv b1;clear Z bs a1;clear a6 bx a7;clear l F;go_upto_region 4 with fail;have x:=Af E.out (Below.refl _ w1).drew;have y:=Ag M.out (Below.refl _ w1).drew;refine G7 (S:=(fun u=>u.heap[g]? =some (.cells (Cn f prev h 2 Ad next nu ok os k on j root L H es (.slice A ts.length c) (.slice B ds.length d)) 49 (0,0)))) (fun a=>?_);refine Bb 0 ?_;refine Bb 1 ?_;refine Bb 2 ?_;refine Bb 5 ?_;refine Bb 6 ?_;refine Bb 9 ?_;refine Bb 10 ?_;refine Dg 3 fun K i=>?_
    go_simp
    refine(P.out _).mono ?_;rintro e aw ⟨rfl,b⟩;have m:=Af x b;have z:=Ag y b;try clear hSn
    have hSn:=m;clear b;refine Cw i (fun a=>?_);clear i K;refine Bb 4 ?_;refine Dg 7 fun K i=>?_
    go_simp
    refine(T.out _).mono ?_;rintro e ax ⟨rfl,b⟩;have n:=Af m b;have C:=Ag z b;try clear hSn
    have hSn:=n;clear b;refine Cw i (fun a=>?_);clear i K;refine Bb 8 ?_;refine Dg 11 fun K i=>?_
    go_simp
    refine(ae.out _).mono ?_;rintro e af ⟨rfl,b⟩;have D:=Af n b;have J:=Ag C b;try clear hSn
    have hSn:=D;clear b;refine Cw i (fun a=>?_);clear i K;refine Bb 12 ?_;refine Bb 13 ?_;refine wpAnyH_done Kr ?_ _;have U:=Hq D;have N:=Hq J;clear a hSn x y m z n C D J;have bp:=Aa U.out;go_upto_region 7 with fail;have c6:=Af U.out (Below.refl _ af).drew;have c7:=Ag N.out (Below.refl _ af).drew;refine G7 (S:=(fun u=>u.heap[g]? =some (.cells (Cn f prev h 2 Ad next nu ok os k on j root L H es (.slice A ts.length c) (.slice B ds.length d)) 49 (0,0)))) (fun a=>?_);refine Bb 0 ?_;refine Bb 1 ?_;refine Bb 2 ?_;refine Bb 5 ?_;refine Bb 6 ?_;refine Bb 7 ?_;refine Bb 8 ?_;refine Bb 11 ?_;refine Bb 12 ?_;refine Bb 13 ?_;refine Bb 14 ?_;refine Bb 17 ?_;refine Bb 18 ?_;refine Bb 19 ?_;refine Dg 3 fun K i=>?_
    go_simp
    refine(cu.out _).mono ?_;rintro e di ⟨rfl,b⟩;have b2:=Af c6 b;have c8:=Ag c7 b;try clear hSn
    have hSn:=b2;clear b;refine Cw i (fun a=>?_);clear i K;refine Bb 4 ?_;refine Dg 9 fun K i=>?_
    go_simp
    refine(cw.out _).mono ?_;rintro e dj ⟨rfl,b⟩;have b3:=Af b2 b;have ca:=Ag c8 b;try clear hSn
    have hSn:=b3;clear b;refine Cw i (fun a=>?_);clear i K;refine Bb 10 ?_;refine Dg 15 fun K i=>?_
    go_simp
    refine(bt.out _).mono ?_;rintro e dk ⟨rfl,b⟩;have b4:=Af b3 b;have cb:=Ag ca b;try clear hSn
    have hSn:=b4;clear b;refine Cw i (fun a=>?_);clear i K;refine Bb 16 ?_;refine Dg 20 fun K i=>?_
    go_simp
    refine(bz.out _).mono ?_;rintro e dm ⟨rfl,b⟩;have b5:=Af b4 b;have cc:=Ag cb b;try clear hSn
    have hSn:=b5;clear b;refine Cw i (fun a=>?_);clear i K;refine Bb 21 ?_;refine Bb 22 ?_;refine wpAnyH_done Kr ?_ _;have dn:=Hq b5;have cx:=Hq cc;clear a hSn c6 c7 b2 c8 b3 ca b4 cb b5 cc;go_wp2_with fail;go_ret;exact⟨by rw[← HE.out];rfl,cx.out⟩
  ·have l:=aa.out
   have F:=ao.out;have V:=Aa E.out;obtain⟨-,-,-,h4,h5⟩:=(HF.out.change (by unfold Rc.E4;simp)).2;dsimp only at h4 h5;have X:k.size≤65535:=(by omega);have Y:on.size≤65535:=(by omega);clear h4 h5;obtain⟨B5,o⟩:=ex (Rc.mk (Rc.p Ad 3));have O:((Rc.p Ad 3)).length=3:=Rc.Bf _ _;have P:=Hq (show ∀ W,Cr 73 #[Ad,.int .i64 3] W (.string B5) from fun W=>by rw[o];exact Fq Ad 3 (by omega) W);obtain⟨S5,q⟩:=ex (Rc.mk (((((Rc.p 3 1)++(Rc.p f 6))++(Rc.p prev 6))++(Rc.p h 6))++(Rc.p Ad 3)));have bn:∀ W:World,(Op.stringOp .add S4 B5).run Tryz.prog W= .ok (.string S5) W:=fun W=>by rw[l,o,q];exact F5 _ _ (by(try simp only[List.length_append,Rc.Bf]);omega) W
   obtain⟨B6,s⟩:=ex (Rc.mk (Rc.M1 ⟨ok,os,k,on⟩));have Q:((Rc.M1 ⟨ok,os,k,on⟩)).length≤140000:=(by unfold Rc.M1;simp only[List.length_append,Rc.Bf,Rc.Sl];omega);have T:=Hq (show ∀ W,Cr 164 #[.agg #[ok,os,k,on]] W (.string B6) from fun W=>by rw[s];exact Ts ⟨ok,os,k,on⟩ X Y W);obtain⟨S6,v⟩:=ex (Rc.mk ((((((Rc.p 3 1)++(Rc.p f 6))++(Rc.p prev 6))++(Rc.p h 6))++(Rc.p Ad 3))++(Rc.M1 ⟨ok,os,k,on⟩)));have bo:∀ W:World,(Op.stringOp .add S5 B6).run Tryz.prog W= .ok (.string S6) W:=fun W=>by rw[q,s,v];exact F5 _ _ (by(try simp only[List.length_append,Rc.Bf]);omega) W
   obtain⟨B7,I⟩:=ex (Rc.mk (Rc.p next 6));have ad:((Rc.p next 6)).length=6:=Rc.Bf _ _;have ae:=Hq (show ∀ W,Cr 73 #[next,.int .i64 6] W (.string B7) from fun W=>by rw[I];exact Fq next 6 (by omega) W);obtain⟨S7,G⟩:=ex (Rc.mk (((((((Rc.p 3 1)++(Rc.p f 6))++(Rc.p prev 6))++(Rc.p h 6))++(Rc.p Ad 3))++(Rc.M1 ⟨ok,os,k,on⟩))++(Rc.p next 6)));have cq:∀ W:World,(Op.stringOp .add S6 B7).run Tryz.prog W= .ok (.string S7) W:=fun W=>by rw[v,I,G];exact F5 _ _ (by(try simp only[List.length_append,Rc.Bf]);omega) W
   have HE:=Hq (show S7=R from by rw[G,HR.out];(congr 1)<;>(unfold Rc.Di;rw[Rc.Rd rfl];unfold Rc.Gf;simp only[List.append_assoc]));clear o O q;clear s Q v;clear I ad G;clear l F;go_upto_region 9 with fail;have x:=Af E.out (Below.refl _ w1).drew;have y:=Ag M.out (Below.refl _ w1).drew;refine G7 (S:=(fun u=>u.heap[g]? =some (.cells (Cn f prev h 3 Ad next nu ok os k on j root L H es (.slice A ts.length c) (.slice B ds.length d)) 49 (0,0)))) (fun a=>?_);refine Bb 0 ?_;refine Bb 1 ?_;refine Bb 2 ?_;refine Bb 5 ?_;refine Bb 6 ?_;refine Bb 9 ?_;refine Bb 10 ?_;refine Dg 3 fun K i=>?_
   go_simp
   refine(P.out _).mono ?_;rintro e aw ⟨rfl,b⟩;have m:=Af x b;have z:=Ag y b;try clear hSn
   have hSn:=m;clear b;refine Cw i (fun a=>?_);clear i K;refine Bb 4 ?_;refine Dg 7 fun K i=>?_
   go_simp
   refine(T.out _).mono ?_;rintro e ax ⟨rfl,b⟩;have n:=Af m b;have C:=Ag z b;try clear hSn
   have hSn:=n;clear b;refine Cw i (fun a=>?_);clear i K;refine Bb 8 ?_;refine Dg 11 fun K i=>?_
   go_simp
   refine(ae.out _).mono ?_;rintro e af ⟨rfl,b⟩;have D:=Af n b;have J:=Ag C b;try clear hSn
   have hSn:=D;clear b;refine Cw i (fun a=>?_);clear i K;refine Bb 12 ?_;refine Bb 13 ?_;refine wpAnyH_done Kr ?_ _;have U:=Hq D;have N:=Hq J;clear a hSn x y m z n C D J;go_wp2_with fail;go_ret;exact⟨by rw[← HE.out];rfl,N.out⟩
  ·have l:=aa.out
   have F:=ao.out;have V:=Aa E.out;obtain⟨-,-,-,h4,h5⟩:=(HF.out.change (by unfold Rc.E4;simp)).2;dsimp only at h4 h5;have X:k.size≤65535:=(by omega);have Y:on.size≤65535:=(by omega);clear h4 h5;obtain⟨B5,o⟩:=ex (Rc.mk (Rc.p Ad 3));have O:((Rc.p Ad 3)).length=3:=Rc.Bf _ _;have P:=Hq (show ∀ W,Cr 73 #[Ad,.int .i64 3] W (.string B5) from fun W=>by rw[o];exact Fq Ad 3 (by omega) W);obtain⟨S5,q⟩:=ex (Rc.mk (((((Rc.p 8 1)++(Rc.p f 6))++(Rc.p prev 6))++(Rc.p h 6))++(Rc.p Ad 3)));have bn:∀ W:World,(Op.stringOp .add S4 B5).run Tryz.prog W= .ok (.string S5) W:=fun W=>by rw[l,o,q];exact F5 _ _ (by(try simp only[List.length_append,Rc.Bf]);omega) W
   obtain⟨B6,s⟩:=ex (Rc.mk (Rc.M1 ⟨ok,os,k,on⟩));have Q:((Rc.M1 ⟨ok,os,k,on⟩)).length≤140000:=(by unfold Rc.M1;simp only[List.length_append,Rc.Bf,Rc.Sl];omega);have T:=Hq (show ∀ W,Cr 164 #[.agg #[ok,os,k,on]] W (.string B6) from fun W=>by rw[s];exact Ts ⟨ok,os,k,on⟩ X Y W);obtain⟨S6,v⟩:=ex (Rc.mk ((((((Rc.p 8 1)++(Rc.p f 6))++(Rc.p prev 6))++(Rc.p h 6))++(Rc.p Ad 3))++(Rc.M1 ⟨ok,os,k,on⟩)));have bo:∀ W:World,(Op.stringOp .add S5 B6).run Tryz.prog W= .ok (.string S6) W:=fun W=>by rw[q,s,v];exact F5 _ _ (by(try simp only[List.length_append,Rc.Bf]);omega) W
   have HE:=Hq (show S6=R from by rw[v,HR.out];(congr 1)<;>(unfold Rc.Di;rw[Rc.Re rfl];unfold Rc.Gf;simp only[List.append_assoc]));clear o O q;clear s Q v;clear l F;go_upto_region 13 with fail;have x:=Af E.out (Below.refl _ w1).drew;have y:=Ag M.out (Below.refl _ w1).drew;refine G7 (S:=(fun u=>u.heap[g]? =some (.cells (Cn f prev h 8 Ad next nu ok os k on j root L H es (.slice A ts.length c) (.slice B ds.length d)) 49 (0,0)))) (fun a=>?_);refine Bb 0 ?_;refine Bb 1 ?_;refine Bb 2 ?_;refine Bb 5 ?_;refine Bb 6 ?_;refine Dg 3 fun K i=>?_
   go_simp
   refine(P.out _).mono ?_;rintro e aw ⟨rfl,b⟩;have m:=Af x b;have z:=Ag y b;try clear hSn
   have hSn:=m;clear b;refine Cw i (fun a=>?_);clear i K;refine Bb 4 ?_;refine Dg 7 fun K i=>?_
   go_simp
   refine(T.out _).mono ?_;rintro e ax ⟨rfl,b⟩;have n:=Af m b;have C:=Ag z b;try clear hSn
   have hSn:=n;clear b;refine Cw i (fun a=>?_);clear i K;refine Bb 8 ?_;refine Bb 9 ?_;refine wpAnyH_done Kr ?_ _;have U:=Hq n;have N:=Hq C;clear a hSn x y m z n C;go_wp2_with fail;go_ret;exact⟨by rw[← HE.out];rfl,N.out⟩
theorem lF (r:Rc.Rec)(g:¬ Rc.Bu r)(A D:Option Addr)(c d:Nat)(w:World)(i:Ig w r A c D d)(a:r.kind=1∨r.kind=2∨r.kind=3∨r.kind=8):
 Cr 69 #[D9 r (.slice A r.txns.length c) (.slice D r.dirty.length d)] w (.tuple #["",.int .i64 1]):=by
 have b:=Hq (fun W (h:Bw w W)=>Tt r A D c d W (i.below h) a);have j:Rc.D0 r=false:=by
  cases h:Rc.D0 r with
  |false=>rfl
  |true=>exact absurd (Rc.Sg.1 h) g
 rw[j]at b;have k:=Hq (heap_alloc_new w (.cells (D3 r (.slice A r.txns.length c) (.slice D r.dirty.length d)) 49));clear g j i;obtain⟨l,prev,m,kind,Ad,next,o,⟨ok,os,p,on⟩,n,root,⟨q,s,es⟩,t,u⟩:=r;dsimp only[D9,D3]at b k ⊢;go_enter Tryz.func69,Tryz.ntmps69
 go_wp2_with(first
  |with_reducible refine lL k.out C5 ?_
  |(go_at_call 121;(with_reducible refine(b.out _ (Ac _ _)).mono ?_);rintro e v ⟨rfl,f⟩))
 go_ret2;exact⟨rfl,Ag (Ac _ _) f⟩
theorem dY (r:Rc.Rec)(u:Rc.Bu r)(A D:Option Addr)(c d:Nat)(w:World)(E:Ig w r A c D d)(l:r.kind=1∨r.kind=2∨r.kind=3∨r.kind=8):
 Cr 69 #[D9 r (.slice A r.txns.length c) (.slice D r.dirty.length d)] w (.tuple #[.string ⟨(Lg.D5 r).toArray⟩,()]):=by
 have v:=Hq (fun W (h:Bw w W)=>Tt r A D c d W (E.below h) l);rw[Rc.Fx u]at v;have x:=Hq (fun W (h:Bw w W)=>lE r u A D c d W (E.below h) l);have hlen:=Rc.M8 u;obtain⟨L,z⟩:=ex (Rc.Di r);have f:(⟨(Lg.D5 r).toArray⟩:ByteArray)=Rc.mk (Rc.p (L.length:Int) 4++Rc.p ((Oct.Gr L:Nat):Int) 4++L):=by
  have Q:L.length≤40000:=by rw[z];exact hlen.2
  have K:Oct.word (L.length:Int)=L.length:=Oct.D7 _ (by omega);have M:Oct.word ((Oct.Gr L:Nat):Int)=Oct.Gr L:=Oct.D7 _ (by have:=Oct.fB L;omega);unfold Lg.D5 Rc.mk Rc.p;rw[K,M,← z,List.append_assoc]
 rw[f];rw[← z]at x hlen;clear f;have F:L.length≤40000:=by omega
 have B:=Hq (fun W=>Yd (Rc.mk L) (by rw[Rc.Rk];omega) W);rw[show(Rc.mk L).data.toList=L from rfl]at B;have g:=Hq (fun W=>show Cr 73 #[.int .i64 (L.length:Int),.int .i64 4] W (.string (Rc.mk (Rc.p (L.length:Int) 4))) from Fq (L.length:Int) 4 (by omega) W);have i:=Hq (fun W=>show Cr 73 #[.int .i64 ((Oct.Gr L:Nat):Int),.int .i64 4] W (.string (Rc.mk (Rc.p ((Oct.Gr L:Nat):Int) 4))) from Fq ((Oct.Gr L:Nat):Int) 4 (by omega) W);have m:∀ n,(Rc.p n 4).length=4:=fun n=>Oct.Bc _ _;have a:=fun W=>F5 (Rc.p (L.length:Int) 4) (Rc.p ((Oct.Gr L:Nat):Int) 4) (by rw[m,m];omega) W;have b:=fun W=>F5 (Rc.p (L.length:Int) 4++Rc.p ((Oct.Gr L:Nat):Int) 4) L (by rw[List.length_append,m,m];omega) W;have j:(Rc.mk L).size=L.length:=Rc.Rk L;generalize ((Oct.Gr L:Nat):Int)=q at B i a b ⊢;obtain⟨z3,o⟩:=ex (Rc.mk (Rc.p (L.length:Int) 4++Rc.p q 4++L));rw[← o]at b ⊢;obtain⟨z2,s⟩:=ex (Rc.mk (Rc.p (L.length:Int) 4++Rc.p q 4));rw[← s]at a b;clear s o;generalize Rc.mk (Rc.p (L.length:Int) 4)=x1 at g a;generalize Rc.mk (Rc.p q 4)=x2 at i a;generalize Rc.mk L=y at x B b j;rw[← j]at g;clear z u hlen F j m;have C:=Hq (heap_alloc_new w (.cells (D3 r (.slice A r.txns.length c) (.slice D r.dirty.length d)) 49));clear E;obtain⟨N,prev,O,kind,Ad,next,R,⟨ok,os,S,on⟩,P,root,⟨T,U,es⟩,V,X⟩:=r;dsimp only[D9,D3]at v C x ⊢;go_enter Tryz.func69,Tryz.ntmps69
 go_upto_region 3 with(first
  |with_reducible refine lL C.out C5 ?_
  |(go_at_call 121;(with_reducible refine(v.out _ (Ac _ _)).mono ?_);rintro e Y ⟨rfl,k⟩))
 have t:=Hq (Ag (Ac w _) k);have G:=Hq (Af C.out k);clear k C v
 go_wp2_with(first
  |with_reducible refine lL G.out C5 ?_
  |(go_at_call 122;(with_reducible refine(x.out _ t.out).mono ?_);rintro e Z ⟨rfl,H⟩)
  |(go_at_call 73;(with_reducible refine(g.out _).mono ?_);rintro e w3 ⟨rfl,I⟩)
  |(go_at_call 123;(with_reducible refine(B.out _).mono ?_);rintro e w4 ⟨rfl,rfl⟩)
  |(go_at_call 73;(with_reducible refine(i.out _).mono ?_);rintro e w5 ⟨rfl,J⟩))
 go_ret2;exact⟨rfl,Ag (Ag (Ag t.out H) I) J⟩
theorem lG (a n:Int)(w:World):
 Cr 30 #[a,n] w (Nq ⟨a,n,0,0,⟨#[]⟩⟩):=by
 have b:=Hq (heap_alloc_new w (.cells #[(),(),(),(),""] 30));go_enter Tryz.func30,Tryz.ntmps30
 go_wp2_with(with_reducible refine lS #[a,n,(),(),""] b.out ?_)
 refine rT1 b.out Jj ?_;exact⟨rfl,((Eg.nil (Below.refl w.heap.size w)).new (by simp) #[(),(),(),(),""] 30).row 0 _ _ rfl|>.below⟩
def Lg.Pd (n:Int):Int:=if n<0∨1099511627776<n then 0 else n*128
theorem dZ (f n e s:Int)(t:ByteArray)(w:World):
 Cr 70 #[.agg #[f,n,e,s,t]] w (.int .i64 (Lg.Pd n)):=by
 by_cases a:n<0
 ·rw[show Lg.Pd n=0 by unfold Lg.Pd;rw[if_pos (.inl a)]]
  go_enter Tryz.func70,Tryz.ntmps70;go_wp2_with fail;go_ret;exact⟨by simp,Ac _ _⟩
 ·by_cases b:1099511627776<n
  ·rw[show Lg.Pd n=0 by unfold Lg.Pd;rw[if_pos (.inr b)]]
   go_enter Tryz.func70,Tryz.ntmps70;go_wp2_with fail;go_ret;exact⟨by simp,Ac _ _⟩
  ·rw[show Lg.Pd n=n*128 by unfold Lg.Pd;rw[if_neg (by omega)]]
   have c:IntKind.i64.wrap (n*128)=n*128:=IntWalk.i64_in _ (by omega);go_enter Tryz.func70,Tryz.ntmps70;go_wp2_with fail;go_ret;exact⟨by simp,Ac _ _⟩
theorem Qv (l:Lg.Lo)(ah:0≤l.end_)(ai:l.end_≤1000000000)(aj:0≤l.n)(ak:l.n≤1000000000)(ht:l.tail.size≤1000000000)(r:Rc.Rec)(A D:Option Addr)(c d:Nat)(w:World)(R:Ig w r A c D d)(a6:r.kind=1∨r.kind=2∨r.kind=3∨r.kind=8):
 Cq 29 #[Nq l,D9 r (.slice A r.txns.length c) (.slice D r.dirty.length d)] w (Ss (Lg.As l r) w):=by
 have O:=Hq (fun y W (hb:Bw w W)=>dY {r with lsn:=l.end_+1} y A D c d W ⟨R.txns.below hb,R.dirty.below hb,R.small⟩ a6);have P:=Hq (fun y W (hb:Bw w W)=>lF {r with lsn:=l.end_+1} y A D c d W ⟨R.txns.below hb,R.dirty.below hb,R.small⟩ a6);have HN:=Hq (@Lg.O1 l r);have H:=Hq (@Lg.Qs l r);have I:=Hq (@Lg.U9 l r);generalize Lg.As l r=o at HN H I ⊢;clear R;obtain⟨i,n,en,j,f⟩:=l;obtain⟨lsn,prev,a,kind,Ad,next,z,⟨ok,os,B,on⟩,b,root,⟨C,E,es⟩,F,G⟩:=r;dsimp only[D9,D3,Nq]at O P HN H I ah ai aj ak ht ⊢;have ar:IntKind.i64.wrap (en+1)=en+1:=IntWalk.i64_in _ (by omega)
 by_cases y:Rc.Bu ⟨en+1,prev,a,kind,Ad,next,z,⟨ok,os,B,on⟩,b,root,⟨C,E,es⟩,F,G⟩
 ·have HP:=Hq (O.out y)
  have v:=Hq (H.out y);have k:=Hq (I.out y);have J:(Lg.D5 ⟨en+1,prev,a,kind,Ad,next,z,⟨ok,os,B,on⟩,b,root,⟨C,E,es⟩,F,G⟩).length≤40008:=by rw[Lg.Mi];have:=(Rc.M8 y).2;omega
  obtain⟨x,hx⟩:=ex (⟨(Lg.D5 ⟨en+1,prev,a,kind,Ad,next,z,⟨ok,os,B,on⟩,b,root,⟨C,E,es⟩,F,G⟩).toArray⟩:ByteArray);have a7:(Lg.D5 ⟨en+1,prev,a,kind,Ad,next,z,⟨ok,os,B,on⟩,b,root,⟨C,E,es⟩,F,G⟩).length=x.size:=by rw[hx];show _=((Lg.D5 ⟨en+1,prev,a,kind,Ad,next,z,⟨ok,os,B,on⟩,b,root,⟨C,E,es⟩,F,G⟩).toArray).size;simp
  rw[a7]at v k J;rw[← hx]at HP k;have au:=J;clear O P HN H I y hx a7 J;go_enter Tryz.func29,Tryz.ntmps29;go_upto_region 1 with fail;have q:=Ol w #[i,n,en,j,f] 30 (Cn lsn prev a kind Ad next z ok os B on b root C E es (.slice A F.length c) (.slice D G.length d)) 49 #[(),(),(),(),""] 30;obtain⟨T,s⟩:=E0 q;have U:T.heap.size=w.heap.size+3:=by rw[s];simp
  rw[← s]at q ⊢;have V:=Aa q.out.Ao;have X:=Aa q.out.Aq;have Y:=Ap q.out.Aq;clear s;go_upto_region 2 with fail;have H1:=Hq (show Eg w.heap.size w [(#[i,n,en,j,f],30),((Cn (en+1) prev a kind Ad next z ok os B on b root C E es (.slice A F.length c) (.slice D G.length d)),49),(#[(),(),(),(),""],30)] (T.setCell ⟨w.heap.size+1,0,none⟩ (.int .i64 (en+1)))from by have h:=q.out.set 1 0 (.int .i64 (en+1)) _ rfl;simpa using h);obtain⟨W1,L⟩:=ex (T.setCell ⟨w.heap.size+1,0,none⟩ (.int .i64 (en+1)));rw[← L]at H1 ⊢;clear L V X Y q U;have M:=Hq H1.out.Aq
  go_upto_region 3 with(first
   |with_reducible refine lL M.out C5 ?_
   |(go_at_call 69;(with_reducible refine(HP.out _ H1.out.below).mono ?_);rintro e w2 ⟨rfl,N⟩))
  have p:=Hq (H1.out.step N);clear N H1 M HP;have Q:=Hq (show w2.drew.heap[w.heap.size]? =some (.cells #[i,n,en,j,f] 30 (0,0))from by have h:=p.out.drew.get 0 _ rfl;simpa using h);have a8:=Hq (fun W=>show Cr 70 #[.agg #[i,n,en,j,f]] W (.int .i64 (n*128)) from by
   have h9:=dZ i n en j f W;rw[show Lg.Pd n=n*128 from by unfold Lg.Pd;rw[if_neg (by omega)]]at h9;exact h9)
  go_upto_region 5 with fail;refine G7 (S:=(fun u=>u.heap[w.heap.size]? =some (.cells #[i,n,en,j,f] 30 (0,0)))) (fun g=>?_) (by first|exact hSn|exact Q.out);refine Bb 0 ?_;refine Bb 1 ?_;refine fA 2 Jj ?_;refine Bb 4 ?_;refine Bb 5 ?_;refine Dg 3 fun K hK=>?_
  go_simp
  refine(a8.out _).mono ?_;rintro e w3 ⟨rfl,Z⟩;have hSn:=Af Q.out Z;refine Cw hK (fun g=>?_) (by first|exact hSn|exact Q.out);clear hK K;refine Bb 6 ?_;refine Bb 7 ?_;refine wpAnyH_done Kr ?_ _;clear g hSn a8 Q;have aa:=Hq (p.out.drew.step Z);clear Z p;have p:=aa;clear aa;have hm:IntKind.i64.wrap (n*128)=n*128:=IntWalk.i64_in _ (by omega);have av:IntKind.i64.wrap (n*128-en)=n*128-en:=IntWalk.i64_in _ (by omega);have aw:IntKind.i64.wrap (en+(x.size:Int))=en+(x.size:Int):=IntWalk.i64_in _ (by omega);have ax:n*128-en<(x.size:Int)↔n*128-(x.size:Int)<en:=by omega
  by_cases al:n*128-en<(x.size:Int)
  ·have HO:=Hq (v.out (by omega))
   have m:=Hq (show w3.heap[w.heap.size]? =some (.cells #[i,n,en,j,f] 30 (0,0))from by have h:=p.out.Ao;simpa using h);have ad:=Aa m.out;clear v k
   go_wp2_with(first
    |with_reducible refine lL m.out Jj ?_
    |with_reducible refine lS #[i,n,en,j,f] p.out.Cd ?_)
   refine rT3 () (.int .i64 18) p.out.Cd Jj ?_;rw[HO.out];exact⟨rfl,(p.out.row 2 _ _ rfl).below⟩
  ·have HO:=Hq (k.out (by omega))
   have ae:∀ W:World,(Op.stringOp .add f x).run Tryz.prog W= .ok (.string (f++x)) W:=fun W=>run_string_add_sum W _ _ (by omega);have m:=Hq (show w3.heap[w.heap.size]? =some (.cells #[i,n,en,j,f] 30 (0,0))from by have h:=p.out.Ao;simpa using h);have ad:=Aa m.out;have an:=Ap m.out;clear v k;go_upto_region 8 with fail;have H3:=Hq (show Eg w.heap.size w [(#[i,n,en,j,.string (f++x)],30),((Cn (en+1) prev a kind Ad next z ok os B on b root C E es (.slice A F.length c) (.slice D G.length d)),49),(#[(),(),(),(),""],30)] (w3.setCell ⟨w.heap.size,4,none⟩ (.string (f++x)))from by have h:=p.out.set 0 4 (.string (f++x)) _ rfl;simpa using h);obtain⟨W3,af⟩:=ex (w3.setCell ⟨w.heap.size,4,none⟩ (.string (f++x)));rw[← af]at H3 ⊢;clear af ad an m p;have ao:=Aa H3.out.Ao;have aq:=Ap H3.out.Ao;go_upto_region 9 with fail;have H4:=Hq (show Eg w.heap.size w [(#[i,n,.int .i64 (en+(x.size:Int)),j,.string (f++x)],30),((Cn (en+1) prev a kind Ad next z ok os B on b root C E es (.slice A F.length c) (.slice D G.length d)),49),(#[(),(),(),(),""],30)] (W3.setCell ⟨w.heap.size,2,none⟩ (.int .i64 (en+(x.size:Int))))from by have h:=H3.out.set 0 2 (.int .i64 (en+(x.size:Int))) _ rfl;simpa using h);obtain⟨W4,ag⟩:=ex (W3.setCell ⟨w.heap.size,2,none⟩ (.int .i64 (en+(x.size:Int))));rw[← ag]at H4 ⊢;clear ag ao aq H3 ae;have t:=Hq H4.out.drew;refine G7 (S:=(fun u=>u.heap[w.heap.size]? =some (.cells #[i,n,.int .i64 (en+(x.size:Int)),j,.string (f++x)] 30 (0,0))∧u.heap[w.heap.size+1]? =some (.cells (Cn (en+1) prev a kind Ad next z ok os B on b root C E es (.slice A F.length c) (.slice D G.length d)) 49 (0,0)))) (fun g=>?_) (by first|exact hSn|exact⟨(by have h:=t.out.Ao;simpa using h),t.out.Aq⟩);refine Bb 0 ?_;refine Bb 1 ?_;refine Bb 2 ?_;refine Dg 3 fun K hK=>?_;refine Cc (by rfl) ?_;refine sW #[i,n,.int .i64 (en+(x.size:Int)),j,.string (f++x)] t.out.Cd ?_;have a1:=t.out.row 2 #[i,n,.int .i64 (en+(x.size:Int)),j,.string (f++x)] _ rfl;have hSn:=And.intro (show _=some (Obj.cells #[i,n,.int .i64 (en+(x.size:Int)),j,.string (f++x)] 30 (0,0))from by have h:=a1.get 0 _ rfl;simpa using h) (a1.get 1 _ rfl);refine Cw hK (fun g=>?_) (by first|exact hSn|exact⟨(by have h:=t.out.Ao;simpa using h),t.out.Aq⟩);clear hK K
   try simp only[Act.put]
   refine Bb 4 ?_;refine Bb 5 ?_;refine wpAnyH_done Kr ?_ _;clear g;go_wp2_with fail;refine rT3 (.int .i64 (en+1)) () t.out.Cd Jj ?_;rw[HO.out];exact⟨rfl,a1.below⟩
 ·have HO:=Hq (HN.out y)
  have HP:=Hq (P.out y);clear O P HN H I y;go_enter Tryz.func29,Tryz.ntmps29;go_upto_region 1 with fail;have q:=Ol w #[i,n,en,j,f] 30 (Cn lsn prev a kind Ad next z ok os B on b root C E es (.slice A F.length c) (.slice D G.length d)) 49 #[(),(),(),(),""] 30;obtain⟨T,s⟩:=E0 q;have U:T.heap.size=w.heap.size+3:=by rw[s];simp
  rw[← s]at q ⊢;have V:=Aa q.out.Ao;have X:=Aa q.out.Aq;have Y:=Ap q.out.Aq;clear s;go_upto_region 2 with fail;have H1:=Hq (show Eg w.heap.size w [(#[i,n,en,j,f],30),((Cn (en+1) prev a kind Ad next z ok os B on b root C E es (.slice A F.length c) (.slice D G.length d)),49),(#[(),(),(),(),""],30)] (T.setCell ⟨w.heap.size+1,0,none⟩ (.int .i64 (en+1)))from by have h:=q.out.set 1 0 (.int .i64 (en+1)) _ rfl;simpa using h);obtain⟨W1,L⟩:=ex (T.setCell ⟨w.heap.size+1,0,none⟩ (.int .i64 (en+1)));rw[← L]at H1 ⊢;clear L V X Y q U;have M:=Hq H1.out.Aq
  go_upto_region 3 with(first
   |with_reducible refine lL M.out C5 ?_
   |(go_at_call 69;(with_reducible refine(HP.out _ H1.out.below).mono ?_);rintro e w3 ⟨rfl,N⟩))
  have p:=Hq (H1.out.step N);clear N H1 M HP;have m:=Hq (show w3.heap[w.heap.size]? =some (.cells #[i,n,en,j,f] 30 (0,0))from by have h:=p.out.Ao;simpa using h)
  go_wp2_with(first
   |with_reducible refine lL m.out Jj ?_
   |with_reducible refine lS #[i,n,en,j,f] p.out.Cd ?_)
  refine rT3 () (.int .i64 1) p.out.Cd Jj ?_;rw[HO.out];exact⟨rfl,(p.out.row 2 _ _ rfl).below⟩
open Sc
theorem gM (z:Array Value)(n i:Nat)(hi:i<n):(madeCells z n)[i]? =some (z[i%z.size]!):=by
 unfold madeCells;rw[Array.getElem?_map,Array.getElem?_range,if_pos hi];rfl
theorem lH (k:Nat):madeCells (Value.agg #[(),"",(),false,()]).cells (k*5)=((E5 k).flatMap Kw).toArray:=by
 have hk:((E5 k).flatMap Kw).length=k*5:=by rw[Co Eb,Gp]
 apply Array.ext_getElem?
 intro i;have c:((E5 k).flatMap Kw).toArray[i]? =((E5 k).flatMap Kw)[i]? :=by simp
 rw[c]
 by_cases d:i<k*5
 ·have e:i=i/5*5+i%5:=by omega
  have a:i/5<(E5 k).length:=by rw[Gp];omega
  have b:=Jt Eb (E5 k) (i/5) (i%5) a (by omega);rw[← e,Ij a]at b;rw[gM _ _ _ d,b];have f:i%5=0∨i%5=1∨i%5=2∨i%5=3∨i%5=4:=by omega
  show some (#[Value.int .i64 0,"",(),false,()][i%5]!)=_
  rcases f with h|h|h|h|h<;>rw[h]<;>rfl
 ·rw[Array.getElem?_eq_none (by rw[size_madeCells];omega),List.getElem?_eq_none (by omega)]
theorem lI (k:Nat)(hk:k≤64)(W:World):(Instr.makeSlice 31 (.int .i64 (k:Int)) (.int .i64 (k:Int))).run Tryz.prog W= .ok (.slice (some ⟨W.heap.size,0,none⟩) k k) (W.alloc (.cells ((E5 k).flatMap Kw).toArray 108)):=by
 obtain⟨i0,d,a,b,c⟩:=info_parts Xe;have h:=run_make (P:=Tryz.prog) W 31 108 i0 (.agg #[(),"",(),false,()]) sQ d a .i64 .i64 (k:Int) (k:Int) (by omega) (by omega) (by rw[c];omega) (by omega);rw[b,Int.toNat_natCast,lH]at h;exact h
def xM (k:Nat)(w:World)(e:Ending)(w':World):Prop:=
 ∃ b,e= .returned (.tuple #[.agg #[.slice (some ⟨b,0,none⟩) k k,()],()])∧Reads w' (some ⟨b,0,none⟩) k k ((E5 k).flatMap Kw)∧De w.heap.size w' 108 (some ⟨b,0,none⟩)∧Bw w w'
theorem lJ (k:Nat)(hk:1≤k∧k≤64)(w:World):
 Cq 28 #[.int .i64 (k:Int)] w (xM k w):=by
 have f:=fun W=>lI k hk.2 W;have j:¬ (k:Int)<1:=by omega
 have l:¬ (64:Int)<(k:Int):=by omega
 generalize b:((E5 k).flatMap Kw).toArray=fr at f;have g:=Hq b;clear b;go_enter Tryz.func28,Tryz.ntmps28;go_upto_region 1 with fail;have d:=bP w #["s",()] 33;obtain⟨a,c⟩:=E0 d;rw[← c]at d ⊢;clear c;go_upto_region 3 with fail;have H1:=Hq (d.out.step (Ac a (.cells fr 108)));have m:=Hq (heap_alloc_new a (.cells fr 108))
 go_wp2_with(with_reducible refine lS #[.slice (some ⟨a.heap.size,0,none⟩) k k,()] H1.out.Ao ?_)
 refine rT2 () H1.out.Ao yH ?_;have n:w.heap.size<a.heap.size:=by have:=d.out.lt (i:=0) (by simp);omega
 have h:=(Ae (a.alloc (.cells fr 108)) w.heap.size #[.slice (some ⟨a.heap.size,0,none⟩) k k,()] a.heap.size (by omega)).trans m.out;refine⟨a.heap.size,rfl,F7 (T:=108) (by rw[h,← g.out]) (Nat.le_refl _),fun o e=>?_,(H1.out.row 0 _ _ rfl).below⟩
 injection e with e
 subst e;exact⟨by show w.heap.size≤a.heap.size;omega,_,_,h⟩
noncomputable def Ge (N:Nat):Lg.Lo×Int×Int:=Lg.As ⟨1,(N:Int),0,0,⟨#[]⟩⟩ (Rc.bare 1 0 0 1)
noncomputable def Kf (N n k:Nat):Tx.St:={dO N n k with log:=(Ge N).1,txns:=[⟨1,(Ge N).2.1,(Ge N).2.1,false⟩],next:=2}
theorem Vp {N n k:Nat}(a:1≤n∧n≤60∧N≤3000)(d:10≤N)(hk:1≤k∧k≤64):∃ g:Lg.Lo,Ge N=(g,1,0)∧PI N n {dO N n k with log:=g} (E5 k) (fun _=>Gi (0:Nat)):=by
 have b:PI N n (dO N n k) (E5 k) (fun _=>Gi (0:Nat)):=pR a hk;obtain⟨g2,e,c,_,_⟩:=b.log (Rc.bare 1 0 0 1) (.small 1 _ 0 1 (.inl rfl) ⟨by show(0:Int)≤0+1;decide,by show(0:Int)+1<_;decide⟩ Rc.gF ⟨by decide,by decide⟩) (by show(1:Int)≠9;decide) (by show(0:Int)+1072≤(N:Int)*128;omega);exact⟨g2,e,c⟩
theorem lK (N:Nat):aG N (Ge N).1:=by
 refine aG.append (l:=⟨1,(N:Int),0,0,⟨#[]⟩⟩) ⟨Int.le_refl _,?_,Int.le_refl _,Int.le_refl _,rfl,rfl,⟨Int.le_refl _,Int.le_refl _,rfl⟩⟩ _
 show(0:Int)≤(N:Int)*128
 omega
theorem Nj:Rc.num 1:=⟨by decide,by decide⟩
theorem qA {N n k:Nat}(d:1≤n∧n≤60∧N≤3000)(m:10≤N)(hk:1≤k∧k≤64):Wf N n 0 (Kf N n k) (E5 k):=by
 have a:=lK N;obtain⟨g,e,_⟩:=Vp d m hk;have r:=a.ef;have o:=a.n;refine⟨rfl,rfl,d,⟨a.e0,by show(Ge N).1.end_≤_;omega,a.t0,a.t1,a.f,by show 0≤(Ge N).1.n;omega,by show(Ge N).1.n≤_;omega,a.al.s0,a.al.se⟩,a.al,a.n,a.ef,
  ⟨fun x p=>?_,⟨by show _≤(-1:Int);decide,by show(-1:Int)≤_;decide⟩,List.length_replicate⟩,by rw[Gp];exact hk,⟨Int.le_refl _,(by decide:(0:Int)≤64)⟩,fun i b=>?_,fun i j b s _ l _=>?_,by show 1≤800000;omega,fun t q=>?_⟩
 ·rw[(List.mem_replicate.1 p).2];exact Lg.Iz
 ·rw[Ij b]
  exact⟨by decide,⟨Int.le_refl _,Int.le_refl _⟩,Kx,⟨Int.le_refl _,by show(0:Int)<(n:Int);omega⟩,fun h=>absurd rfl h,fun h=>absurd rfl h⟩
 ·rw[Full,Ij b]at l;exact absurd rfl l
 ·have c:t=⟨1,(Ge N).2.1,(Ge N).2.1,false⟩:=by simpa[Kf]using q
  rw[c,e];exact⟨Nj,Nj,Nj⟩
theorem eA (N n k:Nat)(hn:1≤n∧n≤60∧N≤3000)(hk:1≤k∧k≤64)(w:World):
 Cq 7 #[.agg #[.int .i64 (N:Int),.int .i64 (n:Int),.int .i64 (k:Int)]] w fun e w'=>∃ q:SP,e= .returned (Ah (Kf N n k) q)∧Am w' (Kf N n k) q (E5 k)∧Bw w w':=by
 have r:=Hq (fun W=>show Cq 27 #[.int .i64 ((1+N+4*n:Nat):Int)] W (Wv (Lg.Li (1+N+4*n)) W)from oR (1+N+4*n) (by omega) (by omega) W);have a1:=Hq (fun W=>lJ k hk W);have a6:=Hq (fun W=>lG 1 (N:Int) W);have v:=Hq (fun W=>show Cq 29 #[Nq ⟨1,(N:Int),0,0,⟨#[]⟩⟩,.agg #[(),(),.int .i64 1,.int .i64 1,(),(),(),(),(),"","",(),(),"",(),(),"s","s"]] W (Ss (Ge N) W)from by
  have h0:=Qv ⟨1,(N:Int),0,0,⟨#[]⟩⟩ (Int.le_refl _) (by show(0:Int)≤1000000000;decide) (by show(0:Int)≤(N:Int);omega) (by show(N:Int)≤_;omega) (by show(0:Nat)≤1000000000;omega) (Rc.bare 1 0 0 1) none none 0 0 W (O9 (Rc.bare 1 0 0 1) W rfl rfl) (.inl rfl);exact h0)
 have ay:IntKind.i64.wrap (1+(N:Int))=1+(N:Int):=IntWalk.i64_in _ (by omega);have az:IntKind.i64.wrap (4*(n:Int))=4*(n:Int):=IntWalk.i64_in _ (by omega);have aq:IntKind.i64.wrap (1+(N:Int)+4*(n:Int))=((1+N+4*n:Nat):Int):=(IntWalk.i64_in _ (by omega)).trans (by omega);have HS:=Hq (show Kf N n k=⟨(N:Int),(n:Int),(k:Int),Lg.Li (1+N+4*n),(Ge N).1,0,[⟨1,(Ge N).2.1,(Ge N).2.1,false⟩],2⟩from rfl);generalize Kf N n k=S at HS ⊢;have x:(Lg.Li (1+N+4*n)).left= -1∧(Lg.Li (1+N+4*n)).down=false:=⟨rfl,rfl⟩;have HQ:=Hq (fun(w':World) (q:SP) (hp:Am w' S q (E5 k)) (hb:Bw w w')=>show(fun(e:Ending) (w':World)=>∃ q:SP,e= .returned (Ah S q)∧Am w' S q (E5 k)∧Bw w w') (.returned (Ah S q)) w' from⟨q,rfl,hp,hb⟩);generalize (fun(e:Ending) (w':World)=>∃ q:SP,e= .returned (Ah S q)∧Am w' S q (E5 k)∧Bw w w')=Q at HQ ⊢;generalize Lg.Li (1+N+4*n)=d at r HS x;obtain⟨L,dl,dd⟩:=d;simp only at x;obtain⟨rfl,rfl⟩:=x;generalize Ge N=a at v HS;obtain⟨l,b,le⟩:=a;simp only at HS;generalize hM:((1+N+4*n:Nat):Int)=M at r aq;clear hM;go_enter Tryz.func7,Tryz.ntmps7;go_upto_region 1 with fail;have X:=Lx w #[.int .i64 (N:Int),.int .i64 (n:Int),.int .i64 (k:Int)] 25 #[(),(),(),"s",(),false,(),(),(),(),"","s",(),"s",()] 36;obtain⟨W0,a7⟩:=E0 X;rw[← a7]at X ⊢;clear a7;have y:=show W0.cell? ⟨w.heap.size,0,none⟩=some (.int .i64 (N:Int))from by rw[Aa X.out.Ao];rfl
 have ar:=show W0.cell? ⟨w.heap.size,1,none⟩=some (.int .i64 (n:Int))from by rw[Aa X.out.Ao];rfl
 go_upto_region 2 with(first
  |(go_at_call 27;refine(r.out _).mono ?_;rintro e Y ⟨A,c,rfl,a8,aa,z⟩)
  |with_reducible refine sN #[.slice A L.length c,.int .i64 (-1),false] ?_)
 have ae:=z.trans ((Ac Y (.cells #[.slice A L.length c,.int .i64 (-1),false] 28)).mono z.size);have H2:=Hq (X.out.step ae);have B:=Hq (heap_alloc_new Y (.cells #[.slice A L.length c,.int .i64 (-1),false] 28));have C:=Hq (a8.below (Ac Y (.cells #[.slice A L.length c,.int .i64 (-1),false] 28)));have D:=Hq (aa.below (Ac Y (.cells #[.slice A L.length c,.int .i64 (-1),false] 28)));obtain⟨g1,E⟩:=ex Y.heap.size;obtain⟨w2,h⟩:=ex (Y.alloc (.cells #[.slice A L.length c,.int .i64 (-1),false] 28));rw[← E,← h]at B;rw[← h]at H2 C D;rw[← h,← E];clear h E z ae X a8 aa y ar
 try simp only[Act.put]
 have au:=show w2.cell? ⟨w.heap.size,2,none⟩=some (.int .i64 (k:Int))from by rw[Aa H2.out.Ao];rfl
 go_upto_region 3 with(first
  |(go_at_call 28;refine(a1.out _).mono ?_;rintro e Z ⟨m,rfl,af,ag,F⟩)
  |with_reducible refine sN #[.slice (some ⟨m,0,none⟩) k k,()] ?_)
 have o:=F.trans ((Ac Z (.cells #[.slice (some ⟨m,0,none⟩) k k,()] 33)).mono F.size);have H4:=Hq (H2.out.step o);have G:=Hq (Af B.out o);have H:=Hq (heap_alloc_new Z (.cells #[.slice (some ⟨m,0,none⟩) k k,()] 33));have I:=Hq (C.out.below o);have J:=Hq (D.out.below o);have K:=Hq (af.below (Ac Z (.cells #[.slice (some ⟨m,0,none⟩) k k,()] 33)));have p:=Hq (ag.below (Ac Z (.cells #[.slice (some ⟨m,0,none⟩) k k,()] 33)));obtain⟨g2,O⟩:=ex Z.heap.size;obtain⟨w4,i⟩:=ex (Z.alloc (.cells #[.slice (some ⟨m,0,none⟩) k k,()] 33));rw[← O,← i]at H;rw[← i]at H4 G I J K p;rw[← i,← O];clear i O F o H2 B C D af ag au r a1
 try simp only[Act.put]
 have y:=show w4.cell? ⟨w.heap.size,0,none⟩=some (.int .i64 (N:Int))from by rw[Aa H4.out.Ao];rfl
 go_upto_region 4 with(first
  |(go_at_call 30;refine(a6.out _).mono ?_;rintro e w5 ⟨rfl,ah⟩)
  |(go_at_call 29;refine(v.out _).mono ?_;rintro e w6 ⟨rfl,ai⟩)
  |with_reducible refine sN #[l.from_,l.n,l.end_,l.safe,l.tail] ?_)
 have f:=Ag ah (Ag ai (Ac w6 (.cells #[l.from_,l.n,l.end_,l.safe,l.tail] 30)));have H7:=Hq (H4.out.step f);have P:=Hq (Af G.out f);have R:=Hq (Af H.out f);have U:=Hq (heap_alloc_new w6 (.cells #[l.from_,l.n,l.end_,l.safe,l.tail] 30));have aj:=Hq (I.out.below f);have ak:=Hq (J.out.below f);have al:=Hq (K.out.below f);have s:=Hq (p.out.below f);obtain⟨g3,V⟩:=ex w6.heap.size;obtain⟨u,j⟩:=ex (w6.alloc (.cells #[l.from_,l.n,l.end_,l.safe,l.tail] 30));rw[← V,← j]at U;rw[← j]at H7 P R aj ak al s;rw[← j,← V];clear j V ah ai f H4 G H I J K p y a6 v
 try simp only[Act.put]
 have g:=Ac u (.cells #[.int .i64 1,b,b,false] 59);have H8:=Hq (H7.out.step g);have an:=Hq (heap_alloc_new u (.cells #[.int .i64 1,b,b,false] 59));have b0:=Hq (Af P.out g);have b1:=Hq (Af R.out g);have b2:=Hq (Af U.out g);have av:=Hq (aj.out.below g);have aw:=Hq (ak.out.below g);have ax:=Hq (al.out.below g);have ao:=Hq (s.out.below g)
 go_wp2_with(first
  |with_reducible refine lL H7.out.Ao zM ?_
  |with_reducible refine lL P.out Fy ?_
  |with_reducible refine lL U.out Jj ?_
  |with_reducible refine lL R.out yH ?_
  |with_reducible refine lS (Ak ⟨(N:Int),(n:Int),(k:Int),⟨L,-1,false⟩,l,0,[⟨1,b,b,false⟩],2⟩ ⟨A,c,some ⟨m,0,none⟩,k,k,some ⟨u.heap.size,0,none⟩,1⟩) H8.out.Aq ?_)
 refine rT1 H8.out.Aq Ar ?_;have hs:=HS.out;subst hs;have hp:Am (u.alloc (.cells #[.int .i64 1,b,b,false] 59)) ⟨(N:Int),(n:Int),(k:Int),⟨L,-1,false⟩,l,0,[⟨1,b,b,false⟩],2⟩ ⟨A,c,some ⟨m,0,none⟩,k,k,some ⟨u.heap.size,0,none⟩,1⟩ (E5 k):=⟨⟨av.out,aw.out.mono (Nat.zero_le _),F7 (T:=59) (by rw[an.out];rfl) (Nat.le_refl _),fun ad e=>by
  injection e with e
  subst e;exact⟨Nat.zero_le _,_,_,an.out⟩⟩,(Gp k).symm,by rw[Gp];exact ax.out,ao.out.mono (Nat.zero_le _)⟩
 exact HQ.out _ ⟨A,c,some ⟨m,0,none⟩,k,k,some ⟨u.heap.size,0,none⟩,1⟩ (hp.other (t:=36) H8.out.Aq (by decide) (by decide) (by decide) (Ak ⟨(N:Int),(n:Int),(k:Int),⟨L,-1,false⟩,l,0,[⟨1,b,b,false⟩],2⟩ ⟨A,c,some ⟨m,0,none⟩,k,k,some ⟨u.heap.size,0,none⟩,1⟩)) (H8.out.row 1 (Ak ⟨(N:Int),(n:Int),(k:Int),⟨L,-1,false⟩,l,0,[⟨1,b,b,false⟩],2⟩ ⟨A,c,some ⟨m,0,none⟩,k,k,some ⟨u.heap.size,0,none⟩,1⟩) _ rfl).below
end Go.Proofs.YtmfkhdhnbkambaaGreatDoor
