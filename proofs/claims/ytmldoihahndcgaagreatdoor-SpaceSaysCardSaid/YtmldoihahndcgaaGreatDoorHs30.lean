import Derived.Test.YtmldoihahndcgaaGreatDoorHs00
import Derived.Test.YtmldoihahndcgaaGreatDoorHs29
set_option maxRecDepth 100000
set_option maxHeartbeats 16000000
set_option linter.unusedSimpArgs false
namespace Go.Proofs.YtmldoihahndcgaaGreatDoor
open Go.RowKit Sc
theorem lsays_any (x0 x1:Nat)(h0:x0<256)(h1:x1<256)(F:List sE)(A:Option Addr)(c:Nat)(w:World)(hr:Reads w A c F.length (F.flatMap kO)):
 Cr 3 #[.int .u8 (x0:Int),.int .u8 (x1:Int),.slice A F.length c] w (.bool true):=by
 have dp:=Hq (fun W=>dT W)
 by_cases ez:F.length≤25
 ·have fa:¬ (25:Int)<(F.length:Int):=by omega
  have dq:=Hq (fun W (hb:Bw w W)=>hr.below hb);obtain⟨n,hn⟩:=ex (1+x0%30);obtain⟨k,hk⟩:=ex (1+x1%8);have fc:1≤n∧n≤30:=by omega
  have cj:1≤k∧k≤8:=by omega
  have fe:IntKind.i64.wrap (x0:Int)=(x0:Int):=IntWalk.i64_in _ (by omega);have ff:IntKind.i64.wrap (x1:Int)=(x1:Int):=IntWalk.i64_in _ (by omega);have dr:Int.tmod (x0:Int) 30=((x0%30:Nat):Int):=by rw[Int.tmod_eq_emod_of_nonneg (by omega)];omega
  have ds:Int.tmod (x1:Int) 8=((x1%8:Nat):Int):=by rw[Int.tmod_eq_emod_of_nonneg (by omega)];omega
  have dt:IntKind.i64.wrap ((x0%30:Nat):Int)=((x0%30:Nat):Int):=IntWalk.i64_in _ (by omega);have du:IntKind.i64.wrap ((x1%8:Nat):Int)=((x1%8:Nat):Int):=IntWalk.i64_in _ (by omega);have dv:IntKind.i64.wrap (1+((x0%30:Nat):Int))=(n:Int):=by rw[IntWalk.i64_in _ (by omega)];omega
  have dw:IntKind.i64.wrap (1+((x1%8:Nat):Int))=(k:Int):=by rw[IntWalk.i64_in _ (by omega)];omega
  generalize ((x0%30:Nat):Int)=m0 at dr dt dv;generalize ((x1%8:Nat):Int)=m1 at ds du dw;have dx:=Hq (fun W=>Qd n k (by omega) (by omega) W);have dy:=Hq (fun W=>Th n k (by omega) (by omega) W);clear hn hk hr;go_enter Tryz.func3,Tryz.ntmps3
  go_upto_region 5 with(first
   |(go_at_call 9;refine(dx.out _).mono ?_;rintro e v1 ⟨s0,p0,fg,C0,rfl,a7,bh,dz,J⟩)
   |with_reducible refine sN (Aj s0 p0) ?_)
  have B:=Hq (Ad J (Ab v1 (.cells (Aj s0 p0) 36)));have a8:=Hq (heap_alloc_new v1 (.cells (Aj s0 p0) 36));have ag:=Hq (a7.below (Ab v1 (.cells (Aj s0 p0) 36)));have bu:=Hq bh;have ah:=Hq dz;have bj:w.heap.size≤v1.heap.size:=J.size;obtain⟨g9,hg⟩:=ex v1.heap.size;obtain⟨w2,bw⟩:=ex (v1.alloc (.cells (Aj s0 p0) 36));rw[← hg,← bw]at a8;rw[← bw]at B ag;rw[← bw,← hg];rw[← hg]at bj;have e0:g9<w2.heap.size:=By a8.out;clear bw hg J a7 bh dz dx fe ff dr ds dt du dv dw
  try simp only[Act.put]
  go_upto_region 6 with(first
   |(go_at_call 10;refine(dy.out _).mono ?_;rintro e v3 ⟨r0,q0,rfl,bk,ck,ai⟩)
   |with_reducible refine sN (Aj r0 q0) ?_)
  have L:=Ad ai (Ab v3 (.cells (Aj r0 q0) 36));have b5:=Hq (Ad B.out L);have cm:=Hq (Ae a8.out L);have b6:=Hq (ag.out.below L);have bx:=Hq (heap_alloc_new v3 (.cells (Aj r0 q0) 36));have b7:=Hq (bk.below (Ab v3 (.cells (Aj r0 q0) 36)));have bz:=Hq (SW.mk ck (oO ck));have X:g9<v3.heap.size:=Nat.lt_of_lt_of_le e0 ai.size;obtain⟨g12,hg⟩:=ex v3.heap.size;obtain⟨w4,c6⟩:=ex (v3.alloc (.cells (Aj r0 q0) 36));rw[← hg,← c6]at bx;rw[← c6]at b5 cm b6 b7;rw[← c6,← hg];rw[← hg]at X;clear c6 hg ai L bk ck e0 dy B a8 ag
  try simp only[Act.put]
  have cn:=Hq (aC r0 q0 (D5 k) _ bz.out (by decide) 1 (by simp) ⟨by decide,by decide⟩ w4 b7.out);unfold Lx at cn
  go_upto_region 7 with(first
   |with_reducible refine lL bx.out Ar ?_
   |(go_at_call 11;(refine cn.out.mono ?_);rintro e v5 ⟨r1,q1,e1,D1,rfl,e2,e3,e4,aj⟩;have bl:=Hq (Ae bx.out aj))
   |with_reducible refine lS (Aj r1 q1) bl.out ?_)
  have b8:=Hq (E7 (g:=g12) (by omega) (Ad b5.out aj) (Aj r1 q1));have b9:=Hq ((aH.mk (Ae cm.out aj) (b6.out.below aj) bu.out ah.out).other bl.out (Nat.ne_of_lt X) (Aj r1 q1));have ba:=Hq (show fR n k g12 (v5.setRow g12 (Aj r1 q1)) 3786 r1 q1 e1 D1 (Cy ((n+7)/8)) Wt from⟨setRow_heap _ _ _ (Aj r1 q1) _ _ bl.out,e2.other (t:=36) bl.out (by decide) (by decide) (by decide) (Aj r1 q1),e3,oL fc.1 e4⟩);generalize v5.setRow g12 (Aj r1 q1)=w6 at b8 b9 ba ⊢;clear aj e2 e3 e4 bl cn b5 cm b6 bx b7 bz bu ah
  try simp only[Act.put]
  go_wp2_with fail
  go_loopw [16] (fun x wq=>∃ (j:Nat) (s:Tx.St) (p:SP) (fs:List Fr) (C:Nat→ByteArray) (r:Tx.St) (q:SP) (gs:List Fr) (D:Nat→ByteArray) (b:ByteArray) (u:Nat→Nat),j≤F.length∧x= .int .i64 (j:Int)∧aH n k g9 wq (3786+5048*(j:Int)) s p fs C b u∧fR n k g12 wq (3786+5048*(j:Int)) r q gs D b u∧Bw w wq) (fun x _=>F.length-(intOf x).toNat)
  case atStart=>exact⟨0,s0,p0,fg,C0,r1,q1,e1,D1,_,Wt,Nat.zero_le _,rfl,b9.out,ba.out,b8.out⟩
  case round=>
   clear b9 ba b8;obtain⟨v0,rfl⟩:=ex wr;obtain⟨j,s,p,fs,C,r,q,gs,D,b,u,hj,rfl,hd,he,hb⟩:=hrel;have O:=Hq hd;have HE:=Hq he;have U:=Hq hb;clear hd he hb;have fo:(0:Int)≤(j:Int):=by omega
   by_cases fh:j<F.length
   ·have fi:(j:Int)<(F.length:Int):=by omega
    have fp:IntKind.i64.wrap ((j:Int)+1)=(j:Int)+1:=IntWalk.i64_in _ (by omega);obtain⟨ab,ao,hA,fj,cp,c7⟩:=Bu Ti (dq.out w (Below.refl _ _)) fh;obtain⟨ac,e5⟩:=ex (F[j]);rw[← e5]at c7;obtain⟨af,an⟩:=ac;have c8:=Hq (fun W (hw:Bw w W)=>show W.cell? ⟨ab,ao+j*2,none⟩=some (.bool af)from by rw[hw.cell (p:=⟨ab,ao+j*2,none⟩) cp];have:=c7 0 _ rfl;simpa using this);have f:=Hq (fun W (hw:Bw w W)=>show W.cell? ⟨ab,ao+j*2+1,none⟩=some (.int .i64 an)from by rw[hw.cell (p:=⟨ab,ao+j*2+1,none⟩) cp];exact c7 1 _ rfl);rw[hA];clear c7 fj cp hA e5;obtain⟨c,bm⟩:=ex (3786+5048*(j:Int):Int);have ca:=Hq (show c+5048≤(3000:Nat)*128 from by omega);have e6:=Hq (show 3786+5048*((j+1:Nat):Int)=c+5048 from by omega);rw[← bm]at O HE;obtain⟨low,bn⟩:=oN u n;have bb:=Hq (fun W (hh:aH n k g9 W c s p fs C b u)=>kP s p fs C ca.out b u hh.si an W hh.pr hh.ss);have bo:=Hq (fun W (hh:fR n k g12 W c r q gs D b u)=>dV r q gs D ca.out b u hh.si an W hh.pr hh.sw);have bc:=Hq (fun W (hh:aH n k g9 W c s p fs C b u)=>dU s p fs C ca.out b u hh.si an W hh.pr hh.ss low bn);have bp:=Hq (fun W (hh:fR n k g12 W c r q gs D b u)=>aG r q gs D ca.out b u hh.si an W hh.pr hh.sw low bn);clear bm bn;generalize Oo n b u an=ra at bb bo;obtain⟨fy,fb,fu⟩:=ra;generalize I7 n low b u an=rb at bc bp;obtain⟨ax,ay,e7,au⟩:=rb;dsimp only at bb bo bc bp;have fk:=c8.out _ U.out;go_upto_if 84 with fail;clear fk
    go_cut [17,18,19,20] (fun x1 x2 y1 y2 wc=>∃ (x y:Int) (s2:Tx.St) (E:SP) (I:List Fr) (C2:Nat→ByteArray) (G:Tx.St) (H:SP) (Y:List Fr) (D2:Nat→ByteArray) (b2:ByteArray) (u2:Nat→Nat),x1= .int .i64 x∧x2= .int .i64 x∧y1= .int .i64 y∧y2= .int .i64 y∧aH n k g9 wc (c+5048) s2 E I C2 b2 u2∧fR n k g12 wc (c+5048) G H Y D2 b2 u2∧Bw w wc)
    case first=>
     cases af with
     |true=>
      clear bc bp c8;go_upto_region 14 with fail
      go_cut [19] (fun y wc=>y= .int .i64 fy∧∃ (s2:Tx.St) (E:SP) (I:List Fr) (C2:Nat→ByteArray),aH n k g9 wc (c+5048) s2 E I C2 fb fu∧fR n k g12 wc c r q gs D b u∧Bw w wc)
      case first=>
       have hSn:Bw v0 v0.drew:=(Below.refl _ v0).drew;refine Ep (S:=(fun u=>Bw v0 u)) 11 Kr ?_ (fun l=>?_)
       ·exact hSn
       generalize v0.drew=v8 at hSn ⊢;refine An (i:=0) (oi:={dst:=some 86,op:=_,type:=_,pos:=_,after:=_,guard:=_}) (v:=.agg (Aj s p)) (p:=[11]) rfl Kr Kr Kr Kr Kr Kr (fun _ _ _ h=>h) (yieldsIf_load_mid (by rfl) 36 (.tmp 9) rfl g9 0 (by rfl) (Aj s p).toList _ (fun u hu=>(by intro j v hj;rw[Nat.zero_add,Aa (Ae O.out.st hu)];simpa using hj)) Ar Kr Kr) (by assumption) ?_
       try simp only[Act.put,pS]
       refine An (i:=1) (oi:={dst:=some 87,op:=_,type:=_,pos:=_,after:=_,guard:=_}) (v:=?_) (p:=[11]) rfl Kr Kr Kr Kr Kr Kr (fun _ _ _ h=>h) (Or.inl ⟨by rfl,?_⟩) (by assumption) ?_
       rotate_left
       ·intro u a;have m:=f.out u (Ad U.out a);clear a;go_simp;(try with_reducible rfl)
       try simp only[Act.put,pS]
       refine An (i:=2) (oi:={dst:=some 88,op:=_,type:=_,pos:=_,after:=_,guard:=_}) (v:=?_) (p:=[11]) rfl Kr Kr Kr Kr Kr Kr (fun _ _ _ h=>h) (Or.inl ⟨by rfl,?_⟩) (by assumption) ?_
       rotate_left
       ·intro u a;have m:=f.out u (Ad U.out a);clear a;go_simp;(try with_reducible rfl)
       try simp only[Act.put,pS]
       refine An (i:=3) (oi:={dst:=some 89,op:=_,type:=_,pos:=_,after:=_,guard:=_}) (v:=?_) (p:=[11]) rfl Kr Kr Kr Kr Kr Kr (fun _ _ _ h=>h) (Or.inl ⟨by rfl,?_⟩) (by assumption) ?_
       rotate_left
       ·intro u a;have m:=f.out u (Ad U.out a);clear a;go_simp;(try with_reducible rfl)
       try simp only[Act.put,pS]
       refine An (i:=4) (oi:={dst:=some 90,op:=_,type:=_,pos:=_,after:=_,guard:=_}) (v:=?_) (p:=[11]) rfl Kr Kr Kr Kr Kr Kr (fun _ _ _ h=>h) (Or.inl ⟨by rfl,?_⟩) (by assumption) ?_
       rotate_left
       ·intro u a;have m:=f.out u (Ad U.out a);clear a;go_simp;(try with_reducible rfl)
       try simp only[Act.put,pS]
       refine An (i:=5) (oi:={dst:=some 91,op:=_,type:=_,pos:=_,after:=_,guard:=_}) (v:=?_) (p:=[11]) rfl Kr Kr Kr Kr Kr Kr (fun _ _ _ h=>h) (Or.inl ⟨by rfl,?_⟩) (by assumption) ?_
       rotate_left
       ·intro u a;have m:=f.out u (Ad U.out a);clear a;go_simp;(try with_reducible rfl)
       try simp only[Act.put,pS]
       refine An (i:=6) (oi:={dst:=some 92,op:=_,type:=_,pos:=_,after:=_,guard:=_}) (v:=?_) (p:=[11]) rfl Kr Kr Kr Kr Kr Kr (fun _ _ _ h=>h) (Or.inl ⟨by rfl,?_⟩) (by assumption) ?_
       rotate_left
       ·intro u a;have m:=f.out u (Ad U.out a);clear a;go_simp;(try with_reducible rfl)
       try simp only[Act.put,pS]
       refine Bj (rs:=[7]) Kr (by simp) ?_;refine(Ax.cons (o:={dst:=some 93,op:=_,type:=_,pos:=_,after:=_,guard:=_}) rfl (fun K Q=>?_) Ax.nil)
       go_simp
       (refine(bb.out _ (O.out.below hSn)).mono ?_);rintro e v9 ⟨s2,E,I,C2,rfl,ak,V,aq,ar⟩;have M:=Ad hSn ar;clear hSn;have hSn:=M;clear M
       refine Bq Q (fun l=>?_);clear Q K;refine An (i:=8) (oi:={dst:=some 85,op:=_,type:=_,pos:=_,after:=_,guard:=_}) (v:=?_) (p:=[11]) rfl Kr Kr Kr Kr Kr Kr (fun _ _ _ h=>h) (Or.inl ⟨by rfl,?_⟩) (by assumption) ?_
       rotate_left
       ·intro u a;have m:=f.out u (Ad U.out a);clear a;go_simp;(try with_reducible rfl)
       try simp only[Act.put,pS]
       refine An (i:=9) (oi:={dst:=some 94,op:=_,type:=_,pos:=_,after:=_,guard:=_}) (v:=?_) (p:=[11]) rfl Kr Kr Kr Kr Kr Kr (fun _ _ _ h=>h) (Or.inl ⟨by rfl,?_⟩) (by assumption) ?_
       rotate_left
       ·intro u a;have m:=f.out u (Ad U.out a);clear a;go_simp;(try with_reducible rfl)
       try simp only[Act.put,pS]
       refine Bv (i:=10) (oi:={dst:=some 95,op:=_,type:=_,pos:=_,after:=_,guard:=_}) (v:=?_) rfl Kr Kr Kr Kr (fun _ _ _ h=>h) (Or.inl ⟨by rfl,?_⟩) (fun _=>by assumption) ?_
       rotate_left
       ·intro u a;clear a;go_simp;(try with_reducible rfl)
       try simp only[Act.put,pS]
       refine Bj (rs:=[11]) Kr (by simp) ?_;refine(Ax.last (o:={dst:=none,op:=_,type:=_,pos:=_,after:=_,guard:=_}) rfl Kr (fun K Q=>?_) Ax.nil);refine Ay (by rfl) ?_;refine sW (Aj s2 E) (Ae O.out.st hSn) ?_;have P:=Ae O.out.st hSn;have Z:=setRow_heap _ _ _ (Aj s2 E) _ _ P;have a1:=ak.other (t:=36) P (by decide) (by decide) (by decide) (Aj s2 E);have bq:=(HE.out.below hSn).other P (Nat.ne_of_gt X) (Aj s2 E);have R:=E7 (g:=g9) bj (Ad U.out hSn) (Aj s2 E);refine Q.out _ _ ?_;clear Q K
       try simp only[Act.put]
       refine Bv (i:=12) (oi:={dst:=some 19,op:=_,type:=_,pos:=_,after:=_,guard:=_}) (v:=?_) rfl Kr Kr Kr Kr (fun _ _ _ h=>h) (Or.inl ⟨by rfl,?_⟩) (fun h=>absurd h (by decide)) ?_
       rotate_left
       ·intro u a;clear a;go_simp;(try with_reducible rfl)
       try simp only[Act.put,pS]
       refine Eo Kr ?_ _
       try clear l
       go_wp2_with fail;go_meet
       case rel=>exact⟨rfl,s2,E,I,C2,⟨Z,a1,V,aq⟩,bq,R⟩
      case rest=>
       obtain⟨rfl,s2,E,I,C2,aa,ad,T⟩:=hcut;obtain⟨v1,rfl⟩:=ex wc;have a6:=Hq aa;have N:=Hq ad;have B:=Hq T;clear aa ad T O HE U bb;go_upto_region 15 with fail;have hSn:Bw v1 v1.drew:=(Below.refl _ v1).drew;refine Ep (S:=(fun u=>Bw v1 u)) 11 Kr ?_ (fun l=>?_)
       ·exact hSn
       generalize v1.drew=v8 at hSn ⊢;refine An (i:=0) (oi:={dst:=some 97,op:=_,type:=_,pos:=_,after:=_,guard:=_}) (v:=.agg (Aj r q)) (p:=[11]) rfl Kr Kr Kr Kr Kr Kr (fun _ _ _ h=>h) (yieldsIf_load_mid (by rfl) 36 (.tmp 12) rfl g12 0 (by rfl) (Aj r q).toList _ (fun u hu=>(by intro j v hj;rw[Nat.zero_add,Aa (Ae N.out.st hu)];simpa using hj)) Ar Kr Kr) (by assumption) ?_
       try simp only[Act.put,pS]
       refine An (i:=1) (oi:={dst:=some 98,op:=_,type:=_,pos:=_,after:=_,guard:=_}) (v:=?_) (p:=[11]) rfl Kr Kr Kr Kr Kr Kr (fun _ _ _ h=>h) (Or.inl ⟨by rfl,?_⟩) (by assumption) ?_
       rotate_left
       ·intro u a;have m:=f.out u (Ad B.out a);clear a;go_simp;(try with_reducible rfl)
       try simp only[Act.put,pS]
       refine An (i:=2) (oi:={dst:=some 99,op:=_,type:=_,pos:=_,after:=_,guard:=_}) (v:=?_) (p:=[11]) rfl Kr Kr Kr Kr Kr Kr (fun _ _ _ h=>h) (Or.inl ⟨by rfl,?_⟩) (by assumption) ?_
       rotate_left
       ·intro u a;have m:=f.out u (Ad B.out a);clear a;go_simp;(try with_reducible rfl)
       try simp only[Act.put,pS]
       refine An (i:=3) (oi:={dst:=some 100,op:=_,type:=_,pos:=_,after:=_,guard:=_}) (v:=?_) (p:=[11]) rfl Kr Kr Kr Kr Kr Kr (fun _ _ _ h=>h) (Or.inl ⟨by rfl,?_⟩) (by assumption) ?_
       rotate_left
       ·intro u a;have m:=f.out u (Ad B.out a);clear a;go_simp;(try with_reducible rfl)
       try simp only[Act.put,pS]
       refine An (i:=4) (oi:={dst:=some 101,op:=_,type:=_,pos:=_,after:=_,guard:=_}) (v:=?_) (p:=[11]) rfl Kr Kr Kr Kr Kr Kr (fun _ _ _ h=>h) (Or.inl ⟨by rfl,?_⟩) (by assumption) ?_
       rotate_left
       ·intro u a;have m:=f.out u (Ad B.out a);clear a;go_simp;(try with_reducible rfl)
       try simp only[Act.put,pS]
       refine An (i:=5) (oi:={dst:=some 102,op:=_,type:=_,pos:=_,after:=_,guard:=_}) (v:=?_) (p:=[11]) rfl Kr Kr Kr Kr Kr Kr (fun _ _ _ h=>h) (Or.inl ⟨by rfl,?_⟩) (by assumption) ?_
       rotate_left
       ·intro u a;have m:=f.out u (Ad B.out a);clear a;go_simp;(try with_reducible rfl)
       try simp only[Act.put,pS]
       refine An (i:=6) (oi:={dst:=some 103,op:=_,type:=_,pos:=_,after:=_,guard:=_}) (v:=?_) (p:=[11]) rfl Kr Kr Kr Kr Kr Kr (fun _ _ _ h=>h) (Or.inl ⟨by rfl,?_⟩) (by assumption) ?_
       rotate_left
       ·intro u a;have m:=f.out u (Ad B.out a);clear a;go_simp;(try with_reducible rfl)
       try simp only[Act.put,pS]
       refine Bj (rs:=[7]) Kr (by simp) ?_;refine(Ax.cons (o:={dst:=some 104,op:=_,type:=_,pos:=_,after:=_,guard:=_}) rfl (fun K Q=>?_) Ax.nil)
       go_simp
       (refine(bo.out _ (N.out.below hSn)).mono ?_);rintro e v9 ⟨G,H,Y,D2,rfl,ak,V,aq,ar⟩;have M:=Ad hSn ar;clear hSn;have hSn:=M;clear M
       refine Bq Q (fun l=>?_);clear Q K;refine An (i:=8) (oi:={dst:=some 96,op:=_,type:=_,pos:=_,after:=_,guard:=_}) (v:=?_) (p:=[11]) rfl Kr Kr Kr Kr Kr Kr (fun _ _ _ h=>h) (Or.inl ⟨by rfl,?_⟩) (by assumption) ?_
       rotate_left
       ·intro u a;have m:=f.out u (Ad B.out a);clear a;go_simp;(try with_reducible rfl)
       try simp only[Act.put,pS]
       refine An (i:=9) (oi:={dst:=some 105,op:=_,type:=_,pos:=_,after:=_,guard:=_}) (v:=?_) (p:=[11]) rfl Kr Kr Kr Kr Kr Kr (fun _ _ _ h=>h) (Or.inl ⟨by rfl,?_⟩) (by assumption) ?_
       rotate_left
       ·intro u a;have m:=f.out u (Ad B.out a);clear a;go_simp;(try with_reducible rfl)
       try simp only[Act.put,pS]
       refine Bv (i:=10) (oi:={dst:=some 106,op:=_,type:=_,pos:=_,after:=_,guard:=_}) (v:=?_) rfl Kr Kr Kr Kr (fun _ _ _ h=>h) (Or.inl ⟨by rfl,?_⟩) (fun _=>by assumption) ?_
       rotate_left
       ·intro u a;clear a;go_simp;(try with_reducible rfl)
       try simp only[Act.put,pS]
       refine Bj (rs:=[11]) Kr (by simp) ?_;refine(Ax.last (o:={dst:=none,op:=_,type:=_,pos:=_,after:=_,guard:=_}) rfl Kr (fun K Q=>?_) Ax.nil);refine Ay (by rfl) ?_;refine sW (Aj G H) (Ae N.out.st hSn) ?_;have P:=Ae N.out.st hSn;have Z:=setRow_heap _ _ _ (Aj G H) _ _ P;have a1:=ak.other (t:=36) P (by decide) (by decide) (by decide) (Aj G H);have br:=(a6.out.below hSn).other P (Nat.ne_of_lt X) (Aj G H);have R:=E7 (g:=g12) (by omega) (Ad B.out hSn) (Aj G H);refine Q.out _ _ ?_;clear Q K
       try simp only[Act.put]
       refine Bv (i:=12) (oi:={dst:=some 20,op:=_,type:=_,pos:=_,after:=_,guard:=_}) (v:=?_) rfl Kr Kr Kr Kr (fun _ _ _ h=>h) (Or.inl ⟨by rfl,?_⟩) (fun h=>absurd h (by decide)) ?_
       rotate_left
       ·intro u a;clear a;go_simp;(try with_reducible rfl)
       try simp only[Act.put,pS]
       refine Eo Kr ?_ _
       try clear l
       go_wp2_with fail;go_meet
       case rel=>exact⟨0,fy,s2,E,I,C2,G,H,Y,D2,fb,fu,rfl,rfl,rfl,rfl,br,⟨Z,a1,V,aq⟩,R⟩
     |false=>
      clear bb bo c8;go_upto_region 16 with fail
      go_cut [17,19] (fun x y wc=>x= .int .i64 ax∧y= .int .i64 ay∧∃ (s2:Tx.St) (E:SP) (I:List Fr) (C2:Nat→ByteArray),aH n k g9 wc (c+5048) s2 E I C2 e7 au∧fR n k g12 wc c r q gs D b u∧Bw w wc)
      case first=>
       have hSn:Bw v0 v0.drew:=(Below.refl _ v0).drew;refine Ep (S:=(fun u=>Bw v0 u)) 12 Kr ?_ (fun l=>?_)
       ·exact hSn
       generalize v0.drew=v8 at hSn ⊢;refine An (i:=0) (oi:={dst:=some 108,op:=_,type:=_,pos:=_,after:=_,guard:=_}) (v:=.agg (Aj s p)) (p:=[12]) rfl Kr Kr Kr Kr Kr Kr (fun _ _ _ h=>h) (yieldsIf_load_mid (by rfl) 36 (.tmp 9) rfl g9 0 (by rfl) (Aj s p).toList _ (fun u hu=>(by intro j v hj;rw[Nat.zero_add,Aa (Ae O.out.st hu)];simpa using hj)) Ar Kr Kr) (by assumption) ?_
       try simp only[Act.put,pS]
       refine An (i:=1) (oi:={dst:=some 109,op:=_,type:=_,pos:=_,after:=_,guard:=_}) (v:=?_) (p:=[12]) rfl Kr Kr Kr Kr Kr Kr (fun _ _ _ h=>h) (Or.inl ⟨by rfl,?_⟩) (by assumption) ?_
       rotate_left
       ·intro u a;have m:=f.out u (Ad U.out a);clear a;go_simp;(try with_reducible rfl)
       try simp only[Act.put,pS]
       refine An (i:=2) (oi:={dst:=some 110,op:=_,type:=_,pos:=_,after:=_,guard:=_}) (v:=?_) (p:=[12]) rfl Kr Kr Kr Kr Kr Kr (fun _ _ _ h=>h) (Or.inl ⟨by rfl,?_⟩) (by assumption) ?_
       rotate_left
       ·intro u a;have m:=f.out u (Ad U.out a);clear a;go_simp;(try with_reducible rfl)
       try simp only[Act.put,pS]
       refine An (i:=3) (oi:={dst:=some 111,op:=_,type:=_,pos:=_,after:=_,guard:=_}) (v:=?_) (p:=[12]) rfl Kr Kr Kr Kr Kr Kr (fun _ _ _ h=>h) (Or.inl ⟨by rfl,?_⟩) (by assumption) ?_
       rotate_left
       ·intro u a;have m:=f.out u (Ad U.out a);clear a;go_simp;(try with_reducible rfl)
       try simp only[Act.put,pS]
       refine An (i:=4) (oi:={dst:=some 112,op:=_,type:=_,pos:=_,after:=_,guard:=_}) (v:=?_) (p:=[12]) rfl Kr Kr Kr Kr Kr Kr (fun _ _ _ h=>h) (Or.inl ⟨by rfl,?_⟩) (by assumption) ?_
       rotate_left
       ·intro u a;have m:=f.out u (Ad U.out a);clear a;go_simp;(try with_reducible rfl)
       try simp only[Act.put,pS]
       refine An (i:=5) (oi:={dst:=some 113,op:=_,type:=_,pos:=_,after:=_,guard:=_}) (v:=?_) (p:=[12]) rfl Kr Kr Kr Kr Kr Kr (fun _ _ _ h=>h) (Or.inl ⟨by rfl,?_⟩) (by assumption) ?_
       rotate_left
       ·intro u a;have m:=f.out u (Ad U.out a);clear a;go_simp;(try with_reducible rfl)
       try simp only[Act.put,pS]
       refine An (i:=6) (oi:={dst:=some 114,op:=_,type:=_,pos:=_,after:=_,guard:=_}) (v:=?_) (p:=[12]) rfl Kr Kr Kr Kr Kr Kr (fun _ _ _ h=>h) (Or.inl ⟨by rfl,?_⟩) (by assumption) ?_
       rotate_left
       ·intro u a;have m:=f.out u (Ad U.out a);clear a;go_simp;(try with_reducible rfl)
       try simp only[Act.put,pS]
       refine Bj (rs:=[7]) Kr (by simp) ?_;refine(Ax.cons (o:={dst:=some 115,op:=_,type:=_,pos:=_,after:=_,guard:=_}) rfl (fun K Q=>?_) Ax.nil)
       go_simp
       (refine(bc.out _ (O.out.below hSn)).mono ?_);rintro e v9 ⟨s2,E,I,C2,rfl,ak,V,aq,ar⟩;have M:=Ad hSn ar;clear hSn;have hSn:=M;clear M
       refine Bq Q (fun l=>?_);clear Q K;refine An (i:=8) (oi:={dst:=some 107,op:=_,type:=_,pos:=_,after:=_,guard:=_}) (v:=?_) (p:=[12]) rfl Kr Kr Kr Kr Kr Kr (fun _ _ _ h=>h) (Or.inl ⟨by rfl,?_⟩) (by assumption) ?_
       rotate_left
       ·intro u a;have m:=f.out u (Ad U.out a);clear a;go_simp;(try with_reducible rfl)
       try simp only[Act.put,pS]
       refine An (i:=9) (oi:={dst:=some 116,op:=_,type:=_,pos:=_,after:=_,guard:=_}) (v:=?_) (p:=[12]) rfl Kr Kr Kr Kr Kr Kr (fun _ _ _ h=>h) (Or.inl ⟨by rfl,?_⟩) (by assumption) ?_
       rotate_left
       ·intro u a;have m:=f.out u (Ad U.out a);clear a;go_simp;(try with_reducible rfl)
       try simp only[Act.put,pS]
       refine Bv (i:=10) (oi:={dst:=some 117,op:=_,type:=_,pos:=_,after:=_,guard:=_}) (v:=?_) rfl Kr Kr Kr Kr (fun _ _ _ h=>h) (Or.inl ⟨by rfl,?_⟩) (fun _=>by assumption) ?_
       rotate_left
       ·intro u a;clear a;go_simp;(try with_reducible rfl)
       try simp only[Act.put,pS]
       refine Bv (i:=11) (oi:={dst:=some 118,op:=_,type:=_,pos:=_,after:=_,guard:=_}) (v:=?_) rfl Kr Kr Kr Kr (fun _ _ _ h=>h) (Or.inl ⟨by rfl,?_⟩) (fun _=>by assumption) ?_
       rotate_left
       ·intro u a;clear a;go_simp;(try with_reducible rfl)
       try simp only[Act.put,pS]
       refine Bj (rs:=[12]) Kr (by simp) ?_;refine(Ax.last (o:={dst:=none,op:=_,type:=_,pos:=_,after:=_,guard:=_}) rfl Kr (fun K Q=>?_) Ax.nil);refine Ay (by rfl) ?_;refine sW (Aj s2 E) (Ae O.out.st hSn) ?_;have P:=Ae O.out.st hSn;have Z:=setRow_heap _ _ _ (Aj s2 E) _ _ P;have a1:=ak.other (t:=36) P (by decide) (by decide) (by decide) (Aj s2 E);have bq:=(HE.out.below hSn).other P (Nat.ne_of_gt X) (Aj s2 E);have R:=E7 (g:=g9) bj (Ad U.out hSn) (Aj s2 E);refine Q.out _ _ ?_;clear Q K
       try simp only[Act.put]
       refine Bv (i:=13) (oi:={dst:=some 17,op:=_,type:=_,pos:=_,after:=_,guard:=_}) (v:=?_) rfl Kr Kr Kr Kr (fun _ _ _ h=>h) (Or.inl ⟨by rfl,?_⟩) (fun h=>absurd h (by decide)) ?_
       rotate_left
       ·intro u a;clear a;go_simp;(try with_reducible rfl)
       try simp only[Act.put,pS]
       refine Bv (i:=14) (oi:={dst:=some 19,op:=_,type:=_,pos:=_,after:=_,guard:=_}) (v:=?_) rfl Kr Kr Kr Kr (fun _ _ _ h=>h) (Or.inl ⟨by rfl,?_⟩) (fun h=>absurd h (by decide)) ?_
       rotate_left
       ·intro u a;clear a;go_simp;(try with_reducible rfl)
       try simp only[Act.put,pS]
       refine Eo Kr ?_ _
       try clear l
       go_wp2_with fail;go_meet
       case rel=>exact⟨rfl,rfl,s2,E,I,C2,⟨Z,a1,V,aq⟩,bq,R⟩
      case rest=>
       obtain⟨rfl,rfl,s2,E,I,C2,aa,ad,T⟩:=hcut;obtain⟨v1,rfl⟩:=ex wc;have a6:=Hq aa;have N:=Hq ad;have B:=Hq T;clear aa ad T O HE U bc;go_upto_region 17 with fail;have hSn:Bw v1 v1.drew:=(Below.refl _ v1).drew;refine Ep (S:=(fun u=>Bw v1 u)) 12 Kr ?_ (fun l=>?_)
       ·exact hSn
       generalize v1.drew=v8 at hSn ⊢;refine An (i:=0) (oi:={dst:=some 120,op:=_,type:=_,pos:=_,after:=_,guard:=_}) (v:=.agg (Aj r q)) (p:=[12]) rfl Kr Kr Kr Kr Kr Kr (fun _ _ _ h=>h) (yieldsIf_load_mid (by rfl) 36 (.tmp 12) rfl g12 0 (by rfl) (Aj r q).toList _ (fun u hu=>(by intro j v hj;rw[Nat.zero_add,Aa (Ae N.out.st hu)];simpa using hj)) Ar Kr Kr) (by assumption) ?_
       try simp only[Act.put,pS]
       refine An (i:=1) (oi:={dst:=some 121,op:=_,type:=_,pos:=_,after:=_,guard:=_}) (v:=?_) (p:=[12]) rfl Kr Kr Kr Kr Kr Kr (fun _ _ _ h=>h) (Or.inl ⟨by rfl,?_⟩) (by assumption) ?_
       rotate_left
       ·intro u a;have m:=f.out u (Ad B.out a);clear a;go_simp;(try with_reducible rfl)
       try simp only[Act.put,pS]
       refine An (i:=2) (oi:={dst:=some 122,op:=_,type:=_,pos:=_,after:=_,guard:=_}) (v:=?_) (p:=[12]) rfl Kr Kr Kr Kr Kr Kr (fun _ _ _ h=>h) (Or.inl ⟨by rfl,?_⟩) (by assumption) ?_
       rotate_left
       ·intro u a;have m:=f.out u (Ad B.out a);clear a;go_simp;(try with_reducible rfl)
       try simp only[Act.put,pS]
       refine An (i:=3) (oi:={dst:=some 123,op:=_,type:=_,pos:=_,after:=_,guard:=_}) (v:=?_) (p:=[12]) rfl Kr Kr Kr Kr Kr Kr (fun _ _ _ h=>h) (Or.inl ⟨by rfl,?_⟩) (by assumption) ?_
       rotate_left
       ·intro u a;have m:=f.out u (Ad B.out a);clear a;go_simp;(try with_reducible rfl)
       try simp only[Act.put,pS]
       refine An (i:=4) (oi:={dst:=some 124,op:=_,type:=_,pos:=_,after:=_,guard:=_}) (v:=?_) (p:=[12]) rfl Kr Kr Kr Kr Kr Kr (fun _ _ _ h=>h) (Or.inl ⟨by rfl,?_⟩) (by assumption) ?_
       rotate_left
       ·intro u a;have m:=f.out u (Ad B.out a);clear a;go_simp;(try with_reducible rfl)
       try simp only[Act.put,pS]
       refine An (i:=5) (oi:={dst:=some 125,op:=_,type:=_,pos:=_,after:=_,guard:=_}) (v:=?_) (p:=[12]) rfl Kr Kr Kr Kr Kr Kr (fun _ _ _ h=>h) (Or.inl ⟨by rfl,?_⟩) (by assumption) ?_
       rotate_left
       ·intro u a;have m:=f.out u (Ad B.out a);clear a;go_simp;(try with_reducible rfl)
       try simp only[Act.put,pS]
       refine An (i:=6) (oi:={dst:=some 126,op:=_,type:=_,pos:=_,after:=_,guard:=_}) (v:=?_) (p:=[12]) rfl Kr Kr Kr Kr Kr Kr (fun _ _ _ h=>h) (Or.inl ⟨by rfl,?_⟩) (by assumption) ?_
       rotate_left
       ·intro u a;have m:=f.out u (Ad B.out a);clear a;go_simp;(try with_reducible rfl)
       try simp only[Act.put,pS]
       refine Bj (rs:=[7]) Kr (by simp) ?_;refine(Ax.cons (o:={dst:=some 127,op:=_,type:=_,pos:=_,after:=_,guard:=_}) rfl (fun K Q=>?_) Ax.nil)
       go_simp
       (refine(bp.out _ (N.out.below hSn)).mono ?_);rintro e v9 ⟨G,H,Y,D2,rfl,ak,V,aq,ar⟩;have M:=Ad hSn ar;clear hSn;have hSn:=M;clear M
       refine Bq Q (fun l=>?_);clear Q K;refine An (i:=8) (oi:={dst:=some 119,op:=_,type:=_,pos:=_,after:=_,guard:=_}) (v:=?_) (p:=[12]) rfl Kr Kr Kr Kr Kr Kr (fun _ _ _ h=>h) (Or.inl ⟨by rfl,?_⟩) (by assumption) ?_
       rotate_left
       ·intro u a;have m:=f.out u (Ad B.out a);clear a;go_simp;(try with_reducible rfl)
       try simp only[Act.put,pS]
       refine An (i:=9) (oi:={dst:=some 128,op:=_,type:=_,pos:=_,after:=_,guard:=_}) (v:=?_) (p:=[12]) rfl Kr Kr Kr Kr Kr Kr (fun _ _ _ h=>h) (Or.inl ⟨by rfl,?_⟩) (by assumption) ?_
       rotate_left
       ·intro u a;have m:=f.out u (Ad B.out a);clear a;go_simp;(try with_reducible rfl)
       try simp only[Act.put,pS]
       refine Bv (i:=10) (oi:={dst:=some 129,op:=_,type:=_,pos:=_,after:=_,guard:=_}) (v:=?_) rfl Kr Kr Kr Kr (fun _ _ _ h=>h) (Or.inl ⟨by rfl,?_⟩) (fun _=>by assumption) ?_
       rotate_left
       ·intro u a;clear a;go_simp;(try with_reducible rfl)
       try simp only[Act.put,pS]
       refine Bv (i:=11) (oi:={dst:=some 130,op:=_,type:=_,pos:=_,after:=_,guard:=_}) (v:=?_) rfl Kr Kr Kr Kr (fun _ _ _ h=>h) (Or.inl ⟨by rfl,?_⟩) (fun _=>by assumption) ?_
       rotate_left
       ·intro u a;clear a;go_simp;(try with_reducible rfl)
       try simp only[Act.put,pS]
       refine Bj (rs:=[12]) Kr (by simp) ?_;refine(Ax.last (o:={dst:=none,op:=_,type:=_,pos:=_,after:=_,guard:=_}) rfl Kr (fun K Q=>?_) Ax.nil);refine Ay (by rfl) ?_;refine sW (Aj G H) (Ae N.out.st hSn) ?_;have P:=Ae N.out.st hSn;have Z:=setRow_heap _ _ _ (Aj G H) _ _ P;have a1:=ak.other (t:=36) P (by decide) (by decide) (by decide) (Aj G H);have br:=(a6.out.below hSn).other P (Nat.ne_of_lt X) (Aj G H);have R:=E7 (g:=g12) (by omega) (Ad B.out hSn) (Aj G H);refine Q.out _ _ ?_;clear Q K
       try simp only[Act.put]
       refine Bv (i:=13) (oi:={dst:=some 18,op:=_,type:=_,pos:=_,after:=_,guard:=_}) (v:=?_) rfl Kr Kr Kr Kr (fun _ _ _ h=>h) (Or.inl ⟨by rfl,?_⟩) (fun h=>absurd h (by decide)) ?_
       rotate_left
       ·intro u a;clear a;go_simp;(try with_reducible rfl)
       try simp only[Act.put,pS]
       refine Bv (i:=14) (oi:={dst:=some 20,op:=_,type:=_,pos:=_,after:=_,guard:=_}) (v:=?_) rfl Kr Kr Kr Kr (fun _ _ _ h=>h) (Or.inl ⟨by rfl,?_⟩) (fun h=>absurd h (by decide)) ?_
       rotate_left
       ·intro u a;clear a;go_simp;(try with_reducible rfl)
       try simp only[Act.put,pS]
       refine Eo Kr ?_ _
       try clear l
       go_wp2_with fail;go_meet
       case rel=>exact⟨ax,ay,s2,E,I,C2,G,H,Y,D2,e7,au,rfl,rfl,rfl,rfl,br,⟨Z,a1,V,aq⟩,R⟩
    case rest=>
     obtain⟨x,y,s2,E,I,C2,G,H,Y,D2,b2,u2,rfl,rfl,rfl,rfl,aa,ad,T⟩:=hcut;have fq:(x != x)=false:=bne_self_eq_false _;have fr:(y != y)=false:=bne_self_eq_false _;have a6:=Hq aa;have N:=Hq ad;have B:=Hq T;clear aa ad T O HE U bb bo bc bp c8 f;go_wp2_with fail;go_roundw
     case rel=>exact⟨j+1,s2,E,I,C2,G,H,Y,D2,b2,u2,by omega,by go_num,by rw[e6.out];exact a6.out,by rw[e6.out];exact N.out,B.out⟩
     case measure=>simp[intOf];omega
   ·obtain rfl:j=F.length:=by omega
    have fi:¬ (F.length:Int)<(F.length:Int):=(by omega);obtain⟨c,bm⟩:=ex (3786+5048*(F.length:Int):Int);rw[← bm]at O HE;clear bm dq;have cb:=Hq (U5 s p fs C O.out.ss b u O.out.si v0 O.out.pr);have ah:=Hq (fun W (hh:fR n k g12 W c r q gs D b u)=>kI r q gs D hh.sw b u hh.si W hh.pr);unfold Z9 at cb;unfold fP at ah;have fl:=Pe u n;have cq:=Hq (fun(A D:Option Addr) (c d:Nat) W (h1:Reads W A c (Ed u n).length ((Ed u n).flatMap Kg)) (h2:Reads W D d (Ed u n).length ((Ed u n).flatMap Kg))=>show Cr 18 #[.slice A (Ed u n).length c,.slice D (Ed u n).length d] W (.bool true) from by
     have h9:=Vb (Ed u n) (Ed u n) (by omega) (by omega) A D c d W h1 h2;rw[decide_eq_true rfl]at h9;exact h9)
    generalize Ed u n=lu at cb ah cq fl
    go_upto_region 21 with(first
     |with_reducible refine lL O.out.st Ar ?_
     |(go_at_call 16;(refine cb.out.mono ?_);rintro e v1 ⟨s2,E,I,vv,rfl,a7,bh,e8,J⟩;have bs:=Hq (Ae O.out.st J))
     |with_reducible refine lS (Aj s2 E) bs.out ?_)
    have cr:=Hq (show aH n k g9 (v1.setRow g9 (Aj s2 E)) c s2 E I C b u from⟨setRow_heap _ _ _ (Aj s2 E) _ _ bs.out,a7.other (t:=36) bs.out (by decide) (by decide) (by decide) (Aj s2 E),bh,O.out.si⟩);have av:=Hq ((HE.out.below J).other bs.out (Nat.ne_of_gt X) (Aj s2 E));have ct:=Hq (E7 (g:=g9) bj (Ad U.out J) (Aj s2 E));have e9:g9<v0.heap.size:=By O.out.st;have cu:=Hq (Ew e8 g9 (Aj s2 E) e9);have cg:g12<v0.heap.size:=By HE.out.st;generalize v1.setRow g9 (Aj s2 E)=v3 at cr av ct cu ⊢;clear a7 bh e8 J bs e9 O HE U cb;have ea:=Hq (ah.out v3 av.out);clear ah
    try simp only[Act.put]
    go_upto_region 22 with(first
     |with_reducible refine lL av.out.st Ar ?_
     |(go_at_call 17;(refine ea.out.mono ?_);rintro e v4 ⟨G,H,Y,vw,rfl,eb,ec,aw,L⟩;have ae:=Hq (Ae av.out.st L))
     |with_reducible refine lS (Aj G H) ae.out ?_)
    have cv:=Hq (show aH n k g12 (v4.setRow g12 (Aj G H)) c G H Y D b u from⟨setRow_heap _ _ _ (Aj G H) _ _ ae.out,eb.other (t:=36) ae.out (by decide) (by decide) (by decide) (Aj G H),ec.ss,av.out.si⟩);have cw:=Hq ((cr.out.below L).other ae.out (Nat.ne_of_lt X) (Aj G H));have cx:=Hq (E7 (g:=g12) (by omega) (Ad ct.out L) (Aj G H));have cy:=Hq (Ew (Db cu.out L) g12 (Aj G H) cg);have cz:=Hq (Ew aw g12 (Aj G H) (By av.out.st));generalize v4.setRow g12 (Aj G H)=v5 at cw cv cx cy cz ⊢;obtain⟨A1,ft,rfl,b1⟩:=En.form cy.out;obtain⟨A2,fv,rfl,b3⟩:=En.form cz.out;have ed:=Hq b1;have ee:=Hq b3;clear eb ec aw L ae cu cy cz cr av ct ea b1 b3 cg
    try simp only[Act.put]
    go_upto_region 24 with(go_at_call 18;refine(cq.out _ _ _ _ _ ed.out ee.out).mono ?_;rintro e v6 ⟨rfl,bd⟩)
    have b9:=Hq (cw.out.below bd);have ba:=Hq (cv.out.below bd);have b8:=Hq (Ad cx.out bd);clear bd cw cv cx ed ee cq;go_wp2_with fail
    go_loopw [25] (fun x wq=>∃ (i:Nat) (s:Tx.St) (p:SP) (fs:List Fr) (r:Tx.St) (q:SP) (gs:List Fr),i≤n∧x= .int .i64 (i:Int)∧aH n k g9 wq c s p fs C b u∧aH n k g12 wq c r q gs D b u∧Bw w wq) (fun x _=>n-(intOf x).toNat)
    case atStart=>exact⟨0,s2,E,I,G,H,Y,Nat.zero_le _,rfl,b9.out,ba.out,b8.out⟩
    case round=>
     clear b9 ba b8;obtain⟨v7,rfl⟩:=ex wr;obtain⟨i,s,p,fs,r,q,gs,hi,rfl,hd,he,hb⟩:=hrel;have O:=Hq hd;have HE:=Hq he;have U:=Hq hb;clear hd he hb;have fw:(0:Int)≤(i:Int):=by omega
     by_cases bt:i<n
     ·have fm:(i:Int)<(n:Int):=by omega
      have fx:IntKind.i64.wrap ((i:Int)+1)=(i:Int)+1:=IntWalk.i64_in _ (by omega);have da:=O.out.ss.pi.nm i bt;have db:=HE.out.ss.pi.nm i bt;have dc:=Hq (fun W=>Ge (C i) 0 (by rw[da.size];omega) W);have cc:=Hq (fun W=>Ge (D i) 0 (by rw[db.size];omega) W);rw[← kQ O.out.si HE.out.si bt da db]at cc;generalize Bg (C i) 0=z at dc cc;have dd:=Hq (Lw s p fs C O.out.ss.pi i bt v7 O.out.pr);have a8:=Hq (fun W (hw:Bw v7 W)=>Lw r q gs D HE.out.ss.pi i bt W (HE.out.pr.below hw));unfold nW at dd a8;have fz:(z.toList==z.toList)=true:=beq_self_eq_true _;clear da db
      go_upto_region 28 with(first
       |with_reducible refine lL O.out.st Ar ?_
       |(go_at_call 19;(refine dd.out.mono ?_);rintro e v1 ⟨s2,E,I,rfl,a7,ef,cj,J⟩)
       |with_reducible refine sN (Aj s2 E) ?_)
      have T:=Ad J (Ab v1 (.cells (Aj s2 E) 36));have a6:=Hq (O.out.below T);have N:=Hq (HE.out.below T);have B:=Hq (Ad U.out T);have cd:=Hq (heap_alloc_new v1 (.cells (Aj s2 E) 36));have ag:=Hq (a7.below (Ab v1 (.cells (Aj s2 E) 36)));have bu:=Hq (O.out.ss.hk cj ef);have eg:g9<v1.heap.size∧g12<v1.heap.size:=⟨By (Ae O.out.st J),By (Ae HE.out.st J)⟩;have de:=Hq (a8.out _ T);obtain⟨az,hg⟩:=ex v1.heap.size;obtain⟨v2,cf⟩:=ex (v1.alloc (.cells (Aj s2 E) 36));rw[← hg,← cf]at cd;rw[← cf]at a6 N B ag de;rw[← cf,← hg];rw[← hg]at eg;clear cf hg J T a7 ef cj dd a8 O HE U
      try simp only[Act.put]
      go_upto_region 29 with(first
       |with_reducible refine lL N.out.st Ar ?_
       |(go_at_call 19;(refine de.out.mono ?_);rintro e v3 ⟨G,H,Y,rfl,bk,eh,ei,ai⟩)
       |with_reducible refine sN (Aj G H) ?_)
      have L:=Ad ai (Ab v3 (.cells (Aj G H) 36));have df:=Hq (a6.out.below L);have dh:=Hq (N.out.below L);have b5:=Hq (Ad B.out L);have ae:=Hq (Ae cd.out L);have b6:=Hq (ag.out.below L);have ej:=Hq (heap_alloc_new v3 (.cells (Aj G H) 36));have b7:=Hq (bk.below (Ab v3 (.cells (Aj G H) 36)));have bz:=Hq (N.out.ss.hk ei eh);have ek:az<v3.heap.size:=By (Ae cd.out ai);obtain⟨bf,hg⟩:=ex v3.heap.size;obtain⟨v4,aw⟩:=ex (v3.alloc (.cells (Aj G H) 36));rw[← hg,← aw]at ej;rw[← aw]at df dh b5 ae b6 b7;rw[← aw,← hg];rw[← hg]at ek;clear aw hg ai L bk eh ei de a6 N B cd ag
      try simp only[Act.put]
      generalize C i=ci at dc ⊢;generalize D i=di at cc ⊢
      go_upto_region 31 with(first
       |(go_at_call 20;(with_reducible refine(dc.out _).mono ?_);rintro e v5 ⟨rfl,aj⟩)
       |(go_at_call 20;(with_reducible refine(cc.out _).mono ?_);rintro e v6 ⟨rfl,bd⟩))
      have b0:=Ad aj bd;have bg:g9≠az∧g9≠bf∧g12≠az∧g12≠bf∧g9≠g12:=(by omega);have hSn:v6.drew.heap[az]? =some (.cells (Aj s2 E) 36 (0,0))∧v6.drew.heap[bf]? =some (.cells (Aj G H) 36 (0,0)):=⟨Ae ae.out b0.drew,Ae ej.out b0.drew⟩;have V:=show v6.drew.heap[g9]? =some (.cells (Aj s p) 36 (0,0))from Ae df.out.st b0.drew;have en:=show v6.drew.heap[g12]? =some (.cells (Aj r q) 36 (0,0))from Ae dh.out.st b0.drew;have eo:=b6.out.below b0.drew;have ep:=b7.out.below b0.drew;have er:=(Ad b5.out b0).drew;refine Gd (S:=(fun u=>u.heap[az]? =some (.cells (Aj s2 E) 36 (0,0))∧u.heap[bf]? =some (.cells (Aj G H) 36 (0,0)))) (fun l=>?_);generalize v6.drew=v10 at hSn V en eo ep er ⊢;refine Nk 0 Ar ?_;refine Nk 1 Ar ?_;refine Ch 2 fun K Q=>?_;refine Ay (by rfl) ?_;refine sW (Aj s2 E) V ?_;have et:=setRow_heap _ _ _ (Aj s2 E) _ _ V;have b4:=(Ah _ _ (Aj s2 E) _ (show g12≠g9 from fun e=>bg.2.2.2.2 e.symm)).trans en;have dj:=eo.other (t:=36) V (by decide) (by decide) (by decide) (Aj s2 E);have dk:=ep.other (t:=36) V (by decide) (by decide) (by decide) (Aj s2 E);have R:=E7 (g:=g9) bj er (Aj s2 E);have M:=And.intro ((Ah _ _ (Aj s2 E) _ (show az≠g9 from fun e=>bg.1 e.symm)).trans hSn.1) ((Ah _ _ (Aj s2 E) _ (show bf≠g9 from fun e=>bg.2.1 e.symm)).trans hSn.2);clear hSn;have hSn:=M;clear M;refine Bq Q (fun l=>?_);clear Q K;refine Ch 3 fun K Q=>?_;refine Ay (by rfl) ?_;refine sW (Aj G H) b4 ?_;have eu:=setRow_heap _ _ _ (Aj G H) _ _ b4;have ew:=(Ah _ _ (Aj G H) _ (show g9≠g12 from bg.2.2.2.2)).trans et;have dm:=dj.other (t:=36) b4 (by decide) (by decide) (by decide) (Aj G H);have dn:=dk.other (t:=36) b4 (by decide) (by decide) (by decide) (Aj G H);have ey:=E7 (g:=g12) (by omega) R (Aj G H);have M:=And.intro ((Ah _ _ (Aj G H) _ (show az≠g12 from fun e=>bg.2.2.1 e.symm)).trans hSn.1) ((Ah _ _ (Aj G H) _ (show bf≠g12 from fun e=>bg.2.2.2.1 e.symm)).trans hSn.2);clear hSn;have hSn:=M;clear M;refine Bq Q (fun l=>?_);clear Q K;refine wpAnyH_done Kr ?_ _;clear l
      try simp only[Act.put]
      go_wp2_with fail;go_roundw
      case rel=>exact⟨i+1,s2,E,I,G,H,Y,by omega,by go_num,⟨ew,dm,bu.out,df.out.si⟩,⟨eu,dn,bz.out,dh.out.si⟩,ey⟩
      case measure=>simp[intOf];omega
     ·obtain rfl:i=n:=by omega
      have fm:¬ (i:Int)<(i:Int):=by omega
      go_wp2_with(go_at_call 8;refine(dp.out _).mono ?_;rintro e w1 ⟨rfl,J⟩)
      go_ret;exact⟨rfl,Ad U.out J⟩
 ·have fa:(25:Int)<(F.length:Int):=by omega
  clear hr;go_enter Tryz.func3,Tryz.ntmps3;go_upto_region 2 with fail
  go_wp2_with(go_at_call 8;refine(dp.out _).mono ?_;rintro e w1 ⟨rfl,J⟩)
  go_ret;exact⟨rfl,J⟩
end Go.Proofs.YtmldoihahndcgaaGreatDoor
