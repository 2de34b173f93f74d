import Derived.Test.YtmfkhdhnbkambaaGreatDoorHw00
import Derived.Test.YtmfkhdhnbkambaaGreatDoorHw33
set_option maxRecDepth 100000
set_option maxHeartbeats 16000000
set_option linter.unusedSimpArgs false
namespace Go.Proofs.YtmfkhdhnbkambaaGreatDoor
open Go.RowKit Sc
theorem ldrops_any (l m:List Int)(A A2:Option Addr)(c c2:Nat)(cy:l.length≤140737488355328)(cz:m.length≤140737488355328)(w:World)(hv:Gl w)(hr:Reads w A c l.length (l.flatMap Jn))(ah:Reads w A2 c2 m.length (m.flatMap Jn)):
 Cr 5 #[.slice A l.length c,.slice A2 m.length c2] w (.bool true):=by
 have aj:=Hq (fun W (hv:Gl W)=>eZ W hv)
 by_cases cw:40<l.length
 ·have bh:(40:Int)<(l.length:Int):=by omega
  have HV:=Hq hv;clear hr ah hv;go_enter Tryz.func5,Tryz.ntmps5;go_upto_region 2 with fail
  go_wp2_with(go_at_call 15;refine(aj.out _ HV.out).mono ?_;rintro e w1 ⟨rfl,g⟩)
  go_ret;exact⟨rfl,g⟩
 by_cases cx:10<m.length
 ·have bh:¬ (40:Int)<(l.length:Int):=by omega
  have cm:(10:Int)<(m.length:Int):=by omega
  have HV:=Hq hv;clear hr ah hv;go_enter Tryz.func5,Tryz.ntmps5;go_upto_region 2 with fail
  go_wp2_with(go_at_call 15;refine(aj.out _ HV.out).mono ?_;rintro e w1 ⟨rfl,g⟩)
  go_ret;exact⟨rfl,g⟩
 have bh:¬ (40:Int)<(l.length:Int):=by omega
 have cm:¬ (10:Int)<(m.length:Int):=by omega
 have HR:=Hq (fun W (hb:Bw w W)=>hr.below hb);have cn:=Hq (fun W (hb:Bw w W)=>ah.below hb);have HV:=Hq (fun W (hb:Bw w W)=>hv.below hb);have HT:=Hq (fun w' (hb:Bw w w')=>show(fun(e:Ending) (w':World)=>e= .returned (.bool true)∧Bw w w') (.returned (.bool true)) w' from⟨rfl,hb⟩);unfold Cr;generalize (fun(e:Ending) (w':World)=>e= .returned (.bool true)∧Bw w w')=Q at HT ⊢;clear hr ah hv;go_enter Tryz.func5,Tryz.ntmps5
 go_upto_region 4 with(first
  |(go_at_call 15;refine(aj.out _ (HV.out _ (Below.refl _ _))).mono ?_;rintro e w1 ⟨rfl,g⟩)
  |(go_at_call 17;refine(V4 _).mono ?_;rintro e w2 ⟨s2,q2,cp,rfl,bj,bk,ak⟩)
  |(go_at_call 16;refine(rJ s2 q2 cp bk _ bj).mono ?_;rintro e w3 ⟨s3,q3,al,rfl,bl,⟨bz,uz,Vz,lz,bm⟩,an⟩)
  |with_reducible refine sN (Ak s3 q3) ?_)
 have d:=Hq (show uT w w3.heap.size s3 q3 al (w3.alloc (.cells (Ak s3 q3) 36))from⟨heap_alloc_new w3 (.cells (Ak s3 q3) 36),bl.below (Ac w3 (.cells (Ak s3 q3) 36)),Ag g (Ag ak (Ag an (Ac w3 (.cells (Ak s3 q3) 36)))),Nat.le_trans g.size (Nat.le_trans ak.size an.size)⟩);have D:=Hq (show xX 0 s3 al from⟨2,bz,uz,Vz,lz,bm,Nat.le_refl _⟩);generalize w3.heap.size=g3 at d ⊢;generalize w3.alloc (.cells (Ak s3 q3) 36)=w4 at d ⊢;clear g ak an bj bl bk bm
 try simp only[Act.put]
 go_wp2_with fail
 go_loopw [8] (fun x wr=>∃ (i:Nat) (s:Tx.St) (p:SP) (G:List Fr),i≤m.length∧x= .int .i64 (i:Int)∧uT w g3 s p G wr∧xX i s G) (fun x _=>m.length-(intOf x).toNat)
 case atStart=>exact⟨0,s3,q3,al,Nat.zero_le _,rfl,d.out,D.out⟩
 case round=>
  clear d D;obtain⟨v0,rfl⟩:=ex wr;obtain⟨i,s,p,G,bn,rfl,hm,hs⟩:=hrel;have r:=Hq hm;have HS:=Hq hs;clear hm hs
  by_cases O:i<m.length
  ·have U:(i:Int)<(m.length:Int):=by omega
   have bo:(0:Int)≤(i:Int):=(by omega);have ao:i≤9:=(by omega);have bp:IntKind.i64.wrap ((i:Int)+1)=(i:Int)+1:=IntWalk.i64_in _ (by omega);obtain⟨b,off,X,-,Y,y⟩:=Bz K6 (cn.out w (Below.refl _ _)) O;have Z:=y 0 _ rfl;have n:=Hq (fun u (hu:Bw v0 u)=>show u.cell? ⟨b,off+i,none⟩=some (.int .i64 m[i])from by
    rw[(Ag r.out.be hu).cell (p:=⟨b,off+i,none⟩) Y]
    simpa using Z)
   have H:=Hq (fun W=>show Cq 18 #[.int .u8 113,.int .i64 m[i]] W _ from Qa 113 (by decide) m[i] W);generalize m[i]=nn at n H;generalize Ff 113 (P9 nn)=rec at H;have aq:=Hq (fun W (ar:Gl W) (au:Am W s p G)=>uA s p G HS.out ao rec W ar au);rw[X];clear y Z Y X;go_upto_region 9 with fail;have hSn:Bw v0 v0.drew:=(Below.refl _ v0).drew;refine Fu (S:=(fun u=>Bw v0 u)) 12 Kr ?_ (fun q=>?_)
   ·exact hSn
   generalize v0.drew=v4 at hSn ⊢;refine Aw (i:=0) (oi:={dst:=some 50,op:=_,type:=_,pos:=_,after:=_,guard:=_}) (v:=.agg (Ak s p)) (p:=[12]) rfl Kr Kr Kr Kr Kr Kr (fun _ _ _ h=>h) (yieldsIf_load_mid (by rfl) 36 (.tmp 5) rfl g3 0 (by rfl) (Ak s p).toList _ (fun u hu=>(by intro j v hj;rw[Nat.zero_add,Aa (Af r.out.st hu)];simpa using hj)) Ar Kr Kr) (by assumption) ?_
   try simp only[Act.put,pS]
   refine Aw (i:=1) (oi:={dst:=some 51,op:=_,type:=_,pos:=_,after:=_,guard:=_}) (v:=?_) (p:=[12]) rfl Kr Kr Kr Kr Kr Kr (fun _ _ _ h=>h) (Or.inl ⟨by rfl,?_⟩) (by assumption) ?_
   rotate_left
   ·intro u a;have F:=n.out u a;clear a;go_simp;(try with_reducible rfl)
   try simp only[Act.put,pS]
   refine Aw (i:=2) (oi:={dst:=some 52,op:=_,type:=_,pos:=_,after:=_,guard:=_}) (v:=?_) (p:=[12]) rfl Kr Kr Kr Kr Kr Kr (fun _ _ _ h=>h) (Or.inl ⟨by rfl,?_⟩) (by assumption) ?_
   rotate_left
   ·intro u a;have F:=n.out u a;clear a;go_simp;(try with_reducible rfl)
   try simp only[Act.put,pS]
   refine Aw (i:=3) (oi:={dst:=some 53,op:=_,type:=_,pos:=_,after:=_,guard:=_}) (v:=?_) (p:=[12]) rfl Kr Kr Kr Kr Kr Kr (fun _ _ _ h=>h) (Or.inl ⟨by rfl,?_⟩) (by assumption) ?_
   rotate_left
   ·intro u a;have F:=n.out u a;clear a;go_simp;(try with_reducible rfl)
   try simp only[Act.put,pS]
   refine Aw (i:=4) (oi:={dst:=some 54,op:=_,type:=_,pos:=_,after:=_,guard:=_}) (v:=?_) (p:=[12]) rfl Kr Kr Kr Kr Kr Kr (fun _ _ _ h=>h) (Or.inl ⟨by rfl,?_⟩) (by assumption) ?_
   rotate_left
   ·intro u a;have F:=n.out u a;clear a;go_simp;(try with_reducible rfl)
   try simp only[Act.put,pS]
   refine Aw (i:=5) (oi:={dst:=some 55,op:=_,type:=_,pos:=_,after:=_,guard:=_}) (v:=?_) (p:=[12]) rfl Kr Kr Kr Kr Kr Kr (fun _ _ _ h=>h) (Or.inl ⟨by rfl,?_⟩) (by assumption) ?_
   rotate_left
   ·intro u a;have F:=n.out u a;clear a;go_simp;(try with_reducible rfl)
   try simp only[Act.put,pS]
   refine Bo (rs:=[6]) Kr (by simp) ?_;refine(Au.cons (o:={dst:=some 56,op:=_,type:=_,pos:=_,after:=_,guard:=_}) rfl (fun K E=>?_) Au.nil)
   go_simp
   (refine(H.out _).mono ?_);rintro e v5 ⟨rfl,f⟩;have z:=Ag hSn f;clear hSn;have hSn:=z;clear z
   refine Cw E (fun q=>?_);clear E K;refine Bo (rs:=[7]) Kr (by simp) ?_;refine(Au.cons (o:={dst:=some 57,op:=_,type:=_,pos:=_,after:=_,guard:=_}) rfl (fun K E=>?_) Au.nil)
   go_simp
   (refine(aq.out _ (HV.out _ (Ag r.out.be hSn)) (r.out.pr.below hSn)).mono ?_);rintro e v6 ⟨s7,p7,av,x7,y7,z7,rfl,aw,ax,f⟩;have z:=Ag hSn f;clear hSn;have hSn:=z;clear z
   refine Cw E (fun q=>?_);clear E K;refine Aw (i:=8) (oi:={dst:=some 49,op:=_,type:=_,pos:=_,after:=_,guard:=_}) (v:=?_) (p:=[12]) rfl Kr Kr Kr Kr Kr Kr (fun _ _ _ h=>h) (Or.inl ⟨by rfl,?_⟩) (by assumption) ?_
   rotate_left
   ·intro u a;have F:=n.out u a;clear a;go_simp;(try with_reducible rfl)
   try simp only[Act.put,pS]
   refine Aw (i:=9) (oi:={dst:=some 58,op:=_,type:=_,pos:=_,after:=_,guard:=_}) (v:=?_) (p:=[12]) rfl Kr Kr Kr Kr Kr Kr (fun _ _ _ h=>h) (Or.inl ⟨by rfl,?_⟩) (by assumption) ?_
   rotate_left
   ·intro u a;have F:=n.out u a;clear a;go_simp;(try with_reducible rfl)
   try simp only[Act.put,pS]
   refine Dn (i:=10) (oi:={dst:=some 59,op:=_,type:=_,pos:=_,after:=_,guard:=_}) (v:=?_) rfl Kr Kr Kr Kr (fun _ _ _ h=>h) (Or.inl ⟨by rfl,?_⟩) (fun _=>by assumption) ?_
   rotate_left
   ·intro u a;clear a;go_simp;(try with_reducible rfl)
   try simp only[Act.put,pS]
   refine Dn (i:=11) (oi:={dst:=some 60,op:=_,type:=_,pos:=_,after:=_,guard:=_}) (v:=?_) rfl Kr Kr Kr Kr (fun _ _ _ h=>h) (Or.inl ⟨by rfl,?_⟩) (fun _=>by assumption) ?_
   rotate_left
   ·intro u a;clear a;go_simp;(try with_reducible rfl)
   try simp only[Act.put,pS]
   refine Bo (rs:=[12]) Kr (by simp) ?_;refine(Au.last (o:={dst:=none,op:=_,type:=_,pos:=_,after:=_,guard:=_}) rfl Kr (fun K E=>?_) Au.nil);refine Cc (by rfl) ?_;refine sW (Ak s7 p7) (Af r.out.st hSn) ?_;have a1:=Hq (r.out.put hSn aw);refine E.out _ _ ?_;clear E K
   try simp only[Act.put]
   refine Ft Kr ?_ _
   skip
   generalize v6.setRow g3 (Ak s7 p7)=v8 at a1 ⊢
   try clear q
   try simp only[Act.put]
   go_wp2_with fail;go_roundw
   case rel=>exact⟨i+1,s7,p7,av,by omega,by go_num,a1.out,ax⟩
   case measure=>simp[intOf];omega
  ·obtain rfl:i=m.length:=by omega
   have U:¬ (m.length:Int)<(m.length:Int):=(by omega);obtain⟨top,b,u,V,lq,hx,bq⟩:=HS.out;have HX:=Hq hx;have B:=Hq (fun W (hp:Am W s p G)=>iA s p G hx.hv W hp);have cq:=Vj u 24;obtain⟨C,ay⟩:=ex (Hb u 24);rw[← ay]at B cq;have br:=Hq ay;clear hx HS ay
   go_upto_region 11 with(first
    |with_reducible refine lL r.out.st Ar ?_
    |(go_at_call 24;refine(B.out _ r.out.pr).mono ?_;rintro e v1 ⟨s1,T,a6,vw,rfl,a7,a8,az,g⟩;have aa:=Af r.out.st g)
    |with_reducible refine lS (Ak s1 T) aa ?_)
   obtain⟨A1,c1,rfl⟩:=E1 az;have k:=Hq (r.out.put g a7);have I:=Hq (Ue (Ak s1 T) r.out g az (by decide));have ad:=Hq a8;generalize v1.setRow g3 (Ak s1 T)=v2 at k I ⊢;clear r a7 a8 az g aa B
   try simp only[Act.put]
   have B:=Hq (fun W (hp:Am W s1 T a6)=>iB s1 T a6 ad.out HX.out.ch 1 HX.out.r0 W hp);obtain⟨L4,b0⟩:=ex (Gg V lq);rw[← b0]at B;have bs:=Hq b0;clear b0
   go_upto_region 12 with(first
    |with_reducible refine lL k.out.st Ar ?_
    |(go_at_call 22;refine(B.out _ k.out.pr).mono ?_;rintro e v3 ⟨J,N,P,va,A5,c5,rfl,ae,af,L,cr,t⟩;have ag:=Af k.out.st t)
    |with_reducible refine lS (Ak J N) ag ?_)
   obtain⟨A4,c4,rfl⟩:=E1 L;have d:=Hq (k.out.put t ae);have M:=Hq (Ue (Ak J N) k.out t L (by decide));have b3:=Hq (I1 (Ak J N) k.out t I.out (by decide));have D:=Hq (show mU m.length top b u V lq 1 J P from⟨af,HX.out.ch,HX.out.r0,HX.out.tp,HX.out.t2,HX.out.t4⟩);generalize v3.setRow g3 (Ak J N)=v4 at d M b3 ⊢;clear k I ad ae af L t ag B
   try simp only[Act.put]
   have B:=Hq (fun W (hp:Am W J N P)=>wA J N P D.out (by omega) (by omega) W hp)
   go_upto_region 13 with(first
    |with_reducible refine lL d.out.st Ar ?_
    |(go_at_call 16;refine(B.out _ d.out.pr).mono ?_;rintro e v5 ⟨s5,p5,bt,rfl,bu,bw,f⟩;have bx:=Af d.out.st f)
    |with_reducible refine lS (Ak s5 p5) bx ?_)
   have b4:=Hq (d.out.put f bu);have b5:=Hq (I1 (Ak s5 p5) d.out f M.out (by decide));have b6:=Hq (I1 (Ak s5 p5) d.out f b3.out (by decide));have c6:=Hq (show xS (m.length+0) u V top s5 bt from bw);have HC:=Hq HX.out.ch;have ca:=Hq HX.out.r0;generalize v5.setRow g3 (Ak s5 p5)=v6 at b4 b5 b6 ⊢;clear d M b3 D bu bw f bx B HX bq
   try simp only[Act.put]
   as_aux_lemma=>
    go_wp2_with fail
    go_loopw [16] (fun x wr=>∃ (i:Nat) (s:Tx.St) (p:SP) (G:List Fr),i≤l.length∧x= .int .i64 (i:Int)∧uT w g3 s p G wr∧xS (m.length+i) u V top s G∧Dt Jn 1 3 w.heap.size wr (.slice A1 C.length c1) C∧Dt Jr 2 44 w.heap.size wr (.slice A4 L4.length c4) L4) (fun x _=>l.length-(intOf x).toNat)
    case atStart=>exact⟨0,s5,p5,bt,Nat.zero_le _,rfl,b4.out,c6.out,b6.out,b5.out⟩
    case round=>
     clear b4 c6 b6 b5;obtain⟨v0,rfl⟩:=ex wr;obtain⟨i,s,p,G,bn,rfl,hm,hs,ho,F⟩:=hrel;have r:=Hq hm;have HS:=Hq hs;have HO:=Hq ho;have HP:=Hq F;clear hm hs ho F
     by_cases O:i<l.length
     ·have U:(i:Int)<(l.length:Int):=by omega
      have bo:(0:Int)≤(i:Int):=(by omega);have ao:m.length+i≤49:=(by omega);have bp:IntKind.i64.wrap ((i:Int)+1)=(i:Int)+1:=IntWalk.i64_in _ (by omega);obtain⟨b,off,X,-,Y,y⟩:=Bz K6 (HR.out w (Below.refl _ _)) O;have Z:=y 0 _ rfl;have n:=Hq (fun u (hu:Bw v0 u)=>show u.cell? ⟨b,off+i,none⟩=some (.int .i64 l[i])from by
       rw[(Ag r.out.be hu).cell (p:=⟨b,off+i,none⟩) Y]
       simpa using Z)
      have H:=Hq (fun W=>show Cq 18 #[.int .u8 112,.int .i64 l[i]] W _ from Qa 112 (by decide) l[i] W);generalize l[i]=nn at n H;generalize Ff 112 (P9 nn)=rec at H;have aq:=Hq (fun W (ar:Gl W) (au:Am W s p G)=>uB s p G HS.out ao rec W ar au);rw[X];clear y Z Y X;go_upto_region 18 with fail;have hSn:Bw v0 v0.drew:=(Below.refl _ v0).drew;refine Fu (S:=(fun u=>Bw v0 u)) 12 Kr ?_ (fun q=>?_)
      ·exact hSn
      generalize v0.drew=v4 at hSn ⊢;refine Aw (i:=0) (oi:={dst:=some 100,op:=_,type:=_,pos:=_,after:=_,guard:=_}) (v:=.agg (Ak s p)) (p:=[12]) rfl Kr Kr Kr Kr Kr Kr (fun _ _ _ h=>h) (yieldsIf_load_mid (by rfl) 36 (.tmp 5) rfl g3 0 (by rfl) (Ak s p).toList _ (fun u hu=>(by intro j v hj;rw[Nat.zero_add,Aa (Af r.out.st hu)];simpa using hj)) Ar Kr Kr) (by assumption) ?_
      try simp only[Act.put,pS]
      refine Aw (i:=1) (oi:={dst:=some 101,op:=_,type:=_,pos:=_,after:=_,guard:=_}) (v:=?_) (p:=[12]) rfl Kr Kr Kr Kr Kr Kr (fun _ _ _ h=>h) (Or.inl ⟨by rfl,?_⟩) (by assumption) ?_
      rotate_left
      ·intro u a;have F:=n.out u a;clear a;go_simp;(try with_reducible rfl)
      try simp only[Act.put,pS]
      refine Aw (i:=2) (oi:={dst:=some 102,op:=_,type:=_,pos:=_,after:=_,guard:=_}) (v:=?_) (p:=[12]) rfl Kr Kr Kr Kr Kr Kr (fun _ _ _ h=>h) (Or.inl ⟨by rfl,?_⟩) (by assumption) ?_
      rotate_left
      ·intro u a;have F:=n.out u a;clear a;go_simp;(try with_reducible rfl)
      try simp only[Act.put,pS]
      refine Aw (i:=3) (oi:={dst:=some 103,op:=_,type:=_,pos:=_,after:=_,guard:=_}) (v:=?_) (p:=[12]) rfl Kr Kr Kr Kr Kr Kr (fun _ _ _ h=>h) (Or.inl ⟨by rfl,?_⟩) (by assumption) ?_
      rotate_left
      ·intro u a;have F:=n.out u a;clear a;go_simp;(try with_reducible rfl)
      try simp only[Act.put,pS]
      refine Aw (i:=4) (oi:={dst:=some 104,op:=_,type:=_,pos:=_,after:=_,guard:=_}) (v:=?_) (p:=[12]) rfl Kr Kr Kr Kr Kr Kr (fun _ _ _ h=>h) (Or.inl ⟨by rfl,?_⟩) (by assumption) ?_
      rotate_left
      ·intro u a;have F:=n.out u a;clear a;go_simp;(try with_reducible rfl)
      try simp only[Act.put,pS]
      refine Aw (i:=5) (oi:={dst:=some 105,op:=_,type:=_,pos:=_,after:=_,guard:=_}) (v:=?_) (p:=[12]) rfl Kr Kr Kr Kr Kr Kr (fun _ _ _ h=>h) (Or.inl ⟨by rfl,?_⟩) (by assumption) ?_
      rotate_left
      ·intro u a;have F:=n.out u a;clear a;go_simp;(try with_reducible rfl)
      try simp only[Act.put,pS]
      refine Bo (rs:=[6]) Kr (by simp) ?_;refine(Au.cons (o:={dst:=some 106,op:=_,type:=_,pos:=_,after:=_,guard:=_}) rfl (fun K E=>?_) Au.nil)
      go_simp
      (refine(H.out _).mono ?_);rintro e v5 ⟨rfl,f⟩;have z:=Ag hSn f;clear hSn;have hSn:=z;clear z
      refine Cw E (fun q=>?_);clear E K;refine Bo (rs:=[7]) Kr (by simp) ?_;refine(Au.cons (o:={dst:=some 107,op:=_,type:=_,pos:=_,after:=_,guard:=_}) rfl (fun K E=>?_) Au.nil)
      go_simp
      (refine(aq.out _ (HV.out _ (Ag r.out.be hSn)) (r.out.pr.below hSn)).mono ?_);rintro e v6 ⟨s7,p7,av,x7,y7,z7,rfl,aw,ax,f⟩;have z:=Ag hSn f;clear hSn;have hSn:=z;clear z
      refine Cw E (fun q=>?_);clear E K;refine Aw (i:=8) (oi:={dst:=some 99,op:=_,type:=_,pos:=_,after:=_,guard:=_}) (v:=?_) (p:=[12]) rfl Kr Kr Kr Kr Kr Kr (fun _ _ _ h=>h) (Or.inl ⟨by rfl,?_⟩) (by assumption) ?_
      rotate_left
      ·intro u a;have F:=n.out u a;clear a;go_simp;(try with_reducible rfl)
      try simp only[Act.put,pS]
      refine Aw (i:=9) (oi:={dst:=some 108,op:=_,type:=_,pos:=_,after:=_,guard:=_}) (v:=?_) (p:=[12]) rfl Kr Kr Kr Kr Kr Kr (fun _ _ _ h=>h) (Or.inl ⟨by rfl,?_⟩) (by assumption) ?_
      rotate_left
      ·intro u a;have F:=n.out u a;clear a;go_simp;(try with_reducible rfl)
      try simp only[Act.put,pS]
      refine Dn (i:=10) (oi:={dst:=some 109,op:=_,type:=_,pos:=_,after:=_,guard:=_}) (v:=?_) rfl Kr Kr Kr Kr (fun _ _ _ h=>h) (Or.inl ⟨by rfl,?_⟩) (fun _=>by assumption) ?_
      rotate_left
      ·intro u a;clear a;go_simp;(try with_reducible rfl)
      try simp only[Act.put,pS]
      refine Dn (i:=11) (oi:={dst:=some 110,op:=_,type:=_,pos:=_,after:=_,guard:=_}) (v:=?_) rfl Kr Kr Kr Kr (fun _ _ _ h=>h) (Or.inl ⟨by rfl,?_⟩) (fun _=>by assumption) ?_
      rotate_left
      ·intro u a;clear a;go_simp;(try with_reducible rfl)
      try simp only[Act.put,pS]
      refine Bo (rs:=[12]) Kr (by simp) ?_;refine(Au.last (o:={dst:=none,op:=_,type:=_,pos:=_,after:=_,guard:=_}) rfl Kr (fun K E=>?_) Au.nil);refine Cc (by rfl) ?_;refine sW (Ak s7 p7) (Af r.out.st hSn) ?_;have a1:=Hq (r.out.put hSn aw);have cb:=Hq (I1 (Ak s7 p7) r.out hSn HO.out (by decide));have cc:=Hq (I1 (Ak s7 p7) r.out hSn HP.out (by decide));refine E.out _ _ ?_;clear E K
      try simp only[Act.put]
      refine Ft Kr ?_ _
      skip
      generalize v6.setRow g3 (Ak s7 p7)=v8 at a1 cb cc ⊢
      try clear q
      try simp only[Act.put]
      go_wp2_with fail;go_roundw
      case rel=>exact⟨i+1,s7,p7,av,by omega,by go_num,a1.out,ax,cb.out,cc.out⟩
      case measure=>simp[intOf];omega
     ·obtain rfl:i=l.length:=by omega
      have U:¬ (l.length:Int)<(l.length:Int):=(by omega);have B:=Hq (fun W (hp:Am W s p G)=>rK HC.out s p G HS.out (by omega) W hp)
      go_upto_region 20 with(first
       |with_reducible refine lL r.out.st Ar ?_
       |(go_at_call 25;refine(B.out _ r.out.pr).mono ?_;rintro e v1 ⟨s1,T,a6,y1,rfl,a7,⟨rfl,a8⟩,g⟩;have aa:=Af r.out.st g)
       |with_reducible refine lS (Ak s1 T) aa ?_)
      have k:=Hq (r.out.put g a7);have I:=Hq (I1 (Ak s1 T) r.out g HO.out (by decide));have b7:=Hq (I1 (Ak s1 T) r.out g HP.out (by decide));have ad:=Hq a8;generalize v1.setRow g3 (Ak s1 T)=v2 at k I b7 ⊢;clear r HO HP HS a7 a8 g aa B
      try simp only[Act.put]
      have B:=Hq (fun W (hp:Am W s1 T a6)=>rL s1 T a6 ad.out W hp);rw[← br.out]at B
      go_upto_region 23 with(first
       |with_reducible refine lL k.out.st Ar ?_
       |(go_at_call 24;refine(B.out _ k.out.pr).mono ?_;rintro e v3 ⟨J,N,P,va,rfl,ae,af,L,t⟩;have ag:=Af k.out.st t)
       |with_reducible refine lS (Ak J N) ag ?_)
      obtain⟨A7,c7,rfl⟩:=E1 L;have d:=Hq (k.out.put t ae);have b8:=Hq (Ue (Ak J N) k.out t L (by decide));have M:=Hq (I1 (Ak J N) k.out t I.out (by decide));have b9:=Hq (I1 (Ak J N) k.out t b7.out (by decide));have D:=Hq af;generalize v3.setRow g3 (Ak J N)=v4 at d b8 M b9 ⊢;clear k I b7 ad ae af L t ag B
      try simp only[Act.put]
      have B:=Hq (fun W (hp:Am W J N P)=>rM HC.out ca.out J N P D.out W hp);rw[← bs.out]at B
      go_upto_region 24 with(first
       |with_reducible refine lL d.out.st Ar ?_
       |(go_at_call 22;refine(B.out _ d.out.pr).mono ?_;rintro e v5 ⟨s5,p5,vb,A8,c8,rfl,ba,f⟩)
       |with_reducible refine sN (Ak s5 p5) ?_)
      obtain⟨A9,c9,rfl⟩:=E1 ba;have R:=Ac v5 (.cells (Ak s5 p5) 36);have bb:=Hq (Ag d.out.be (Ag f R));have bc:=Hq (Bg b8.out (Ag f R));have bd:=Hq (Bg M.out (Ag f R));have bf:=Hq (Bg b9.out (Ag f R));have bg:=Hq (Bg ba R);generalize v5.alloc (.cells (Ak s5 p5) 36)=v6 at bb bc bd bf bg ⊢;clear d b8 M b9 D ba f R B HC ca br bs
      try simp only[Act.put]
      have ct:((C.length:Int) != (C.length:Int))=false:=bne_self_eq_false _;have cu:((L4.length:Int) != (L4.length:Int))=false:=bne_self_eq_false _
      go_wp2_with(go_at_call 26;refine(mN L4 A4 A9 c4 c9 cr _ (Cz bf.out) (Cz bg.out)).mono ?_;rintro e v7 ⟨rfl,ai⟩)
      have cd:=Hq (Ag bb.out ai);have cf:=Hq (Bg bc.out ai);have cg:=Hq (Bg bd.out ai);clear ai bb bc bd bf bg ct cu
      go_loopw [21] (fun x wr=>∃ i:Nat,i≤C.length∧x= .int .i64 (i:Int)∧Bw w wr∧Dt Jn 1 3 w.heap.size wr (.slice A1 C.length c1) C∧Dt Jn 1 3 w.heap.size wr (.slice A7 C.length c7) C) (fun x _=>C.length-(intOf x).toNat)
      case atStart=>exact⟨0,Nat.zero_le _,rfl,cd.out,cg.out,cf.out⟩
      case round=>
       clear cd cg cf;obtain⟨v8,rfl⟩:=ex wr;obtain⟨i,bn,rfl,hb,ho,hn⟩:=hrel;have HB:=Hq hb;have HO:=Hq ho;have HN:=Hq hn;clear hb ho hn
       by_cases O:i<C.length
       ·have U:(i:Int)<(C.length:Int):=by omega
        have bo:(0:Int)≤(i:Int):=(by omega);have bp:IntKind.i64.wrap ((i:Int)+1)=(i:Int)+1:=IntWalk.i64_in _ (by omega);obtain⟨b1,o1,e1,-,-,cj⟩:=Bz K6 (Cz HO.out) O;obtain⟨b2,o2,e2,-,-,ck⟩:=Bz K6 (Cz HN.out) O;subst e1 e2;have x0:v8.cell? ⟨b1,o1+i,none⟩=some (.int .i64 C[i]):=(by have:=cj 0 _ rfl;simpa using this);have y0:v8.cell? ⟨b2,o2+i,none⟩=some (.int .i64 C[i]):=(by have:=ck 0 _ rfl;simpa using this);have cv:(C[i] != C[i])=false:=bne_self_eq_false _;generalize C[i]=nn at x0 y0 cv;clear cj ck;go_upto_region 29 with fail
        go_quiet (fail)
        go_wp2_with fail;go_roundw
        case rel=>exact⟨i+1,by omega,by go_num,Ag HB.out (Ej _ _),Bg HO.out (Ej _ _),Bg HN.out (Ej _ _)⟩
        case measure=>simp[intOf];omega
       ·obtain rfl:i=C.length:=by omega
        have U:¬ (C.length:Int)<(C.length:Int):=(by omega);go_wp2_with fail;exact HT.out _ HB.out
end Go.Proofs.YtmfkhdhnbkambaaGreatDoor
