import Derived.Test.YtmldoihahndcgaaGreatDoorHs00
import Derived.Test.YtmldoihahndcgaaGreatDoorHs28
import Derived.Test.YtmldoihahndcgaaGreatDoorHs26
import Derived.Test.YtmldoihahndcgaaGreatDoorHs22
set_option maxRecDepth 100000
set_option maxHeartbeats 16000000
set_option linter.unusedSimpArgs false
namespace Go.Proofs.YtmldoihahndcgaaGreatDoor
open Go.RowKit Sc
def uA (q:Nat):Nat:=if q=1 then 2 else Wt q
def uB (q:Nat):Nat:=if q=2 then 3 else uA q
def uC (q:Nat):Nat:=if q=1 then 0 else uB q
def uD (q:Nat):Nat:=if q=1 then 4 else uC q
theorem rH (u:Nat→Nat)(h:0<u 0):Oe u 1:=fun q a=>by
 obtain rfl:q=0:=by omega
 exact h
theorem tR:Oe uA 2:=fun q a=>by
 have:q=0∨q=1:=by omega
 rcases this with rfl|rfl<;>decide
theorem tS:Ed uD 5=[0,1,2]:=by decide
theorem dT (w:World):Cr 8 #[] w (.bool true):=by
 have aw:=Hq (fun W=>show Cq 9 #[.int .i64 5,.int .i64 2] W (fQ 5 2 W)from Qd 5 2 (by omega) (by omega) W);have ax:=Hq (fun(s:Tx.St) (p:SP) (a:List Fr) (C:Nat→ByteArray) (b:ByteArray) (k:SS 3000 5 2 [1] 3786 s a C) (l:SI 5 C b Wt) W (h:Ao W s p a)=>show Cq 14 #[Ag s p,.int .i64 1,.int .i64 2] W (fun e w'=>∃ (j:Tx.St) (q:SP) (f:List Fr) (o:Nat→ByteArray),e= .returned (.tuple #[Ag j q,.int .i64 1,()])∧Ao w' j q f∧SS 3000 5 2 [1] 8834 j f o∧SI 5 o (Bx b 1) uA∧Bw W w')from Ol s p a C k (by decide) 1 (by simp) ⟨by decide,by decide⟩ b Wt l 2 (by omega) 1 (by omega) (rH _ (by decide)) (by decide) W h);have ay:=Hq (fun(s:Tx.St) (p:SP) (a:List Fr) (C:Nat→ByteArray) (b:ByteArray) (k:SS 3000 5 2 [1] 8834 s a C) (l:SI 5 C b uA) W (h:Ao W s p a)=>show Cq 14 #[Ag s p,.int .i64 1,.int .i64 3] W (fun e w'=>∃ (j:Tx.St) (q:SP) (f:List Fr) (o:Nat→ByteArray),e= .returned (.tuple #[Ag j q,.int .i64 2,()])∧Ao w' j q f∧SS 3000 5 2 [1] 13882 j f o∧SI 5 o (Bx b 2) uB∧Bw W w')from Ol s p a C k (by decide) 1 (by simp) ⟨by decide,by decide⟩ b uA l 3 (by omega) 2 (by omega) tR (by decide) W h);have az:=Hq (fun(s:Tx.St) (p:SP) (a:List Fr) (C:Nat→ByteArray) (b:ByteArray) (k:SS 3000 5 2 [1] 13882 s a C) (l:SI 5 C b uB) W (h:Ao W s p a)=>show Cq 12 #[Ag s p,.int .i64 1,.int .i64 1] W (fun e w'=>∃ (j:Tx.St) (q:SP) (f:List Fr) (o:Nat→ByteArray),e= .returned (.tuple #[Ag j q,()])∧Ao w' j q f∧SS 3000 5 2 [1] 18930 j f o∧SI 5 o (Bx b 1) uC∧Bw W w')from fL s p a C k (by decide) 1 (by simp) ⟨by decide,by decide⟩ b uB l 1 (by omega) (by omega) (by decide) W h);have b0:=Hq (fun(s:Tx.St) (p:SP) (a:List Fr) (C:Nat→ByteArray) (b:ByteArray) (k:SS 3000 5 2 [1] 18930 s a C) (l:SI 5 C b uC) W (h:Ao W s p a)=>show Cq 14 #[Ag s p,.int .i64 1,.int .i64 4] W (fun e w'=>∃ (j:Tx.St) (q:SP) (f:List Fr) (o:Nat→ByteArray),e= .returned (.tuple #[Ag j q,.int .i64 1,()])∧Ao w' j q f∧SS 3000 5 2 [1] 23978 j f o∧SI 5 o (Bx b 1) uD∧Bw W w')from Ol s p a C k (by decide) 1 (by simp) ⟨by decide,by decide⟩ b uC l 4 (by omega) 1 (by omega) (rH _ (by decide)) (by decide) W h);have b1:=Hq (fun(s:Tx.St) (p:SP) (a:List Fr) (C:Nat→ByteArray) (b:ByteArray) (k:SS 3000 5 2 [1] 23978 s a C) (l:SI 5 C b uD) W (h:Ao W s p a)=>show Cq 16 #[Ag s p] W (Z9 3000 5 2 [1] 23978 C [0,1,2] W)from by rw[← tS];exact U5 s p a C k b uD l W h);have b2:=Hq (fun(s:Tx.St) (p:SP) (a:List Fr) (C:Nat→ByteArray) (b:ByteArray) (k:SS 3000 5 2 [1] 23978 s a C) (l:SI 5 C b uD) W (h:Ao W s p a)=>U4 s p a C k 1 b uD l 0 (.inl (by decide)) W h);have b3:=Hq (fun(s:Tx.St) (p:SP) (a:List Fr) (C:Nat→ByteArray) (k:SS 3000 5 2 [1] 23978 s a C) W (h:Ao W s p a)=>show Cq 19 #[Ag s p,.int .i64 1] W (nW 3000 5 C s a 1 W)from Lw s p a C k.pi 1 (by omega) W h);have b4:=Hq (fun(C:Nat→ByteArray) (b:ByteArray) (l:SI 5 C b uD) (hz:(C 1).size=512) W=>show Cr 54 #[.string (C 1)] W (.int .i64 4) from by
  have h9:=Xp (C 1) (by omega) W;rw[l.kp 1 (by omega) (by omega)]at h9;exact h9)
 have cp:=Hq (fun(A D:Option Addr) (c d:Nat) W (h1:Reads W A c 3 ([0,1,2].flatMap Kg)) (h2:Reads W D d 3 ([0,1,2].flatMap Kg))=>show Cr 18 #[.slice A 3 c,.slice D 3 d] W (.bool true) from by
  have h9:=Vb [0,1,2] [0,1,2] (by decide) (by decide) A D c d W h1 h2;rw[decide_eq_true rfl]at h9;exact h9)
 go_enter Tryz.func8,Tryz.ntmps8
 go_upto_region 2 with(first
  |(go_at_call 9;refine(aw.out _).mono ?_;rintro e w1 ⟨s1,p1,cq,C1,rfl,b5,b6,b7,P⟩)
  |with_reducible refine sN (Aj s1 p1) ?_)
 have Q:=Hq (Ad P (Ab w1 (.cells (Aj s1 p1) 36)));have z:=Hq (heap_alloc_new w1 (.cells (Aj s1 p1) 36));have R:=Hq (b5.below (Ab w1 (.cells (Aj s1 p1) 36)));have b8:=Hq b6;have b9:=Hq b7;have m:w.heap.size≤w1.heap.size:=P.size;obtain⟨g,hg⟩:=ex w1.heap.size;obtain⟨w2,B⟩:=ex (w1.alloc (.cells (Aj s1 p1) 36));rw[← hg,← B]at z;rw[← B]at Q R;rw[← B,← hg];rw[← hg]at m;clear B hg P b5 b6 b7 aw
 try simp only[Act.put]
 go_upto_region 5 with(first
  |with_reducible refine lL z.out Ar ?_
  |(go_at_call 14;refine(ax.out s1 p1 cq C1 _ b8.out b9.out _ R.out).mono ?_;rintro e v3 ⟨s2,p2,cr,C2,rfl,ba,bb,bc,S⟩;have E:=Hq (Ae z.out S))
  |with_reducible refine lS (Aj s2 p2) E.out ?_)
 have F:=Hq (setRow_heap _ _ _ (Aj s2 p2) _ _ E.out);have U:=Hq (ba.other (t:=36) E.out (by decide) (by decide) (by decide) (Aj s2 p2));have V:=Hq (E7 m (Ad Q.out S) (Aj s2 p2));have bd:=Hq bb;have bf:=Hq bc;generalize v3.setRow g (Aj s2 p2)=w3 at F U V ⊢;clear ba bb bc S E z R Q b8 b9 ax
 try simp only[Act.put]
 go_upto_region 6 with(first
  |with_reducible refine lL F.out Ar ?_
  |(go_at_call 14;refine(ay.out s2 p2 cr C2 _ bd.out bf.out _ U.out).mono ?_;rintro e v4 ⟨s3,p3,ct,C3,rfl,bg,bh,bj,X⟩;have G:=Hq (Ae F.out X))
  |with_reducible refine lS (Aj s3 p3) G.out ?_)
 have H:=Hq (setRow_heap _ _ _ (Aj s3 p3) _ _ G.out);have Y:=Hq (bg.other (t:=36) G.out (by decide) (by decide) (by decide) (Aj s3 p3));have Z:=Hq (E7 m (Ad V.out X) (Aj s3 p3));have bk:=Hq bh;have bl:=Hq bj;generalize v4.setRow g (Aj s3 p3)=w4 at H Y Z ⊢;clear bg bh bj X G F U V bd bf ay
 try simp only[Act.put]
 go_upto_region 7 with(first
  |with_reducible refine lL H.out Ar ?_
  |(go_at_call 12;refine(az.out s3 p3 ct C3 _ bk.out bl.out _ Y.out).mono ?_;rintro e v5 ⟨s4,p4,cu,C4,rfl,bm,bn,bo,a1⟩;have I:=Hq (Ae H.out a1))
  |with_reducible refine lS (Aj s4 p4) I.out ?_)
 have J:=Hq (setRow_heap _ _ _ (Aj s4 p4) _ _ I.out);have a6:=Hq (bm.other (t:=36) I.out (by decide) (by decide) (by decide) (Aj s4 p4));have a7:=Hq (E7 m (Ad Z.out a1) (Aj s4 p4));have bp:=Hq bn;have bq:=Hq bo;generalize v5.setRow g (Aj s4 p4)=w5 at J a6 a7 ⊢;clear bm bn bo a1 I H Y Z bk bl az
 try simp only[Act.put]
 go_upto_region 8 with(first
  |with_reducible refine lL J.out Ar ?_
  |(go_at_call 14;refine(b0.out s4 p4 cu C4 _ bp.out bq.out _ a6.out).mono ?_;rintro e v6 ⟨s5,p5,cv,C5,rfl,br,bs,bt,a8⟩;have K:=Hq (Ae J.out a8))
  |with_reducible refine lS (Aj s5 p5) K.out ?_)
 have r:=Hq (setRow_heap _ _ _ (Aj s5 p5) _ _ K.out);have aa:=Hq (br.other (t:=36) K.out (by decide) (by decide) (by decide) (Aj s5 p5));have ad:=Hq (E7 m (Ad a7.out a8) (Aj s5 p5));have bu:=Hq bs;have ae:=Hq bt;generalize v6.setRow g (Aj s5 p5)=w6 at r aa ad ⊢;clear br bs bt a8 K J a6 a7 bp bq b0
 try simp only[Act.put]
 go_upto_region 9 with(first
  |with_reducible refine lL r.out Ar ?_
  |(go_at_call 16;refine(b1.out s5 p5 cv C5 _ bu.out ae.out _ aa.out).mono ?_;rintro e v7 ⟨u,v,bw,vv,rfl,bx,bz,c6,af⟩;have L:=Hq (Ae r.out af))
  |with_reducible refine lS (Aj u v) L.out ?_)
 have M:=Hq (setRow_heap _ _ _ (Aj u v) _ _ L.out);have N:=Hq (bx.other (t:=36) L.out (by decide) (by decide) (by decide) (Aj u v));have ag:=Hq (E7 m (Ad ad.out af) (Aj u v));have ah:=Hq bz;have ai:=ae;have c7:g<w6.heap.size:=By r.out;have aj:=Hq (Ew c6 g (Aj u v) c7);generalize v7.setRow g (Aj u v)=w7 at M N ag aj ⊢;obtain⟨A,cc,rfl,x⟩:=En.form aj.out;have c8:=Hq x;clear bx bz af c6 L r aa ad bu ae b1 aj x c7
 try simp only[Act.put]
 go_upto_region 10 with(first
  |with_reducible refine lL M.out Ar ?_
  |(go_at_call 12;refine(b2.out u v bw C5 _ ah.out ai.out _ N.out).mono ?_;rintro e v8 ⟨rfl,ca⟩)
  |with_reducible refine sN (Aj u v) ?_)
 have i:=Ad ca (Ab v8 (.cells (Aj u v) 36));have ak:=Hq (Ae M.out i);have an:=Hq (N.out.below i);have ao:=Hq (Ad ag.out i);have aq:=Hq (c8.out.below i);obtain⟨g8,cb⟩:=ex v8.heap.size;obtain⟨w8,ar⟩:=ex (v8.alloc (.cells (Aj u v) 36));rw[← ar]at ak an ao aq;rw[← ar,← cb];clear ar cb ca i M N ag c8 b2
 try simp only[Act.put]
 go_upto_region 11 with(first
  |with_reducible refine lL ak.out Ar ?_
  |(go_at_call 19;refine(b3.out u v bw C5 ah.out _ an.out).mono ?_;rintro e v9 ⟨s7,p7,cz,rfl,cw,cd,cx,i⟩)
  |with_reducible refine sN (Aj s7 p7) ?_)
 have y:=Ad i (Ab v9 (.cells (Aj s7 p7) 36));have au:=Hq (Ad ao.out y);have cf:=Hq (aq.out.below y);have cy:=Hq (b4.out C5 _ ai.out (cd.nm 1 (by omega)).size);obtain⟨g9,cg⟩:=ex v9.heap.size;obtain⟨w9,av⟩:=ex (v9.alloc (.cells (Aj s7 p7) 36));rw[← av]at au cf;rw[← av,← cg];clear av cg i y cw cd cx ak an ao aq b3 b4 ai ah
 try simp only[Act.put]
 have O:=Ab w9 (.cells #[(),.int .i64 1,.int .i64 2] 3);have cj:=Hq (Gg (cs:=[0,1,2].flatMap Kg) (T:=3) (n:=3) (c:=3) (heap_alloc_new w9 (.cells #[(),.int .i64 1,.int .i64 2] 3)) (by omega));have ck:=Hq (cf.out.below O)
 go_wp2_with(first
  |(go_at_call 18;refine(cp.out _ _ _ _ _ ck.out cj.out).mono ?_;rintro e da ⟨rfl,cm⟩)
  |(go_at_call 54;refine(cy.out _).mono ?_;rintro e db ⟨rfl,cn⟩))
 go_ret;exact⟨rfl,au.out.trans ((Ad O (Ad cm cn)).mono au.out.size)⟩
structure sE where
 fr:Bool
 n:Int
def kO (a:sE):List Value:=[.bool a.fr,.int .i64 a.n]
theorem Ti (a:sE):(kO a).length=2:=rfl
theorem oN (u:Nat→Nat):∀ n:Nat,∃ low,low≤n∧Oe u low∧(low<n→¬ 0<u low)
 |0=>⟨0,Nat.le_refl _,fun _ h=>absurd h (by omega),fun h=>absurd h (by omega)⟩
 |n+1=>by
  obtain⟨l,h1,h2,h3⟩:=oN u n
  by_cases e:l<n
  ·exact⟨l,by omega,h2,fun _=>h3 e⟩
  ·obtain rfl:l=n:=by omega
   by_cases hu:0<u l
   ·exact⟨l+1,Nat.le_refl _,jL h2 hu,fun h=>absurd h (by omega)⟩
   ·exact⟨l,by omega,h2,fun _=>hu⟩
def Oo (n:Nat)(b:ByteArray)(u:Nat→Nat)(m:Int):Int×ByteArray×(Nat→Nat):=
 if m<1∨(n:Int)≤m then(1,b,u)else if 0<u m.toNat then(0,Bx b m.toNat,fun q=>if q=m.toNat then 0 else u q)else(21,b,u)
def I7 (n low:Nat)(b:ByteArray)(u:Nat→Nat)(m:Int):Int×Int×ByteArray×(Nat→Nat):=
 if m<2∨4<m then(0,1,b,u)else if low=n then(0,18,b,u)else((low:Int),0,Bx b low,fun q=>if q=low then m.toNat else u q)
theorem SW.Qy {n k:Nat}{c:Int}{s:Tx.St}{fs:List Fr}{C:Nat→ByteArray}(h:SS 3000 n k [1] c s fs C):SS 3000 n k [1] (c+5048) s fs C:=h.more (by omega)
section
variable {n k : Nat} {c : Int} (s : Tx.St) (p : SP) (fs : List Fr) (C : Nat → ByteArray) (hc : c + 5048 ≤ (3000 : Nat) * 128) (b : ByteArray) (u : Nat → Nat) (hu : SI n C b u) (m : Int) (w : World) (h : Ao w s p fs)
include hc hu h
theorem kP (hS:SS 3000 n k [1] c s fs C):
 Cq 12 #[Ag s p,.int .i64 1,m] w fun e w'=>∃ (s2:Tx.St) (p2:SP) (fs2:List Fr) (C2:Nat→ByteArray),e= .returned (.tuple #[Ag s2 p2,.int .i64 (Oo n b u m).1])∧Ao w' s2 p2 fs2∧SS 3000 n k [1] (c+5048) s2 fs2 C2∧SI n C2 (Oo n b u m).2.1 (Oo n b u m).2.2∧Bw w w':=by
 unfold Oo
 by_cases h1:m<1∨(n:Int)≤m
 ·rw[if_pos h1]
  refine(U4 s p fs C hS 1 b u hu m h1 w h).mono ?_
  rintro e w' ⟨rfl,hb⟩
  exact⟨s,p,fs,C,rfl,h.below hb,SW.Qy hS,hu,hb⟩
 ·rw[if_neg h1]
  obtain⟨pg,rfl⟩:∃ pg:Nat,m=(pg:Int):=⟨m.toNat,by omega⟩
  rw[Int.toNat_natCast]
  by_cases h2:0<u pg
  ·rw[if_pos h2]
   refine(fL s p fs C hS hc 1 (by simp) ⟨by decide,by decide⟩ b u hu pg (by omega) (by omega) h2 w h).mono ?_
   rintro e w' ⟨s2,p2,fs2,C2,rfl,hp,hs,hi,hb⟩
   exact⟨s2,p2,fs2,C2,rfl,hp,hs,hi,hb⟩
  ·rw[if_neg h2]
   refine(dL s p fs C hS 1 b u hu pg (by omega) (by omega) h2 w h).mono ?_
   rintro e w' ⟨rfl,hb⟩
   exact⟨s,p,fs,C,rfl,h.below hb,SW.Qy hS,hu,hb⟩
theorem dU (hS:SS 3000 n k [1] c s fs C)(low:Nat)(hl:low≤n∧Oe u low∧(low<n→¬ 0<u low)):
 Cq 14 #[Ag s p,.int .i64 1,m] w fun e w'=>∃ (s2:Tx.St) (p2:SP) (fs2:List Fr) (C2:Nat→ByteArray),e= .returned (.tuple #[Ag s2 p2,.int .i64 (I7 n low b u m).1,.int .i64 (I7 n low b u m).2.1])∧Ao w' s2 p2 fs2∧SS 3000 n k [1] (c+5048) s2 fs2 C2∧SI n C2 (I7 n low b u m).2.2.1 (I7 n low b u m).2.2.2∧Bw w w':=by
 unfold I7
 by_cases h1:m<2∨4<m
 ·rw[if_pos h1]
  refine(dK s p 1 m h1 w).mono ?_
  rintro e w' ⟨rfl,hb⟩
  exact⟨s,p,fs,C,rfl,h.below hb,SW.Qy hS,hu,hb⟩
 ·rw[if_neg h1]
  obtain⟨kd,rfl⟩:∃ kd:Nat,m=(kd:Int):=⟨m.toNat,by omega⟩
  rw[Int.toNat_natCast]
  by_cases h2:low=n
  ·rw[if_pos h2]
   refine(aA s p fs C hS b u hu 1 kd (by omega) (h2▸hl.2.1) w h).mono ?_
   rintro e w' ⟨rfl,hb⟩
   exact⟨s,p,fs,C,rfl,h.below hb,SW.Qy hS,hu,hb⟩
  ·rw[if_neg h2]
   refine(Ol s p fs C hS hc 1 (by simp) ⟨by decide,by decide⟩ b u hu kd (by omega) low (by omega) hl.2.1 (hl.2.2 (by omega)) w h).mono ?_
   rintro e w' ⟨s2,p2,fs2,C2,rfl,hp,hs,hi,hb⟩
   exact⟨s2,p2,fs2,C2,rfl,hp,hs,hi,hb⟩
theorem dV (hS:SW 3000 n k [1] c s fs C):
 Cq 13 #[Ag s p,.int .i64 1,m] w fun e w'=>∃ (s2:Tx.St) (p2:SP) (fs2:List Fr) (C2:Nat→ByteArray),e= .returned (.tuple #[Ag s2 p2,.int .i64 (Oo n b u m).1])∧Ao w' s2 p2 fs2∧SW 3000 n k [1] (c+5048) s2 fs2 C2∧SI n C2 (Oo n b u m).2.1 (Oo n b u m).2.2∧Bw w w':=by
 have hm:SW 3000 n k [1] (c+5048) s fs C:=hS.more (by omega)
 unfold Oo
 by_cases h1:m<1∨(n:Int)≤m
 ·rw[if_pos h1]
  refine(dP s p fs C hS 1 b u hu m h1 w h).mono ?_
  rintro e w' ⟨rfl,hb⟩
  exact⟨s,p,fs,C,rfl,h.below hb,hm,hu,hb⟩
 ·rw[if_neg h1]
  obtain⟨pg,rfl⟩:∃ pg:Nat,m=(pg:Int):=⟨m.toNat,by omega⟩
  rw[Int.toNat_natCast]
  by_cases h2:0<u pg
  ·rw[if_pos h2]
   refine(kH s p fs C hS hc 1 (by simp) ⟨by decide,by decide⟩ b u hu pg (by omega) (by omega) h2 w h).mono ?_
   rintro e w' ⟨s2,p2,fs2,C2,rfl,hp,hs,hi,hb⟩
   exact⟨s2,p2,fs2,C2,rfl,hp,hs,hi.ev,hb⟩
  ·rw[if_neg h2]
   refine(aE s p fs C hS 1 b u hu pg (by omega) (by omega) h2 w h).mono ?_
   rintro e w' ⟨rfl,hb⟩
   exact⟨s,p,fs,C,rfl,h.below hb,hm,hu,hb⟩
theorem aG (hS:SW 3000 n k [1] c s fs C)(low:Nat)(hl:low≤n∧Oe u low∧(low<n→¬ 0<u low)):
 Cq 15 #[Ag s p,.int .i64 1,m] w fun e w'=>∃ (s2:Tx.St) (p2:SP) (fs2:List Fr) (C2:Nat→ByteArray),e= .returned (.tuple #[Ag s2 p2,.int .i64 (I7 n low b u m).1,.int .i64 (I7 n low b u m).2.1])∧Ao w' s2 p2 fs2∧SW 3000 n k [1] (c+5048) s2 fs2 C2∧SI n C2 (I7 n low b u m).2.2.1 (I7 n low b u m).2.2.2∧Bw w w':=by
 have hm:SW 3000 n k [1] (c+5048) s fs C:=hS.more (by omega)
 unfold I7
 by_cases h1:m<2∨4<m
 ·rw[if_pos h1]
  refine(aD s p 1 m h1 w).mono ?_
  rintro e w' ⟨rfl,hb⟩
  exact⟨s,p,fs,C,rfl,h.below hb,hm,hu,hb⟩
 ·rw[if_neg h1]
  obtain⟨kd,rfl⟩:∃ kd:Nat,m=(kd:Int):=⟨m.toNat,by omega⟩
  rw[Int.toNat_natCast]
  by_cases h2:low=n
  ·rw[if_pos h2]
   refine(Ws s p fs C hS b u hu 1 kd (by omega) (h2▸hl.2.1) w h).mono ?_
   rintro e w' ⟨rfl,hb⟩
   exact⟨s,p,fs,C,rfl,h.below hb,hm,hu,hb⟩
  ·rw[if_neg h2]
   refine(dO s p fs C hS hc 1 (by simp) ⟨by decide,by decide⟩ b u hu kd (by omega) low (by omega) hl.2.1 (hl.2.2 (by omega)) w h).mono ?_
   rintro e w' ⟨s2,p2,fs2,C2,rfl,hp,hs,hi,hb⟩
   exact⟨s2,p2,fs2,C2,rfl,hp,hs,hi.ev,hb⟩
end
theorem kQ {n:Nat}{C D:Nat→ByteArray}{b:ByteArray}{u:Nat→Nat}(h:SI n C b u)(a:SI n D b u){i:Nat}(hi:i<n)(d:Mo (C i))(f:Mo (D i)):Bg (C i) 0=Bg (D i) 0:=by
 have e:∀ p:ByteArray,Mo p→Bg p 0=C8 ⟨0,(Af p).kind,(Af p).link,(Af p).recs⟩:=fun p g=>by
  have c:=Mg g.is (l:=0) (by omega);rw[show((0:Nat):Int)=0 from rfl]at c;rw[← c.1.eq,c.2]
 rw[e _ d,e _ f];rcases Nat.eq_zero_or_pos i with e0|e0
 ·subst e0
  rw[h.k0,h.l0,h.r0,a.k0,a.l0,a.r0]
 ·rw[h.kp i e0 hi,h.lp i e0 hi,h.rp i e0 hi,a.kp i e0 hi,a.lp i e0 hi,a.rp i e0 hi]
theorem oO {N n k:Nat}{ids:List Int}{c:Int}{s:Tx.St}{C:Nat→ByteArray}(h:SS N n k ids c s (D5 k) C):Wf N n 0 s (D5 k):=by
 have e:=h.pi.n1;obtain⟨f,g,o,p,l,q,r,a⟩:=h.pi.pw;have m:=h.pi.pw.tF;refine⟨h.pi.zl,h.pi.zp,e,Tx.eK a (by omega),a.al,a.hn,m.2,⟨f,by rw[l];decide,g⟩,h.pi.nf,h.pi.hd,fun i b=>?_,fun i j b t _ d _=>?_,h.tx.small,h.tx.all⟩
 ·rw[Gv b]
  exact⟨by decide,⟨Int.le_refl _,Int.le_refl _⟩,Ka,⟨Int.le_refl _,by show(0:Int)<(n:Int);omega⟩,fun h=>absurd rfl h,fun h=>absurd rfl h⟩
 ·rw[Full,Gv b]at d;exact absurd rfl d
structure aH (n k g:Nat) (wr:World) (c:Int) (s:Tx.St) (p:SP) (fs:List Fr) (C:Nat→ByteArray) (b:ByteArray) (u:Nat→Nat):Prop where
 st:wr.heap[g]? =some (.cells (Aj s p) 36 (0,0))
 pr:Ao wr s p fs
 ss:SS 3000 n k [1] c s fs C
 si:SI n C b u
structure fR (n k g:Nat) (wr:World) (c:Int) (s:Tx.St) (p:SP) (fs:List Fr) (C:Nat→ByteArray) (b:ByteArray) (u:Nat→Nat):Prop where
 st:wr.heap[g]? =some (.cells (Aj s p) 36 (0,0))
 pr:Ao wr s p fs
 sw:SW 3000 n k [1] c s fs C
 si:SI n C b u
section
variable {n k g : Nat} {wr : World} {c : Int} {s : Tx.St} {p : SP} {fs : List Fr} {C : Nat → ByteArray} {b : ByteArray} {u : Nat → Nat}
theorem aH.below {v:World}(h:aH n k g wr c s p fs C b u)(a:Bw wr v):aH n k g v c s p fs C b u:=⟨Ae h.st a,h.pr.below a,h.ss,h.si⟩
theorem fR.below {v:World}(h:fR n k g wr c s p fs C b u)(a:Bw wr v):fR n k g v c s p fs C b u:=⟨Ae h.st a,h.pr.below a,h.sw,h.si⟩
theorem aH.other (h:aH n k g wr c s p fs C b u){d:Nat}{cs:Array Value}(e:wr.heap[d]? =some (.cells cs 36 (0,0)))(f:g≠d)(a:Array Value):aH n k g (wr.setRow d a) c s p fs C b u:=
 ⟨(Ah _ _ a _ f).trans h.st,h.pr.other (t:=36) e (by decide) (by decide) (by decide) a,h.ss,h.si⟩
theorem fR.other (h:fR n k g wr c s p fs C b u){d:Nat}{cs:Array Value}(e:wr.heap[d]? =some (.cells cs 36 (0,0)))(f:g≠d)(a:Array Value):fR n k g (wr.setRow d a) c s p fs C b u:=
 ⟨(Ah _ _ a _ f).trans h.st,h.pr.other (t:=36) e (by decide) (by decide) (by decide) a,h.sw,h.si⟩
end
end Go.Proofs.YtmldoihahndcgaaGreatDoor
