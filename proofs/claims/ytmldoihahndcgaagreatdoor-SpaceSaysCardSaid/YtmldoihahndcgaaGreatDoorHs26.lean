import Derived.Test.YtmldoihahndcgaaGreatDoorHs00
import Derived.Test.YtmldoihahndcgaaGreatDoorHs25
import Derived.Test.YtmldoihahndcgaaGreatDoorHs22
set_option maxRecDepth 100000
set_option maxHeartbeats 16000000
set_option linter.unusedSimpArgs false
namespace Go.Proofs.YtmldoihahndcgaaGreatDoor
open Go.RowKit Sc
def oH (N n k:Nat)(ids:List Int)(c:Int)(b:ByteArray)(u:Nat→Nat)(V:Nat→Nat×List ByteArray)(pg:Nat)(w:World)(e:Ending)(w':World):Prop:=
 ∃ (s':Tx.St) (q:SP) (fs':List Fr) (C':Nat→ByteArray),e= .returned (.tuple #[Ag s' q,.int .i64 (pg:Int),()])∧Ao w' s' q fs'∧SW N n k ids c s' fs' C'∧SI n C' b u V∧Bw w w'
theorem dO {N n k:Nat}{ids:List Int}{c:Int}(s:Tx.St)(p:SP)(fs:List Fr)(C:Nat→ByteArray)(hS:SW N n k ids c s fs C)(hc:c+5048≤(N:Int)*128)(t:Int)(ht:t∈ids)(a6:Rc.num t)(b:ByteArray)(u:Nat→Nat){V:Nat→Nat×List ByteArray}(hu:SI n C b u V)(f:Nat)(bb:2≤f∧f≤4)(pg:Nat)(a7:pg<n)(a8:Oe u pg)(z:¬ 0<u pg)(w:World)(h:Ao w s p fs):
 Cq 15 #[Ag s p,t,.int .i64 (f:Int)] w (oH N n k ids (c+5048) (Bx b pg) (fun q=>if q=pg then f else u q) (fun q=>if q=pg then(0,[])else V q) pg w):=by
 have hn:=hS.ss.pi.n1;have HZ:=Hq hS.ss.pi.zp;have L:=Hq (fun W (hb:Bw w W)=>Iw s p fs C hS b u hu W (h.below hb));unfold Om at L;have O:=Hq (fun(j:Nat) (hj:j<n) W=>Hg b j (by rw[hu.sz];omega) (by omega) W);have P:=Hq hu.bt;have aq:1≤pg:=by
  rcases Nat.eq_zero_or_pos pg with e|e
  ·subst e;rw[hu.u0]at z;exact absurd (by decide) z
  ·exact e
 have aa:=Hq (fun W=>Nu (f:Int) W);have R:=Hq (fun(s1:Tx.St) (F:SP) (A:List Fr) (ar:SW N n k ids c s1 A C) W (hw:Ao W s1 F A)=>U7 s1 F A C ar hc t ht a6 b u hu pg a7 aq f (by omega) ⟨fun _=>z,fun _=>by omega⟩ W hw);unfold On at R;have ad:=Hq a8;have ae:=Hq z;have HQ:=Hq (fun(s':Tx.St) (q:SP) (au:List Fr) (C':Nat→ByteArray) w' h1 h2 h3 h4=>show oH N n k ids (c+5048) (Bx b pg) (fun q=>if q=pg then f else u q) (fun q=>if q=pg then(0,[])else V q) pg w (.returned (.tuple #[Ag s' q,.int .i64 (pg:Int),()])) w' from⟨s',q,au,C',rfl,h1,h2,h3,h4⟩);generalize av:oH N n k ids (c+5048) (Bx b pg) (fun q=>if q=pg then f else u q) (fun q=>if q=pg then(0,[])else V q) pg w=Q at HQ ⊢;generalize E6 (f:Int)=tb at aa R;clear h hS hu a8 z hc ht a6 av;go_enter Tryz.func15,Tryz.ntmps15;go_upto_region 1 with fail;have T:=Hp w (Aj s p) 36 #[(),(),(),'s',(),false,(),(),(),(),"",'s',(),'s',()] 36;obtain⟨W0,af⟩:=Ee T;rw[← af]at T ⊢;clear af
 go_cut [22] (fun x wc=>x= .bool false∧wc=W0)
 case first=>
  have aw:f=2∨f=3∨f=4:=by omega
  rcases aw with rfl|rfl|rfl
  all_goals
   go_wp2_with fail;go_meet
   case rel=>exact⟨rfl,rfl⟩
 case rest=>
  obtain⟨rfl,rfl⟩:=hcut
  go_upto_region 6 with(first
   |with_reducible refine lL T.out.Ai Ar ?_
   |(go_at_call 68;refine(L.out _ T.out.below).mono ?_;rintro e w4 ⟨s1,F,A,rfl,ag,ah,G⟩)
   |with_reducible refine sN (Aj s1 F) ?_)
  have ai:=G.trans ((Ab w4 (.cells (Aj s1 F) 36)).mono G.size);have H5:=Hq (T.out.step ai);have U:=Hq (heap_alloc_new w4 (.cells (Aj s1 F) 36));have X:=Hq (ag.below (Ab w4 (.cells (Aj s1 F) 36)));have ax:=Hq ah;have ay:(w.heap.size+1)<w4.heap.size:=Nat.lt_of_lt_of_le (T.out.lt (i:=1) (by simp)) G.size;obtain⟨g9,H⟩:=ex w4.heap.size;obtain⟨w5,I⟩:=ex (w4.alloc (.cells (Aj s1 F) 36));rw[← H,← I]at U;rw[← I]at H5 X;rw[← I,← H];rw[← H]at ay;clear I H G ai T L ag ah
  try simp only[Act.put]
  have Y:=show w5.cell? ⟨w.heap.size,1,none⟩=some (.int .i64 (n:Int))from(by rw[Aa H5.out.Ai,← HZ.out];rfl);go_wp2_with fail;clear Y
  go_loopw [12] (fun x wr=>∃ j:Nat,j≤pg∧x= .int .i64 (j:Int)∧Bw w5 wr) (fun x _=>pg-(intOf x).toNat)
  case atStart=>exact⟨0,Nat.zero_le _,rfl,Below.refl _ _⟩
  case round=>
   obtain⟨w6,rfl⟩:=ex wr;obtain⟨j,hj,rfl,a⟩:=hrel;have Y:=show w6.cell? ⟨w.heap.size,1,none⟩=some (.int .i64 (n:Int))from by rw[Aa (H5.out.step a).Ai,← HZ.out];rfl
   by_cases az:j<pg
   ·have B:j<n:=by omega
    have b0:(j:Int)<(n:Int):=(by omega);have l:=Hq (fun W=>O.out j B W);rw[P.out j B,decide_eq_true (ad.out j az)]at l;have bc:IntKind.i64.wrap ((j:Int)+1)=(j:Int)+1:=IntWalk.i64_in _ (by omega);have b1:=Hq a;clear a
    go_wp2_with(go_at_call 69;refine(l.out _).mono ?_;rintro e w7 ⟨rfl,rfl⟩)
    go_roundw
    case rel=>exact⟨j+1,by omega,by go_num,b1.out⟩
    case measure=>simp[intOf];omega
   ·obtain rfl:j=pg:=by omega
    have B:j<n:=a7;have b0:(j:Int)<(n:Int):=(by omega);have l:=Hq (fun W=>O.out j B W);rw[P.out j B,decide_eq_false ae.out]at l;have bd:((j:Int)==(n:Int))=false:=beq_eq_false_iff_ne.2 (by omega);have H6:=Hq (H5.out.step a);have Z:=Hq (Ae U.out a);have b2:=Hq (X.out.below a);clear a O P ad ae H5 U X
    go_upto_region 11 with(go_at_call 69;refine(l.out _).mono ?_;rintro e w7 ⟨rfl,rfl⟩)
    clear l Y
    go_cut [11] (fun x wc=>x= .int .i64 0∧∃ (s2:Tx.St) (r:SP) (m:List Fr) (C2:Nat→ByteArray),wc.heap[g9]? =some (.cells (Aj s2 r) 36 (0,0))∧Ao wc s2 r m∧SW N n k ids (c+5048) s2 m C2∧SI n C2 (Bx b j) (fun q=>if q=j then f else u q) (fun q=>if q=j then(0,[])else V q)∧D6 w.heap.size w [((Aj s p),36),(#[(),(),(),'s',(),false,(),(),(),(),"",'s',(),'s',()],36)] wc)
    case first=>
     have y:Bw w6 w6.drew:=(Below.refl _ w6).drew;have hSn:=Ae Z.out y;refine Ep (S:=(fun u=>u.heap[g9]? =some (.cells (Aj s1 F) 36 (0,0)))) 10 Kr ?_ (fun d=>?_)
     ·exact hSn
     generalize w6.drew=w8 at hSn y ⊢;refine sL 0 [10] Ar ?_;refine Tl 1 [10] ?_;refine Tl 2 [10] ?_;refine Tl 3 [10] ?_;refine Tl 4 [10] ?_;refine Bj (rs:=[5]) Kr (by simp) ?_;refine(Ax.cons (o:={dst:=some 61,op:=_,type:=_,pos:=_,after:=_,guard:=_}) rfl (fun K J=>?_) Ax.nil)
     go_simp
     (refine(aa.out _).mono ?_);rintro e w9 ⟨rfl,D⟩;have E:=Ad y D;clear y hSn D;have y:=E;clear E;have hSn:=Ae Z.out y
     refine Bq J (fun d=>?_);clear J K;refine Bj (rs:=[6]) Kr (by simp) ?_;refine(Ax.cons (o:={dst:=some 62,op:=_,type:=_,pos:=_,after:=_,guard:=_}) rfl (fun K J=>?_) Ax.nil)
     go_simp
     (refine(R.out s1 F A ax.out _ (b2.out.below y)).mono ?_);rintro e w9 ⟨s2,r,m,C2,rfl,b3,b4,b5,D⟩;have E:=Ad y D;clear y hSn D;have y:=E;clear E;have hSn:=Ae Z.out y;have H9:=H6.out.step y
     refine Bq J (fun d=>?_);clear J K;refine Tl 7 [10] ?_;refine Tl 8 [10] ?_;refine Bv (i:=9) (oi:={dst:=some 64,op:=_,type:=_,pos:=_,after:=_,guard:=_}) (v:=?_) rfl Kr Kr Kr Kr (fun _ _ _ h=>h) (Or.inl ⟨by rfl,?_⟩) (fun _=>by assumption) ?_
     rotate_left
     ·intro u a1;clear a1;go_simp;(try with_reducible rfl)
     try simp only[Act.put,pS]
     refine Bj (rs:=[10]) Kr (by simp) ?_;refine(Ax.last (o:={dst:=none,op:=_,type:=_,pos:=_,after:=_,guard:=_}) rfl Kr (fun K J=>?_) Ax.nil);refine Ay (by rfl) ?_;refine sW (Aj s2 r) hSn ?_;have aj:=setRow_heap _ _ _ (Aj s2 r) _ _ hSn;have ak:=b3.other (t:=36) hSn (by decide) (by decide) (by decide) (Aj s2 r);have b6:=H9.under (M:=w.heap.size+2) (by simp) (E7 (g:=g9) (by omega) (show Below (w.heap.size+2) w9 w9 from⟨rfl,rfl,rfl,Nat.le_refl _,fun _ _=>rfl⟩) (Aj s2 r));refine J.out _ _ ?_;clear J K
     try simp only[Act.put]
     refine Bv (i:=11) (oi:={dst:=some 11,op:=_,type:=_,pos:=_,after:=_,guard:=_}) (v:=?_) rfl Kr Kr Kr Kr (fun _ _ _ h=>h) (Or.inl ⟨by rfl,?_⟩) (fun h=>absurd h (by decide)) ?_
     rotate_left
     ·intro u a1;clear a1;go_simp;(try with_reducible rfl)
     try simp only[Act.put,pS]
     refine Eo Kr ?_ _
     try clear d
     go_wp2_with fail;go_meet
     case rel=>exact⟨rfl,s2,r,m,C2,aj,ak,b4,b5,b6⟩
    case rest=>
     obtain⟨rfl,s2,r,m,C2,an,b7,b8,b9,ao⟩:=hcut;have H8:=Hq ao;have ba:=Hq an;clear ao an
     go_wp2_with(first
      |with_reducible refine lL ba.out Ar ?_
      |with_reducible refine lS (Aj s2 r) H8.out.Am ?_)
     refine rT3 (.int .i64 (j:Int)) () H8.out.Am Ar ?_;exact HQ.out s2 r m C2 _ (b7.other (t:=36) H8.out.Am (by decide) (by decide) (by decide) _) b8 b9 (H8.out.row 1 (Aj s2 r) _ rfl).below
theorem Ws {N n k:Nat}{ids:List Int}{c:Int}(s:Tx.St)(p:SP)(fs:List Fr)(C:Nat→ByteArray)(I:SW N n k ids c s fs C)(b:ByteArray)(u:Nat→Nat){V:Nat→Nat×List ByteArray}(J:SI n C b u V)(t:Int)(q:Nat)(a1:2≤q∧q≤4)(v:Oe u n)(w:World)(h:Ao w s p fs):
 Cr 15 #[Ag s p,t,.int .i64 (q:Int)] w (.tuple #[Ag s p,(),.int .i64 18]):=by
 have hn:=I.ss.pi.n1;have Z:=Hq I.ss.pi.zp;have m:=Hq (fun W (hb:Bw w W)=>Iw s p fs C I b u J W (h.below hb));unfold Om at m;have M:=Hq (fun(j:Nat) (hj:j<n) W=>Hg b j (by rw[J.sz];omega) (by omega) W);have O:=Hq J.bt;obtain⟨pg,y⟩:=ex n;have a6:pg≤n:=by omega
 have l:Oe u pg:=by rw[y];exact v
 have P:=Hq l;clear h I J v l;go_enter Tryz.func15,Tryz.ntmps15;go_upto_region 1 with fail;have o:=Hp w (Aj s p) 36 #[(),(),(),'s',(),false,(),(),(),(),"",'s',(),'s',()] 36;obtain⟨W0,z⟩:=Ee o;rw[← z]at o ⊢;clear z
 go_cut [22] (fun x wc=>x= .bool false∧wc=W0)
 case first=>
  have Q:q=2∨q=3∨q=4:=by omega
  rcases Q with rfl|rfl|rfl
  all_goals
   go_wp2_with fail;go_meet
   case rel=>exact⟨rfl,rfl⟩
 case rest=>
  obtain⟨rfl,rfl⟩:=hcut
  go_upto_region 6 with(first
   |with_reducible refine lL o.out.Ai Ar ?_
   |(go_at_call 68;refine(m.out _ o.out.below).mono ?_;rintro e r ⟨s1,A,a7,rfl,B,D,d⟩)
   |with_reducible refine sN (Aj s1 A) ?_)
  have E:=d.trans ((Ab r (.cells (Aj s1 A) 36)).mono d.size);have K:=Hq (o.out.step E);have R:=Hq (heap_alloc_new r (.cells (Aj s1 A) 36));have S:=Hq (B.below (Ab r (.cells (Aj s1 A) 36)));have a8:=Hq D;have T:(w.heap.size+1)<r.heap.size:=Nat.lt_of_lt_of_le (o.out.lt (i:=1) (by simp)) d.size;obtain⟨g9,f⟩:=ex r.heap.size;obtain⟨w5,g⟩:=ex (r.alloc (.cells (Aj s1 A) 36));rw[← f,← g]at R;rw[← g]at K S;rw[← g,← f];rw[← f]at T;clear g f d E o m B D
  try simp only[Act.put]
  have F:=show w5.cell? ⟨w.heap.size,1,none⟩=some (.int .i64 (n:Int))from(by rw[Aa K.out.Ai,← Z.out];rfl);go_wp2_with fail;clear F
  go_loopw [12] (fun x wr=>∃ j:Nat,j≤pg∧x= .int .i64 (j:Int)∧Bw w5 wr) (fun x _=>pg-(intOf x).toNat)
  case atStart=>exact⟨0,Nat.zero_le _,rfl,Below.refl _ _⟩
  case round=>
   obtain⟨w6,rfl⟩:=ex wr;obtain⟨j,hj,rfl,a⟩:=hrel;have F:=show w6.cell? ⟨w.heap.size,1,none⟩=some (.int .i64 (n:Int))from by rw[Aa (K.out.step a).Ai,← Z.out];rfl
   by_cases U:j<pg
   ·have G:j<n:=by omega
    have X:(j:Int)<(n:Int):=(by omega);have H:=Hq (fun W=>M.out j G W);rw[O.out j G,decide_eq_true (P.out j U)]at H;have aa:IntKind.i64.wrap ((j:Int)+1)=(j:Int)+1:=IntWalk.i64_in _ (by omega);have Y:=Hq a;clear a
    go_wp2_with(go_at_call 69;refine(H.out _).mono ?_;rintro e w7 ⟨rfl,rfl⟩)
    go_roundw
    case rel=>exact⟨j+1,by omega,by go_num,Y.out⟩
    case measure=>simp[intOf];omega
   ·obtain rfl:j=pg:=by omega
    have X:¬ (j:Int)<(n:Int):=(by omega);have ad:((j:Int)==(n:Int))=true:=beq_iff_eq.2 (by omega);have L:=Hq (K.out.step a);clear a y
    go_wp2_with(first
     |with_reducible refine lL L.out.Ai Ar ?_
     |with_reducible refine lS (Aj s p) L.out.Am ?_)
    refine rT3 () (.int .i64 18) L.out.Am Ar ?_;exact⟨rfl,(L.out.row 1 (Aj s p) _ rfl).below⟩
theorem aD (s:Tx.St)(p:SP)(t a:Int)(d:a<2∨4<a)(w:World):
 Cr 15 #[Ag s p,t,a] w (.tuple #[Ag s p,(),.int .i64 1]):=by
 have e:(a != 2)=true:=by rw[bne_iff_ne];omega
 have f:(a != 3)=true:=by rw[bne_iff_ne];omega
 have g:(a != 4)=true:=by rw[bne_iff_ne];omega
 clear d;go_enter Tryz.func15,Tryz.ntmps15;go_upto_region 2 with fail;have b:=Hp w (Aj s p) 36 #[(),(),(),'s',(),false,(),(),(),(),"",'s',(),'s',()] 36;obtain⟨h,c⟩:=Ee b;rw[← c]at b ⊢;clear c
 go_wp2_with(first|with_reducible refine lL b.out.Ai Ar ?_|with_reducible refine lS (Aj s p) b.out.Am ?_)
 refine rT3 () (.int .i64 1) b.out.Am Ar ?_;exact⟨rfl,(b.out.row 1 (Aj s p) _ rfl).below⟩
theorem kH {N n k:Nat}{ids:List Int}{c:Int}(s:Tx.St)(p:SP)(fs:List Fr)(C:Nat→ByteArray)(hS:SW N n k ids c s fs C)(hc:c+5048≤(N:Int)*128)(t:Int)(ht:t∈ids)(Z:Rc.num t)(b:ByteArray)(u:Nat→Nat){V:Nat→Nat×List ByteArray}(hu:SI n C b u V)(pg:Nat)(G:pg<n)(ak:1≤pg)(r:0<u pg)(w:World)(h:Ao w s p fs):
 Cq 13 #[Ag s p,t,.int .i64 (pg:Int)] w (On N n k ids (c+5048) (Bx b pg) (fun q=>if q=pg then 0 else u q) (fun q=>if q=pg then(0,[])else V q) w):=by
 have hn:=hS.ss.pi.n1;have HZ:=Hq hS.ss.pi.zp;have H:=Hq (fun W (hb:Bw w W)=>Iw s p fs C hS b u hu W (h.below hb));unfold Om at H;have a1:=Hq (fun(j:Nat) (hj:j<n) W=>Hg b j (by rw[hu.sz];omega) (by omega) W);have a6:=Hq hu.bt;have a7:=Hq (fun W=>show Cr 60 #[()] W (.string (E6 0)) from Nu 0 W);have I:=Hq (fun(s1:Tx.St) (y:SP) (z:List Fr) (an:SW N n k ids c s1 z C) W (hw:Ao W s1 y z)=>show Cq 70 #[Ag s1 y,t,.int .i64 (pg:Int),b,.string (E6 0)] W (On N n k ids (c+5048) (Bx b pg) (fun q=>if q=pg then 0 else u q) (fun q=>if q=pg then(0,[])else V q) W)from U7 s1 y z C an hc t ht Z b u hu pg G ak 0 (by omega) ⟨fun h0=>absurd h0 (by omega),fun h0=>absurd r h0⟩ W hw);unfold On at I;have a8:=Hq r;have HQ:=Hq (fun(s':Tx.St) (q:SP) (ao:List Fr) (C':Nat→ByteArray) w' h1 h2 h3 h4=>show On N n k ids (c+5048) (Bx b pg) (fun q=>if q=pg then 0 else u q) (fun q=>if q=pg then(0,[])else V q) w (.returned (.tuple #[Ag s' q,()])) w' from⟨s',q,ao,C',rfl,h1,h2,h3,h4⟩);generalize aq:On N n k ids (c+5048) (Bx b pg) (fun q=>if q=pg then 0 else u q) (fun q=>if q=pg then(0,[])else V q) w=Q at HQ ⊢;generalize E6 0=tb at a7 I;clear h hS hu r hc ht Z aq;go_enter Tryz.func13,Tryz.ntmps13;go_upto_region 1 with fail;have J:=Hp w (Aj s p) 36 #[(),(),(),'s',(),false,(),(),(),(),"",'s',(),'s',()] 36;obtain⟨W0,aa⟩:=Ee J;rw[← aa]at J ⊢;clear aa
 go_upto_region 2 with(first
  |with_reducible refine lL J.out.Ai Ar ?_
  |(go_at_call 68;refine(H.out _ J.out.below).mono ?_;rintro e U ⟨s1,y,z,rfl,ad,ae,B⟩)
  |with_reducible refine sN (Aj s1 y) ?_)
 have af:=B.trans ((Ab U (.cells (Aj s1 y) 36)).mono B.size);have H5:=Hq (J.out.step af);have L:=Hq (heap_alloc_new U (.cells (Aj s1 y) 36));have O:=Hq (ad.below (Ab U (.cells (Aj s1 y) 36)));have ar:=Hq ae;have au:(w.heap.size+1)<U.heap.size:=Nat.lt_of_lt_of_le (J.out.lt (i:=1) (by simp)) B.size;obtain⟨g9,D⟩:=ex U.heap.size;obtain⟨w5,E⟩:=ex (U.alloc (.cells (Aj s1 y) 36));rw[← D,← E]at L;rw[← E]at H5 O;rw[← E,← D];rw[← D]at au;clear E D B af J H ad ae
 try simp only[Act.put]
 have P:=Hq (fun W=>a1.out pg G W);rw[a6.out pg G,decide_eq_true a8.out]at P;have av:=show w5.cell? ⟨w.heap.size,1,none⟩=some (.int .i64 (n:Int))from by rw[Aa H5.out.Ai,← HZ.out];rfl
 have b6:¬ (pg:Int)<1:=by omega
 have b7:¬ (n:Int)≤(pg:Int):=by omega
 have b8:(pg:Int)<(n:Int):=by omega
 go_upto_region 8 with(go_at_call 69;refine(P.out _).mono ?_;rintro e w6 ⟨rfl,rfl⟩)
 obtain⟨w6,rfl⟩:=ex w5;have H6:=Hq H5.out;have R:=Hq L.out;have aw:=Hq O.out;clear a1 a6 a8 P H5 L O av
 go_cut [10] (fun x wc=>x= .int .i64 0∧∃ (s2:Tx.St) (f:SP) (l:List Fr) (X:Nat→ByteArray),wc.heap[g9]? =some (.cells (Aj s2 f) 36 (0,0))∧Ao wc s2 f l∧SW N n k ids (c+5048) s2 l X∧SI n X (Bx b pg) (fun q=>if q=pg then 0 else u q) (fun q=>if q=pg then(0,[])else V q)∧D6 w.heap.size w [((Aj s p),36),(#[(),(),(),'s',(),false,(),(),(),(),"",'s',(),'s',()],36)] wc)
 case first=>
  have m:Bw w6 w6.drew:=(Below.refl _ w6).drew;have hSn:=Ae R.out m;refine Ep (S:=(fun u=>u.heap[g9]? =some (.cells (Aj s1 y) 36 (0,0)))) 9 Kr ?_ (fun d=>?_)
  ·exact hSn
  generalize w6.drew=w8 at hSn m ⊢;refine sL 0 [9] Ar ?_;refine Tl 1 [9] ?_;refine Tl 2 [9] ?_;refine Tl 3 [9] ?_;refine Bj (rs:=[4]) Kr (by simp) ?_;refine(Ax.cons (o:={dst:=some 44,op:=_,type:=_,pos:=_,after:=_,guard:=_}) rfl (fun K F=>?_) Ax.nil)
  go_simp
  (refine(a7.out _).mono ?_);rintro e w9 ⟨rfl,a⟩;have A:=Ad m a;clear m hSn a;have m:=A;clear A;have hSn:=Ae R.out m
  refine Bq F (fun d=>?_);clear F K;refine Bj (rs:=[5]) Kr (by simp) ?_;refine(Ax.cons (o:={dst:=some 45,op:=_,type:=_,pos:=_,after:=_,guard:=_}) rfl (fun K F=>?_) Ax.nil)
  go_simp
  (refine(I.out s1 y z ar.out _ (aw.out.below m)).mono ?_);rintro e w9 ⟨s2,f,l,X,rfl,ax,ay,az,a⟩;have A:=Ad m a;clear m hSn a;have m:=A;clear A;have hSn:=Ae R.out m;have Y:=H6.out.step m
  refine Bq F (fun d=>?_);clear F K;refine Tl 6 [9] ?_;refine Tl 7 [9] ?_;refine Bv (i:=8) (oi:={dst:=some 47,op:=_,type:=_,pos:=_,after:=_,guard:=_}) (v:=?_) rfl Kr Kr Kr Kr (fun _ _ _ h=>h) (Or.inl ⟨by rfl,?_⟩) (fun _=>by assumption) ?_
  rotate_left
  ·intro u T;clear T;go_simp;(try with_reducible rfl)
  try simp only[Act.put,pS]
  refine Bj (rs:=[9]) Kr (by simp) ?_;refine(Ax.last (o:={dst:=none,op:=_,type:=_,pos:=_,after:=_,guard:=_}) rfl Kr (fun K F=>?_) Ax.nil);refine Ay (by rfl) ?_;refine sW (Aj s2 f) hSn ?_;have ag:=setRow_heap _ _ _ (Aj s2 f) _ _ hSn;have ah:=ax.other (t:=36) hSn (by decide) (by decide) (by decide) (Aj s2 f);have b0:=Y.under (M:=w.heap.size+2) (by simp) (E7 (g:=g9) (by omega) (show Below (w.heap.size+2) w9 w9 from⟨rfl,rfl,rfl,Nat.le_refl _,fun _ _=>rfl⟩) (Aj s2 f));refine F.out _ _ ?_;clear F K
  try simp only[Act.put]
  refine Bv (i:=10) (oi:={dst:=some 10,op:=_,type:=_,pos:=_,after:=_,guard:=_}) (v:=?_) rfl Kr Kr Kr Kr (fun _ _ _ h=>h) (Or.inl ⟨by rfl,?_⟩) (fun h=>absurd h (by decide)) ?_
  rotate_left
  ·intro u T;clear T;go_simp;(try with_reducible rfl)
  try simp only[Act.put,pS]
  refine Eo Kr ?_ _
  try clear d
  go_wp2_with fail;go_meet
  case rel=>exact⟨rfl,s2,f,l,X,ag,ah,ay,az,b0⟩
 case rest=>
  obtain⟨rfl,s2,f,l,X,ai,b1,b2,b3,aj⟩:=hcut;have H8:=Hq aj;have b4:=Hq ai;clear aj ai;have b5:=Hq (fun W=>Tg s p s2 f 0 (by decide) W)
  go_wp2_with(first
   |with_reducible refine lL H8.out.Ai Ar ?_
   |with_reducible refine lL b4.out Ar ?_
   |(go_at_call 63;refine(b5.out _).mono ?_;rintro e w9 ⟨he,a⟩;rw[if_pos rfl]at he;subst he;have Y:=Hq (H8.out.step a))
   |with_reducible refine lS (Aj s2 f) Y.out.Am ?_)
  refine rT2 () Y.out.Am Ar ?_;exact HQ.out s2 f l X _ ((b1.below a).other (t:=36) Y.out.Am (by decide) (by decide) (by decide) _) b2 b3 (Y.out.row 1 (Aj s2 f) _ rfl).below
theorem aE {N n k:Nat}{ids:List Int}{c:Int}(s:Tx.St)(p:SP)(fs:List Fr)(C:Nat→ByteArray)(D:SW N n k ids c s fs C)(t:Int)(b:ByteArray)(u:Nat→Nat){V:Nat→Nat×List ByteArray}(E:SI n C b u V)(pg:Nat)(q:pg<n)(P:1≤pg)(r:¬ 0<u pg)(w:World)(h:Ao w s p fs):
 Cr 13 #[Ag s p,t,.int .i64 (pg:Int)] w (.tuple #[Ag s p,.int .i64 21]):=by
 have Y:=D.ss.pi.n1;have Q:=Hq D.ss.pi.zp;have g:=Hq (fun W (R:Bw w W)=>Iw s p fs C D b u E W (h.below R));unfold Om at g;have F:=Hq (fun(j:Nat) (Z:j<n) W=>Hg b j (by rw[E.sz];omega) (by omega) W);have G:=Hq E.bt;have H:=Hq r;clear h D E r;go_enter Tryz.func13,Tryz.ntmps13;go_upto_region 1 with fail;have l:=Hp w (Aj s p) 36 #[(),(),(),'s',(),false,(),(),(),(),"",'s',(),'s',()] 36;obtain⟨W0,v⟩:=Ee l;rw[← v]at l ⊢;clear v
 go_upto_region 2 with(first
  |with_reducible refine lL l.out.Ai Ar ?_
  |(go_at_call 68;refine(g.out _ l.out.below).mono ?_;rintro e m ⟨s1,x,S,rfl,y,z,a⟩)
  |with_reducible refine sN (Aj s1 x) ?_)
 have A:=a.trans ((Ab m (.cells (Aj s1 x) 36)).mono a.size);have o:=Hq (l.out.step A);have I:=Hq (heap_alloc_new m (.cells (Aj s1 x) 36));have J:=Hq (y.below (Ab m (.cells (Aj s1 x) 36)));have T:=Hq z;have K:(w.heap.size+1)<m.heap.size:=Nat.lt_of_lt_of_le (l.out.lt (i:=1) (by simp)) a.size;obtain⟨g9,d⟩:=ex m.heap.size;obtain⟨U,f⟩:=ex (m.alloc (.cells (Aj s1 x) 36));rw[← d,← f]at I;rw[← f]at o J;rw[← f,← d];rw[← d]at K;clear f d a A l g y z
 try simp only[Act.put]
 have B:=Hq (fun W=>F.out pg q W);rw[G.out pg q,decide_eq_false H.out]at B;have X:=show U.cell? ⟨w.heap.size,1,none⟩=some (.int .i64 (n:Int))from by rw[Aa o.out.Ai,← Q.out];rfl
 have L:¬ (pg:Int)<1:=by omega
 have M:¬ (n:Int)≤(pg:Int):=by omega
 have O:(pg:Int)<(n:Int):=by omega
 go_wp2_with(first
  |(go_at_call 69;refine(B.out _).mono ?_;rintro e w6 ⟨rfl,rfl⟩)
  |with_reducible refine lL o.out.Ai Ar ?_
  |with_reducible refine lS (Aj s p) o.out.Am ?_)
 refine rT2 (.int .i64 21) o.out.Am Ar ?_;exact⟨rfl,(o.out.row 1 (Aj s p) _ rfl).below⟩
theorem dP {N n k:Nat}{ids:List Int}{c:Int}(s:Tx.St)(p:SP)(fs:List Fr)(C:Nat→ByteArray)(E:SW N n k ids c s fs C)(t:Int)(b:ByteArray)(u:Nat→Nat){V:Nat→Nat×List ByteArray}(F:SI n C b u V)(x:Int)(M:x<1∨(n:Int)≤x)(w:World)(h:Ao w s p fs):
 Cr 13 #[Ag s p,t,x] w (.tuple #[Ag s p,.int .i64 1]):=by
 have T:=E.ss.pi.n1;have O:=Hq E.ss.pi.zp;have o:=Hq (fun W (P:Bw w W)=>Iw s p fs C E b u F W (h.below P));unfold Om at o;have G:=Hq (fun(j:Nat) (U:j<n) W=>Hg b j (by rw[F.sz];omega) (by omega) W);have H:=Hq F.bt;clear h E F G H
 by_cases Q:x<1
 ·clear M
  go_enter Tryz.func13,Tryz.ntmps13;go_upto_region 1 with fail;have g:=Hp w (Aj s p) 36 #[(),(),(),'s',(),false,(),(),(),(),"",'s',(),'s',()] 36;obtain⟨R,q⟩:=Ee g;rw[← q]at g ⊢;clear q
  go_upto_region 2 with(first
   |with_reducible refine lL g.out.Ai Ar ?_
   |(go_at_call 68;refine(o.out _ g.out.below).mono ?_;rintro e l ⟨s1,r,I,rfl,v,y,a⟩)
   |with_reducible refine sN (Aj s1 r) ?_)
  have z:=a.trans ((Ab l (.cells (Aj s1 r) 36)).mono a.size);have m:=Hq (g.out.step z);have A:=Hq (heap_alloc_new l (.cells (Aj s1 r) 36));have B:=Hq (v.below (Ab l (.cells (Aj s1 r) 36)));have J:=Hq y;have D:(w.heap.size+1)<l.heap.size:=Nat.lt_of_lt_of_le (g.out.lt (i:=1) (by simp)) a.size;obtain⟨g9,d⟩:=ex l.heap.size;obtain⟨K,f⟩:=ex (l.alloc (.cells (Aj s1 r) 36));rw[← d,← f]at A;rw[← f]at m B;rw[← f,← d];rw[← d]at D;clear f d a z g o v y
  try simp only[Act.put]
  have L:=show K.cell? ⟨w.heap.size,1,none⟩=some (.int .i64 (n:Int))from by rw[Aa m.out.Ai,← O.out];rfl
  go_wp2_with(first
   |with_reducible refine lL m.out.Ai Ar ?_
   |with_reducible refine lS (Aj s p) m.out.Am ?_)
  refine rT2 (.int .i64 1) m.out.Am Ar ?_;exact⟨rfl,(m.out.row 1 (Aj s p) _ rfl).below⟩
 ·have S:(n:Int)≤x:=by omega
  clear M;go_enter Tryz.func13,Tryz.ntmps13;go_upto_region 1 with fail;have g:=Hp w (Aj s p) 36 #[(),(),(),'s',(),false,(),(),(),(),"",'s',(),'s',()] 36;obtain⟨R,q⟩:=Ee g;rw[← q]at g ⊢;clear q
  go_upto_region 2 with(first
   |with_reducible refine lL g.out.Ai Ar ?_
   |(go_at_call 68;refine(o.out _ g.out.below).mono ?_;rintro e l ⟨s1,r,I,rfl,v,y,a⟩)
   |with_reducible refine sN (Aj s1 r) ?_)
  have z:=a.trans ((Ab l (.cells (Aj s1 r) 36)).mono a.size);have m:=Hq (g.out.step z);have A:=Hq (heap_alloc_new l (.cells (Aj s1 r) 36));have B:=Hq (v.below (Ab l (.cells (Aj s1 r) 36)));have J:=Hq y;have D:(w.heap.size+1)<l.heap.size:=Nat.lt_of_lt_of_le (g.out.lt (i:=1) (by simp)) a.size;obtain⟨g9,d⟩:=ex l.heap.size;obtain⟨K,f⟩:=ex (l.alloc (.cells (Aj s1 r) 36));rw[← d,← f]at A;rw[← f]at m B;rw[← f,← d];rw[← d]at D;clear f d a z g o v y
  try simp only[Act.put]
  have L:=show K.cell? ⟨w.heap.size,1,none⟩=some (.int .i64 (n:Int))from by rw[Aa m.out.Ai,← O.out];rfl
  go_wp2_with(first
   |with_reducible refine lL m.out.Ai Ar ?_
   |with_reducible refine lS (Aj s p) m.out.Am ?_)
  refine rT2 (.int .i64 1) m.out.Am Ar ?_;exact⟨rfl,(m.out.row 1 (Aj s p) _ rfl).below⟩
def fP (N n k:Nat)(ids:List Int)(c:Int)(C:Nat→ByteArray)(l:List Int)(w:World)(e:Ending)(w':World):Prop:=
 ∃ (s':Tx.St) (q:SP) (fs':List Fr) (v:Value),e= .returned (.tuple #[Ag s' q,v,()])∧Ao w' s' q fs'∧SW N n k ids c s' fs' C∧En Kg 1 3 w.heap.size w' v l∧Bw w w'
theorem kI {N n k:Nat}{ids:List Int}{c:Int}(s:Tx.St)(p:SP)(fs:List Fr)(C:Nat→ByteArray)(T:SW N n k ids c s fs C)(b:ByteArray)(u:Nat→Nat){V:Nat→Nat×List ByteArray}(U:SI n C b u V)(w:World)(h:Ao w s p fs):
 Cq 17 #[Ag s p] w (fP N n k ids c C (Ed u n) w):=by
 have hn:=T.ss.pi.n1;have HZ:=Hq T.ss.pi.zp;have z:=Hq (fun W (hb:Bw w W)=>Iw s p fs C T b u U W (h.below hb));unfold Om at z;have Y:=Hq (fun(j:Nat) (hj:j<n) W=>Hg b j (by rw[U.sz];omega) (by omega) W);have H:=Hq U.bt;have HQ:=Hq (fun(s':Tx.St) (q:SP) (Z:List Fr) (v:Value) w' h1 h2 h3 h4=>show fP N n k ids c C (Ed u n) w (.returned (.tuple #[Ag s' q,v,()])) w' from⟨s',q,Z,v,rfl,h1,h2,h3,h4⟩);generalize fP N n k ids c C (Ed u n) w=Q at HQ ⊢;clear h T U;go_enter Tryz.func17,Tryz.ntmps17;go_upto_region 1 with fail;have B:=Hp w (Aj s p) 36 #[(),(),(),'s',(),false,(),(),(),(),"",'s',(),'s',()] 36;obtain⟨W0,I⟩:=Ee B;rw[← I]at B ⊢;clear I
 go_upto_region 4 with(first
  |with_reducible refine lL B.out.Ai Ar ?_
  |(go_at_call 68;refine(z.out _ B.out.below).mono ?_;rintro e G ⟨s1,y,a1,rfl,J,K,g⟩)
  |with_reducible refine sN (Aj s1 y) ?_)
 have L:=g.trans ((Ab G (.cells (Aj s1 y) 36)).mono g.size);have M:=Hq (B.out.step L);have D:=Hq (heap_alloc_new G (.cells (Aj s1 y) 36));have O:=Hq (J.below (Ab G (.cells (Aj s1 y) 36)));have a6:=Hq K;have a7:(w.heap.size+1)<G.heap.size:=Nat.lt_of_lt_of_le (B.out.lt (i:=1) (by simp)) g.size;obtain⟨g9,l⟩:=ex G.heap.size;obtain⟨P,m⟩:=ex (G.alloc (.cells (Aj s1 y) 36));rw[← l,← m]at D;rw[← m]at M O;rw[← m,← l];rw[← l]at a7;clear m l g L B z J K
 try simp only[Act.put]
 have aj:g9<P.heap.size:=By D.out;have R:=show P.cell? ⟨w.heap.size,1,none⟩=some (.int .i64 (n:Int))from by rw[Aa M.out.Ai,← HZ.out];rfl
 have a8:=Hq M.out.below;go_wp2_with fail;clear R
 go_loopw [8,9] (fun vv x wq=>∃ j:Nat,j≤n∧x= .int .i64 (j:Int)∧En Kg 1 3 P.heap.size wq vv (Ed u j)∧Bw P wq) (fun _ x _=>n-(intOf x).toNat)
 case atStart=>exact⟨0,Nat.zero_le _,rfl,Q5 _ _ _ _,Below.refl _ _⟩
 case round=>
  obtain⟨S,rfl⟩:=ex wr;obtain⟨j,hj,rfl,f,a⟩:=hrel;have R:=show S.cell? ⟨w.heap.size,1,none⟩=some (.int .i64 (n:Int))from(by rw[Aa (M.out.step a).Ai,← HZ.out];rfl);have o:=Hq a;have E:=Hq f
  by_cases F:j<n
  ·have aa:(j:Int)<(n:Int):=by omega
   have ak:IntKind.i64.wrap ((j:Int)+1)=(j:Int)+1:=IntWalk.i64_in _ (by omega);have r:=Hq (fun W=>Y.out j F W);have an:=Pe u j;obtain⟨A,ca,rfl,-⟩:=En.form f;clear a f
   by_cases d:0<u j
   ·rw[H.out j F,decide_eq_true d]at r
    have ad:=Hq (Up d);clear d
    go_wp2_with(first
     |(go_at_call 69;refine(r.out _).mono ?_;rintro e w7 ⟨rfl,rfl⟩)
     |(at_builtin;refine Jc Kr (.tmp 33) (.tmp 35) 47 3 uH Z8 rfl (by omega) (by omega) rfl P.heap.size _ (Ed u j).length ((Ed u j).flatMap Kg) rfl (Db E.out (Ab _ _)) S.heap.size (Kg (j:Int)) 3 rfl (heap_alloc_new S _) rfl (by simp[Kg,Value.oneCell']) (by omega) (Nat.le_trans o.out.size (Ab S _).size) ?_;intro v7 w7 ae ao af))
    go_roundw
    case rel=>exact⟨j+1,by omega,by go_num,by rw[ad.out];exact En.push (enc:=Kg) ae,o.out.trans (((Ab S _).mono o.out.size).trans af)⟩
    case measure=>simp[intOf];omega
   ·rw[H.out j F,decide_eq_false d]at r
    have ag:=Hq (Zi d);clear d
    go_wp2_with(go_at_call 69;refine(r.out _).mono ?_;rintro e w7 ⟨rfl,rfl⟩)
    go_roundw
    case rel=>exact⟨j+1,by omega,by go_num,by rw[ag.out];exact E.out,o.out⟩
    case measure=>simp[intOf];omega
  ·obtain rfl:j=n:=by omega
   have aa:¬ (j:Int)<(j:Int):=(by omega);have X:=Hq (M.out.step a);have ah:=Hq (Ae D.out a);have ai:=Hq (O.out.below a);obtain⟨A,ca,rfl,-⟩:=En.form f;clear a f
   go_wp2_with(first
    |with_reducible refine lL ah.out Ar ?_
    |with_reducible refine lS (Aj s1 y) X.out.Am ?_)
   refine rT3 (.slice A (Ed u j).length ca) () X.out.Am Ar ?_;exact HQ.out s1 y a1 _ _ (ai.out.other (t:=36) X.out.Am (by decide) (by decide) (by decide) _) a6.out (Nn (Ew E.out _ _ (by omega)) a8.out.size) (X.out.row 1 (Aj s1 y) _ rfl).below
end Go.Proofs.YtmldoihahndcgaaGreatDoor
