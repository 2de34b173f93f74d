import Derived.Test.YtpogpkonojhakaaGreatDoorHk00
import Derived.Test.YtpogpkonojhakaaGreatDoorHk28
import Derived.Test.YtpogpkonojhakaaGreatDoorHk29
set_option maxRecDepth 100000
set_option maxHeartbeats 16000000
set_option linter.unusedSimpArgs false
namespace Go.Proofs.YtpogpkonojhakaaGreatDoor
open Go.RowKit Sc
def uD (R:Tx.St→List Fr→Prop)(y:Int)(rec:ByteArray)(s:Tx.St)(p:SP)(fs:List Fr)(w:World)(e:Ending)(w':World):Prop:=
 (y=0∧∃ (s':Tx.St) (q:SP) (fs':List Fr),e= .returned (.tuple #[Ah s' q,rec,()])∧Am w' s' q fs'∧R s' fs'∧Bw w w')∨
 (y≠0∧e= .returned (.tuple #[Ah s p,"",y])∧Am w' s p fs∧Bw w w')
theorem uE (s:Tx.St)(p:SP)(fs:List Fr)(pg sl:Int)(P rec:ByteArray)(ok:Bool)(k:Int)(U:k≠20)(R:Tx.St→List Fr→Prop)(w:World)(h:Am w s p fs)
 (b:∀ W,Bw w W→Cq 39 #[Ah s p,pg] W fun e w'=>∃ (s1:Tx.St) (q1:SP) (fs1:List Fr),e= .returned (.tuple #[Ah s1 q1,P,k])∧Am w' s1 q1 fs1∧R s1 fs1∧Bw W w')
 (v:∀ W,Cr 43 #[P,sl] W (.tuple #[rec,ok])):
 Cq 14 #[Ah s p,.agg #[pg,sl]] w (uD R (if k=0 then(if ok=true then 0 else 21)else k) rec s p fs w):=by
 have x:=Hq b;have z:=Hq v;have S:=Hq h;obtain⟨y,a⟩:=ex (if k=0 then(if ok=true then(0:Int)else 21)else k);rw[← a];have F:=Hq (fun(H:y=0) (T:Tx.St) (q:SP) (I:List Fr) w' J K V=>show uD R y rec s p fs w (.returned (.tuple #[Ah T q,rec,()])) w' from .inl ⟨H,T,q,I,rfl,J,K,V⟩);have c:=Hq (fun(H:y≠0) w' J K=>show uD R y rec s p fs w (.returned (.tuple #[Ah s p,"",y])) w' from .inr ⟨H,rfl,J,K⟩);generalize uD R y rec s p fs w=Q at F c ⊢;clear h b v;go_enter Tryz.func14,Tryz.ntmps14;go_upto_region 1 with fail;have l:=Nr w (Ak s p) 36 #[pg,sl] 43 #[(),(),(),'s',(),false,(),(),(),(),"",'s',(),'s',()] 36;obtain⟨X,A⟩:=E2 l;rw[← A]at l ⊢;clear A;have L:=show X.cell? ⟨w.heap.size+1,0,none⟩=some (.int .i64 pg)from by rw[Aa l.out.Ar];rfl
 go_upto_region 2 with(first
  |with_reducible refine lL l.out.An Aq ?_
  |(go_at_call 39;refine(x.out _ l.out.below).mono ?_;rintro e B ⟨s1,q1,fs1,rfl,C,D,E⟩)
  |with_reducible refine sN (Ak s1 q1) ?_)
 have H1:=Hq (l.out.step (Af E (Ac B (.cells (Ak s1 q1) 36))));have m:=Hq (heap_alloc_new B (.cells (Ak s1 q1) 36));have n:=Hq (C.below (Ac B (.cells (Ak s1 q1) 36)));have M:=Hq D;obtain⟨g7,b⟩:=ex B.heap.size;obtain⟨v1,g⟩:=ex (B.alloc (.cells (Ak s1 q1) 36));rw[← b,← g]at m;rw[← g]at H1 n;rw[← g,← b];clear g b E C D L l x
 try simp only[Act.put]
 have N:=show v1.cell? ⟨w.heap.size+1,1,none⟩=some (.int .i64 sl)from by rw[Aa H1.out.Ar];rfl
 go_upto_region 3 with(go_at_call 43;refine(z.out _).mono ?_;rintro e w2 ⟨rfl,i⟩)
 have j:=Hq (H1.out.step i);have o:=Hq (Ag m.out i);have O:=Hq (n.out.below i);clear H1 m n i N z
 by_cases r:k=0
 ·rw[if_pos r]at a
  subst r
  cases ok with
  |true=>
   rw[if_pos rfl]at a;have Y:=Hq (F.out a);clear a c
   go_wp2_with(first
    |with_reducible refine lL o.out Aq ?_
    |with_reducible refine lS (Ak s1 q1) j.out.Bj ?_)
   refine rT3 rec () j.out.Bj Aq ?_;exact Y.out s1 q1 fs1 _ (O.out.other (t:=36) j.out.Bj (by decide) (by decide) (by decide) _) M.out (j.out.row 2 (Ak s1 q1) _ rfl).below
  |false=>
   rw[if_neg (by decide)]at a;have G:=Hq (c.out (by rw[a];decide));rw[a]at G;clear a c F;have d:=Hq (fun W=>Ht s p s1 q1 21 (by decide) W);rw[if_neg (show ¬ (21:Int)=0 by decide)]at d
   go_wp2_with(first
    |with_reducible refine lL j.out.An Aq ?_
    |with_reducible refine lL o.out Aq ?_
    |(go_at_call 38;refine(d.out _).mono ?_;rintro e Z ⟨rfl,u⟩;have f:=Hq (j.out.step u))
    |with_reducible refine lS (Ak s p) f.out.Bj ?_)
   refine rT3 "" (.int .i64 21) f.out.Bj Aq ?_;exact G.out _ ((S.out.below f.out.below).other (t:=36) f.out.Bj (by decide) (by decide) (by decide) _) (f.out.row 2 (Ak s p) _ rfl).below
 ·rw[if_neg r]at a
  subst a;have G:=Hq (c.out r);have a1:(y==0)=false:=beq_eq_false_iff_ne.2 r;have a6:(y != 0)=true:=bne_iff_ne.2 r;clear c F;have d:=Hq (fun W=>Ht s p s1 q1 y U W);rw[if_neg r]at d
  go_wp2_with(first
   |with_reducible refine lL j.out.An Aq ?_
   |with_reducible refine lL o.out Aq ?_
   |(go_at_call 38;refine(d.out _).mono ?_;rintro e Z ⟨rfl,u⟩;have f:=Hq (j.out.step u))
   |with_reducible refine lS (Ak s p) f.out.Bj ?_)
  refine rT3 "" y f.out.Bj Aq ?_;exact G.out _ ((S.out.below f.out.below).other (t:=36) f.out.Bj (by decide) (by decide) (by decide) _) (f.out.row 2 (Ak s p) _ rfl).below
def nD (R:Tx.St→List Fr→Prop)(y:Int)(s:Tx.St)(p:SP)(fs:List Fr)(w:World)(e:Ending)(w':World):Prop:=
 (y=0∧∃ (s':Tx.St) (q:SP) (fs':List Fr),e= .returned (.tuple #[Ah s' q,()])∧Am w' s' q fs'∧R s' fs'∧Bw w w')∨
 (y≠0∧e= .returned (.tuple #[Ah s p,y])∧Am w' s p fs∧Bw w w')
theorem rG (s:Tx.St)(p:SP)(fs:List Fr)(t pg sl:Int)(rec:ByteArray)(y:Int)(B:y≠20)(R C:Tx.St→List Fr→Prop)(w:World)(h:Am w s p fs)
 (D:∀ W,Bw w W→Cq 14 #[Ah s p,.agg #[pg,sl]] W (uD R y rec s p fs W))
 (E:∀ s1 q1 fs1,R s1 fs1→∀ W,Bw w W→Am W s1 q1 fs1→Cq 37 #[Ah s1 q1,t,pg,.agg #[.int .i64 2,sl,rec,""]] W (nC (fun s2 fs2 z=>z=0∧C s2 fs2) W)):
 Cq 12 #[Ah s p,t,.agg #[pg,sl]] w (nD C y s p fs w):=by
 have n:=Hq D;have o:=Hq E;unfold uD at n;unfold nC at o;have HZ:=Hq h;have L:=Hq (fun(O:y=0) (s':Tx.St) (q:SP) (P:List Fr) w' S T h3=>show nD C y s p fs w (.returned (.tuple #[Ah s' q,()])) w' from .inl ⟨O,s',q,P,rfl,S,T,h3⟩);have N:=Hq (fun(O:y≠0) w' S T=>show nD C y s p fs w (.returned (.tuple #[Ah s p,y])) w' from .inr ⟨O,rfl,S,T⟩);generalize nD C y s p fs w=Q at L N ⊢;clear h D E;go_enter Tryz.func12,Tryz.ntmps12;go_upto_region 1 with fail;have m:=Nr w (Ak s p) 36 #[pg,sl] 43 #[(),(),(),'s',(),false,(),(),(),(),"",'s',(),'s',()] 36;obtain⟨W0,F⟩:=E2 m;rw[← F]at m ⊢;clear F
 go_upto_region 2 with(first
  |with_reducible refine lL m.out.An Aq ?_
  |with_reducible refine lL m.out.Ar Od ?_
  |(go_at_call 14;refine(n.out _ m.out.below).mono ?_;rintro e g (⟨A,s1,q1,fs1,rfl,j,G,d⟩|⟨A,rfl,j,d⟩))
  |with_reducible refine sN (Ak s1 q1) ?_
  |with_reducible refine sN (Ak s p) ?_)
 ·have H1:=Hq (m.out.step (Af d (Ac g (.cells (Ak s1 q1) 36))))
  have c:=Hq (heap_alloc_new g (.cells (Ak s1 q1) 36));have f:=Hq (j.below (Ac g (.cells (Ak s1 q1) 36)));have HC:=Hq (fun W hp=>o.out s1 q1 fs1 G W hp);have HY:=Hq (L.out A);obtain⟨g8,b⟩:=ex g.heap.size;obtain⟨v1,a⟩:=ex (g.alloc (.cells (Ak s1 q1) 36));have U:w.heap.size+2<g.heap.size:=m.out.step d|>.lt (i:=2) (by simp)
  rw[← b,← a]at c;rw[← a]at H1 f;rw[← a,← b];rw[← b]at U;subst A;clear a b d j G m n o L N
  try simp only[Act.put]
  have V:=show v1.cell? ⟨w.heap.size+1,0,none⟩=some (.int .i64 pg)from(by rw[Aa H1.out.Ar];rfl);have X:=show v1.cell? ⟨w.heap.size+1,1,none⟩=some (.int .i64 sl)from by rw[Aa H1.out.Ar];rfl
  go_upto_region 4 with(first
   |with_reducible refine lL c.out Aq ?_
   |(go_at_call 37;refine(HC.out _ H1.out.below f.out).mono ?_;rintro e w2 ⟨s2,r,fs2,z,rfl,H,⟨rfl,I⟩,x⟩;have u:=Ag c.out x)
   |with_reducible refine lS (Ak s2 r) u ?_)
  have Y:=Hq ((H1.out.step x).under (M:=g8) (by simp;omega) (Fu (Nat.le_refl _) (Below.refl g8 w2) (Ak s2 r)));have J:=Hq (setRow_heap _ _ _ (Ak s2 r) _ _ u);have K:=Hq (H.other (t:=36) u (by decide) (by decide) (by decide) (Ak s2 r));have Z:=Hq I;generalize w2.setRow g8 (Ak s2 r)=v2 at Y J K ⊢;clear V X x H I u H1 c f HC
  try simp only[Act.put]
  have k:=Hq (fun W=>Ht s p s2 r 0 (by decide) W);rw[if_pos rfl]at k
  go_wp2_with(first
   |with_reducible refine lL Y.out.An Aq ?_
   |with_reducible refine lL J.out Aq ?_
   |(go_at_call 38;refine(k.out _).mono ?_;rintro e w8 ⟨rfl,l⟩;have v:=Hq (Y.out.step l))
   |with_reducible refine lS (Ak s2 r) v.out.Bj ?_)
  refine rT2 () v.out.Bj Aq ?_;exact HY.out s2 r fs2 _ ((K.out.below l).other (t:=36) v.out.Bj (by decide) (by decide) (by decide) _) Z.out (v.out.row 2 (Ak s2 r) _ rfl).below
 ·have H1:=Hq (m.out.step (Af d (Ac g (.cells (Ak s p) 36))))
  have c:=Hq (heap_alloc_new g (.cells (Ak s p) 36));have f:=Hq (j.below (Ac g (.cells (Ak s p) 36)));obtain⟨g8,b⟩:=ex g.heap.size;obtain⟨v1,a⟩:=ex (g.alloc (.cells (Ak s p) 36));rw[← b,← a]at c;rw[← a]at H1 f;rw[← a,← b];have a1:(y==0)=false:=beq_eq_false_iff_ne.2 A;have HX:=Hq (N.out A);clear a b d j m n o L N
  try simp only[Act.put]
  have k:=Hq (fun W=>Ht s p s p y B W);rw[if_neg A]at k
  go_wp2_with(first
   |with_reducible refine lL H1.out.An Aq ?_
   |with_reducible refine lL c.out Aq ?_
   |(go_at_call 38;refine(k.out _).mono ?_;rintro e w8 ⟨rfl,l⟩;have v:=Hq (H1.out.step l))
   |with_reducible refine lS (Ak s p) v.out.Bj ?_)
  refine rT2 y v.out.Bj Aq ?_;exact HX.out _ ((f.out.below l).other (t:=36) v.out.Bj (by decide) (by decide) (by decide) _) (v.out.row 2 (Ak s p) _ rfl).below
theorem rH (s:Tx.St)(p:SP)(fs:List Fr)(t pg sl:Int)(rec:ByteArray)(c:¬ (1≤rec.size∧rec.size≤400))(d:Tx.St→List Fr→Prop)(w:World)(h:Am w s p fs):
 Cq 11 #[Ah s p,t,.agg #[pg,sl],rec] w (nD d 1 s p fs w):=by
 have a:=Hq (fun W=>Ph rec W);rw[decide_eq_false c]at a;have j:=Hq h;have i:=Hq (fun w' k l=>show nD d 1 s p fs w (.returned (.tuple #[Ah s p,.int .i64 1])) w' from .inr ⟨by decide,rfl,k,l⟩);generalize nD d 1 s p fs w=Q at i ⊢;clear h;go_enter Tryz.func11,Tryz.ntmps11;go_upto_region 1 with fail;have f:=Nr w (Ak s p) 36 #[pg,sl] 43 #[(),(),(),'s',(),false,(),(),(),(),"",'s',(),'s',()] 36;obtain⟨m,b⟩:=E2 f;rw[← b]at f ⊢;clear b
 go_wp2_with(first
  |(go_at_call 31;refine(a.out _).mono ?_;rintro e n ⟨rfl,g⟩;have H1:=Hq (f.out.step g))
  |with_reducible refine lL H1.out.An Aq ?_
  |with_reducible refine lS (Ak s p) H1.out.Bj ?_)
 refine rT2 (.int .i64 1) H1.out.Bj Aq ?_;exact i.out _ ((j.out.below H1.out.below).other (t:=36) H1.out.Bj (by decide) (by decide) (by decide) _) (H1.out.row 2 (Ak s p) _ rfl).below
theorem rI (s:Tx.St)(p:SP)(fs:List Fr)(t pg sl:Int)(rec:ByteArray)(ak:1≤rec.size∧rec.size≤400)(By cp qb:ByteArray)(y c:Int)(al:c≠20)(R Y:Tx.St→List Fr→Prop)(w:World)(h:Am w s p fs)
 (a1:∀ W,Bw w W→Cq 14 #[Ah s p,.agg #[pg,sl]] W (uD R y By s p fs W))
 (a:∀ s1 q1 fs1,R s1 fs1→∀ W,Am W s1 q1 fs1→Cq 39 #[Ah s1 q1,pg] W fun e w'=>∃ (s2:Tx.St) (q2:SP) (fs2:List Fr),e= .returned (.tuple #[Ah s2 q2,cp,()])∧Am w' s2 q2 fs2∧R s2 fs2∧Bw W w')
 (a6:∀ W,Cr 40 #[cp,sl,rec] W (.tuple #[qb,c]))
 (a7:c=0→∀ s1 q1 fs1,R s1 fs1→∀ W,Bw w W→Am W s1 q1 fs1→Cq 37 #[Ah s1 q1,t,pg,.agg #[.int .i64 3,sl,By,rec]] W (nC (fun s2 fs2 z=>z=0∧Y s2 fs2) W)):
 Cq 11 #[Ah s p,t,.agg #[pg,sl],rec] w (nD Y (if y=0 then c else y) s p fs w):=by
 have u:=Hq (fun W=>Ph rec W);rw[decide_eq_true ak]at u;have v:=Hq a1;have H:=Hq a;have I:=Hq a6;have j:=Hq a7;unfold uD at v;unfold nC at j;have HZ:=Hq h;have HQ:=Hq (fun(G:y=0) (n:c=0) (s':Tx.St) (q:SP) (an:List Fr) w' h1 h2 ao=>show nD Y (if y=0 then c else y) s p fs w (.returned (.tuple #[Ah s' q,()])) w' from .inl ⟨by rw[if_pos G,n],s',q,an,rfl,h1,h2,ao⟩);have HE:=Hq (fun(G:y≠0) w' h1 h2=>show nD Y (if y=0 then c else y) s p fs w (.returned (.tuple #[Ah s p,y])) w' from .inr ⟨by rw[if_neg G];exact G,by rw[if_neg G],h1,h2⟩);have HF:=Hq (fun(G:y=0) (n:c≠0) w' h1 h2=>show nD Y (if y=0 then c else y) s p fs w (.returned (.tuple #[Ah s p,c])) w' from .inr ⟨by rw[if_pos G];exact n,by rw[if_pos G],h1,h2⟩);generalize nD Y (if y=0 then c else y) s p fs w=Q at HQ HE HF ⊢;clear h a1 a a6 a7;go_enter Tryz.func11,Tryz.ntmps11;go_upto_region 1 with fail;have H0:=Nr w (Ak s p) 36 #[pg,sl] 43 #[(),(),(),'s',(),false,(),(),(),(),"",'s',(),'s',()] 36;obtain⟨W0,a8⟩:=E2 H0;rw[← a8]at H0 ⊢;clear a8
 go_upto_region 4 with(first
  |(go_at_call 31;refine(u.out _).mono ?_;rintro e w1 ⟨rfl,J⟩;have H1:=Hq (H0.out.step J))
  |with_reducible refine lL H1.out.An Aq ?_
  |with_reducible refine lL H1.out.Ar Od ?_
  |(go_at_call 14;refine(v.out _ H1.out.below).mono ?_;rintro e k (⟨Z,s1,q1,fs1,rfl,l,aa,f⟩|⟨Z,rfl,l,f⟩))
  |with_reducible refine sN (Ak s1 q1) ?_
  |with_reducible refine sN (Ak s p) ?_)
 ·have o:=Hq (H1.out.step (Af f (Ac k (.cells (Ak s1 q1) 36))))
  have d:=Hq (heap_alloc_new k (.cells (Ak s1 q1) 36));have g:=Hq (l.below (Ac k (.cells (Ak s1 q1) 36)));have HC:=Hq (fun W hp=>H.out s1 q1 fs1 aa W hp);have HY:=Hq (HQ.out Z);have K:=Hq (HF.out Z);have aq:w.heap.size+2<k.heap.size:=H1.out.step f|>.lt (i:=2) (by simp)
  obtain⟨g10,a⟩:=ex k.heap.size;obtain⟨v2,b⟩:=ex (k.alloc (.cells (Ak s1 q1) 36));rw[← a,← b]at d;rw[← b]at o g;rw[← b,← a];rw[← a]at aq;subst Z;clear b a J f l aa H0 H1 v H HQ HE HF u
  try simp only[Act.put]
  have L:=show v2.cell? ⟨w.heap.size+1,0,none⟩=some (.int .i64 pg)from by rw[Aa o.out.Ar];rfl
  go_upto_region 7 with(first
   |with_reducible refine lL d.out Aq ?_
   |(go_at_call 39;refine(HC.out _ g.out).mono ?_;rintro e w3 ⟨N,O,ar,rfl,ad,ae,P⟩;have x:=Ag d.out P)
   |with_reducible refine lS (Ak N O) x ?_)
  have H3:=Hq ((o.out.step P).under (M:=g10) (by simp;omega) (Fu (Nat.le_refl _) (Below.refl g10 w3) (Ak N O)));have S:=Hq (setRow_heap _ _ _ (Ak N O) _ _ x);have T:=Hq (ad.other (t:=36) x (by decide) (by decide) (by decide) (Ak N O));have au:=Hq ae;generalize w3.setRow g10 (Ak N O)=v3 at H3 S T ⊢;clear L P ad ae x o d g HC
  try simp only[Act.put]
  have U:=show v3.cell? ⟨w.heap.size+1,1,none⟩=some (.int .i64 sl)from by rw[Aa H3.out.Ar];rfl
  go_upto_region 9 with(go_at_call 40;refine(I.out _).mono ?_;rintro e w4 ⟨rfl,A⟩)
  have V:=Hq (H3.out.step A);have B:=Hq (Ag S.out A);have af:=Hq (T.out.below A);clear U A H3 S T I
  by_cases n:c=0
  ·have av:=Hq (HY.out n)
   have HC:=Hq (fun W hp=>j.out n N O ar au.out W hp);subst n;clear HY K j;have L:=show w4.cell? ⟨w.heap.size+1,0,none⟩=some (.int .i64 pg)from(by rw[Aa V.out.Ar];rfl);have U:=show w4.cell? ⟨w.heap.size+1,1,none⟩=some (.int .i64 sl)from by rw[Aa V.out.Ar];rfl
   go_upto_region 11 with(first
    |with_reducible refine lL B.out Aq ?_
    |(go_at_call 37;refine(HC.out _ V.out.below af.out).mono ?_;rintro e w5 ⟨C,D,aw,z,rfl,ag,⟨rfl,ah⟩,X⟩;have E:=Ag B.out X)
    |with_reducible refine lS (Ak C D) E ?_)
   have H5:=Hq ((V.out.step X).under (M:=g10) (by simp;omega) (Fu (Nat.le_refl _) (Below.refl g10 w5) (Ak C D)));have ai:=Hq (setRow_heap _ _ _ (Ak C D) _ _ E);have aj:=Hq (ag.other (t:=36) E (by decide) (by decide) (by decide) (Ak C D));have ax:=Hq ah;generalize w5.setRow g10 (Ak C D)=v5 at H5 ai aj ⊢;clear L U X ag ah E V B af HC
   try simp only[Act.put]
   have m:=Hq (fun W=>Ht s p C D 0 (by decide) W);rw[if_pos rfl]at m
   go_wp2_with(first
    |with_reducible refine lL H5.out.An Aq ?_
    |with_reducible refine lL ai.out Aq ?_
    |(go_at_call 38;refine(m.out _).mono ?_;rintro e w8 ⟨rfl,F⟩;have r:=Hq (H5.out.step F))
    |with_reducible refine lS (Ak C D) r.out.Bj ?_)
   refine rT2 () r.out.Bj Aq ?_;exact av.out C D aw _ ((aj.out.below F).other (t:=36) r.out.Bj (by decide) (by decide) (by decide) _) ax.out (r.out.row 2 (Ak C D) _ rfl).below
  ·have ay:(c==0)=false:=beq_eq_false_iff_ne.2 n
   have HX:=Hq (K.out n);clear HY K j;have m:=Hq (fun W=>Ht s p N O c al W);rw[if_neg n]at m
   go_wp2_with(first
    |with_reducible refine lL V.out.An Aq ?_
    |with_reducible refine lL B.out Aq ?_
    |(go_at_call 38;refine(m.out _).mono ?_;rintro e w8 ⟨rfl,F⟩;have r:=Hq (V.out.step F))
    |with_reducible refine lS (Ak s p) r.out.Bj ?_)
   refine rT2 c r.out.Bj Aq ?_;exact HX.out _ ((HZ.out.below r.out.below).other (t:=36) r.out.Bj (by decide) (by decide) (by decide) _) (r.out.row 2 (Ak s p) _ rfl).below
 ·have o:=Hq (H1.out.step (Af f (Ac k (.cells (Ak s p) 36))))
  have d:=Hq (heap_alloc_new k (.cells (Ak s p) 36));have g:=Hq (l.below (Ac k (.cells (Ak s p) 36)));obtain⟨g10,a⟩:=ex k.heap.size;obtain⟨v2,b⟩:=ex (k.alloc (.cells (Ak s p) 36));rw[← a,← b]at d;rw[← b]at o g;rw[← b,← a];have az:(y != 0)=true:=bne_iff_ne.2 Z;have HX:=Hq (HE.out Z);clear b a J f l H0 H1 v H I j HQ HE HF u
  try simp only[Act.put]
  go_wp2_with(first
   |with_reducible refine lL d.out Aq ?_
   |with_reducible refine lS (Ak s p) o.out.Bj ?_)
  refine rT2 y o.out.Bj Aq ?_;exact HX.out _ (g.out.other (t:=36) o.out.Bj (by decide) (by decide) (by decide) _) (o.out.row 2 (Ak s p) _ rfl).below
theorem Cl.grown {B:Nat}{w w':World}{e:TypeId}{size n:Nat}{v:Value}{xs:List Value}(d:w.ownsRow B e size v n xs)(j:loose e=true)(b:e≠9)(g:w.grownBy w' v.ownBlock)(l:Below B w w'):Cl B w w':=by
 refine⟨l,fun k cs t f a i o=>?_,fun k cs f a=>⟨cs,?_,fun _ _ _ h=>h⟩⟩
 ·exact(g.block k (Bt a) (fun c=>Gj d a (fun m=>by rw[← m,j]at i;cases i) c.symm)).trans a
 ·exact(g.block k (Bt a) (fun c=>Gj d a b c.symm)).trans a
theorem Lr {w:World}{B g size n:Nat}{e t:TypeId}{v:Value}{xs:List Value}{cs cs':Array Value}{fr:Nat×Nat}(h:w.ownsRow B e size v n xs)(d:w.heap[g]? =some (.cells cs t fr))(b:e≠t):(w.setRow g cs').ownsRow B e size v n xs:=by
 refine⟨h.1,?_⟩;rcases h.2 with f|⟨k,cap,cur,i,c,a,r⟩
 ·exact .inl f
 ·refine .inr ⟨k,cap,cur,i,c,(Ad _ _ _ _ (fun j=>?_)).trans a,r⟩
  rw[j,d]at a;injection a with a;injection a with _ a;exact b a.symm
theorem Rg (s:Tx.St)(p:SP)(fs:List Fr)(t r:Int)(rec:ByteArray)(f:¬ (1≤rec.size∧rec.size≤400))(w:World)(h:Am w s p fs):
 Cq 10 #[Ah s p,t,r,rec] w fun e w'=>e= .returned (.tuple #[Ah s p,.agg #[(),()],.int .i64 1])∧Am w' s p fs∧Bw w w':=by
 have a:=Hq (fun W=>Ph rec W);rw[decide_eq_false f]at a;have k:=Hq h;have j:=Hq (fun w' (l:Am w' s p fs) (m:Bw w w')=>show(fun(e:Ending) (w':World)=>e= .returned (.tuple #[Ah s p,.agg #[(),()],.int .i64 1])∧Am w' s p fs∧Bw w w') (.returned (.tuple #[Ah s p,.agg #[(),()],.int .i64 1])) w' from⟨rfl,l,m⟩);generalize (fun(e:Ending) (w':World)=>e= .returned (.tuple #[Ah s p,.agg #[(),()],.int .i64 1])∧Am w' s p fs∧Bw w w')=Q at j ⊢;clear h;go_enter Tryz.func10,Tryz.ntmps10;go_upto_region 1 with fail;have d:=yN w (Ak s p) 36 #[rec] 9 #[(),(),(),'s',(),false,(),(),(),(),"",'s',(),'s',()] 36 #[(),()] 43;obtain⟨n,b⟩:=E2 d;rw[← b]at d ⊢;clear b;have o:=show n.cell? ⟨w.heap.size+1,0,none⟩=some (.string rec)from by rw[Aa d.out.Ar];rfl
 go_wp2_with(first
  |(go_at_call 31;refine(a.out _).mono ?_;rintro e q ⟨rfl,g⟩;have H1:=Hq (d.out.step g))
  |with_reducible refine lL H1.out.An Aq ?_
  |with_reducible refine lS (Ak s p) H1.out.Bj ?_
  |(with_reducible refine lS #[(),()] ((Ad _ _ _ _ (by omega)).trans H1.out.xJ) ?_))
 have c:=(Ad q _ (Ak s p) _ (show w.heap.size+3≠w.heap.size+2 by omega)).trans H1.out.xJ;have i:=setRow_heap _ _ _ (Ak s p) _ _ H1.out.Bj;refine bodyPost_ret (v:=.tuple #[.agg (Ak s p),.agg #[(),()],.int .i64 1]) (Ex rfl _ _ rfl rfl (Ch ((Ad _ _ _ _ (show w.heap.size+2≠w.heap.size+3 by omega)).trans i) Aq Kr Kr) (Ch (setRow_heap _ _ _ _ _ _ c) Od Kr Kr) rfl) rfl ?_;exact j.out _ (((k.out.below H1.out.below).other (t:=36) H1.out.Bj (by decide) (by decide) (by decide) _).other (t:=43) c (by decide) (by decide) (by decide) _) (Fu (by omega) (Fu (by omega) H1.out.below _) _)
end Go.Proofs.YtpogpkonojhakaaGreatDoor
