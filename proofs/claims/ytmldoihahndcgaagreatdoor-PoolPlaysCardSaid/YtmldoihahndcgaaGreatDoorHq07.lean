import Derived.Test.YtmldoihahndcgaaGreatDoorHq00
import Derived.Test.YtmldoihahndcgaaGreatDoorHq03
import Derived.Lib.AtoiAll
import Derived.Lib.ItoaMem
import Derived.Lib.ItoaLen
import Derived.Test.YtmldoihahndcgaaGreatDoorHq06
import Derived.Test.YtmldoihahndcgaaGreatDoorHq04
import Derived.Test.YtmldoihahndcgaaGreatDoorHq01
import Derived.Lib.SliceRun
import Derived.Deep.RegionLaw
import Derived.Deep.MidRow
import Derived.Test.YtmldoihahndcgaaGreatDoorHq02
set_option maxRecDepth 100000
set_option maxHeartbeats 16000000
set_option linter.unusedSimpArgs false
namespace Go.Proofs.YtmldoihahndcgaaGreatDoor
open Go.RowKit
theorem Uq (p:ByteArray)(i:Int)(r:ByteArray)(N:p.size≤140737488355328)(w:World):
 Cr 59 #[p,i,r] w (Gm (Hk p i r)):=by
 have j:=Hq (fun W=>D2 p N W);have l:=Hq (fun W=>Dd p i N W);have v:=Hq (fun W=>N5 r W);change Hid (∀ W,Calls _ _ _ _ fun e w'=>e= .returned (.bool (Gp r))∧_)at v;have d:=Cf p;unfold Hk
 cases E:Bj p with
 |false=>
  rw[if_pos rfl];rw[E]at j;generalize Pg.Aw (Ab p).recs i=q at l;generalize (!decide (q.size=0))=b at l;generalize Ab p=x at j;clear d E v;go_enter Tryz.func59,Tryz.ntmps59
  go_wp2_with(first|(go_at_call 135;refine(j.out _).mono ?_;rintro e t ⟨z,A,c,rfl,f,g⟩)|(go_at_call 98;refine(l.out _).mono ?_;rintro e u ⟨rfl,a⟩))
  go_ret2;exact⟨rfl,andThen g (Bb a)⟩
 |true=>
  rw[E]at j;rw[if_neg (by simp)];clear E
  by_cases F:i<0
  ·rw[if_pos F]
   generalize Pg.Aw (Ab p).recs i=q at l;generalize (!decide (q.size=0))=b at l;generalize Ab p=x at j;clear d v;go_enter Tryz.func59,Tryz.ntmps59
   go_wp2_with(first|(go_at_call 135;refine(j.out _).mono ?_;rintro e t ⟨z,A,c,rfl,f,g⟩;obtain⟨h,m⟩:=f rfl;clear f;subst h)|(go_at_call 98;refine(l.out _).mono ?_;rintro e u ⟨rfl,a⟩;obtain⟨c0,c1,c2,c3,f0,f1,f2,f3⟩:=Dh (Ch a);have s:t.heap.size<u.heap.size:=(by have:=a.size;simp at this;omega)))
   go_ret2;exact⟨rfl,andThen g (Bb a)⟩
  ·rw[if_neg F]
   obtain⟨k,rfl⟩:=Int.eq_ofNat_of_zero_le (show 0≤i by omega);have P:(0:Int)≤(k:Int):=(by omega);clear F;rw[show((k:Int)).toNat=k from rfl]
   by_cases y:(Pg.Aw (Ab p).recs (k:Int)).size≠0
   ·rw[if_pos y]
    rw[decide_eq_false y]at l;clear y;generalize Pg.Aw (Ab p).recs (k:Int)=q at l;generalize Ab p=x at j;clear d v;go_enter Tryz.func59,Tryz.ntmps59
    go_wp2_with(first|(go_at_call 135;refine(j.out _).mono ?_;rintro e t ⟨z,A,c,rfl,f,g⟩;obtain⟨h,m⟩:=f rfl;clear f;subst h)|(go_at_call 98;refine(l.out _).mono ?_;rintro e u ⟨rfl,a⟩;obtain⟨c0,c1,c2,c3,f0,f1,f2,f3⟩:=Dh (Ch a);have s:t.heap.size<u.heap.size:=(by have:=a.size;simp at this;omega)))
    go_ret2;exact⟨rfl,andThen g (Bb a)⟩
   ·rw[if_neg y]
    rw[decide_eq_true (Decidable.not_not.1 y)]at l;clear y;generalize Pg.Aw (Ab p).recs (k:Int)=q at l
    cases h:Gp r with
    |false=>
     rw[if_pos rfl];rw[h]at v;generalize Ab p=x at j;clear d h;go_enter Tryz.func59,Tryz.ntmps59
     go_wp2_with(first|(go_at_call 135;refine(j.out _).mono ?_;rintro e t ⟨z,A,c,rfl,f,g⟩;obtain⟨h,m⟩:=f rfl;clear f;subst h)|(go_at_call 98;refine(l.out _).mono ?_;rintro e u ⟨rfl,a⟩;obtain⟨c0,c1,c2,c3,f0,f1,f2,f3⟩:=Dh (Ch a);have s:t.heap.size<u.heap.size:=(by have:=a.size;simp at this;omega))|(go_at_call 136;refine(v.out _).mono ?_;rintro e O ⟨rfl,rfl⟩))
     go_ret2;exact⟨rfl,andThen g (Bb a)⟩
    |true=>
     rw[if_neg (by simp)];rw[h]at v;obtain⟨Q,R⟩:=D0 h;clear h
     by_cases G:(512:Int)<(k:Int)
     ·rw[if_pos G]
      have B:=Hq (fun A c n W=>gD A c n (k:Int) r G W);generalize Ab p=x at j;clear d;go_enter Tryz.func59,Tryz.ntmps59
      go_wp2_with(first|(go_at_call 135;refine(j.out _).mono ?_;rintro e t ⟨z,A,c,rfl,f,g⟩;obtain⟨h,m⟩:=f rfl;clear f;subst h)|(go_at_call 98;refine(l.out _).mono ?_;rintro e u ⟨rfl,a⟩;obtain⟨c0,c1,c2,c3,f0,f1,f2,f3⟩:=Dh (Ch a);have s:t.heap.size<u.heap.size:=(by have:=a.size;simp at this;omega))|(go_at_call 136;refine(v.out _).mono ?_;rintro e O ⟨rfl,rfl⟩)|(go_at_call 137;refine(B.out _ _ _ _).mono ?_;rintro e S ⟨rfl,rfl⟩))
      go_ret2;exact⟨rfl,andThen g (Bb a)⟩
     ·rw[if_neg G]
      have H:=d.fine.len;have I:=d.fine.sum;have J:=Pg.F7 (Ab p).recs k r;have B:=Hq (fun A c W K=>Ng (Ab p).recs A c k r (by omega) (by omega) W K);have C:=Hq (fun A c W K=>Lq (A4 p (Pg.putAt (Ab p).recs k r)) A c (Co p _) (by show Pg.Ba (Pg.putAt _ _ _)≤_;omega) (.inr ((Pg.Je _).2 (Pg.Lr d.tight k (by omega)))) W K);generalize Pg.Dz (A4 p (Pg.putAt (Ab p).recs k r))=o at C ⊢;change Hid (∀ A c W,Cells W A c (Pg.putAt (Ab p).recs k r)→Calls _ _ #[.agg #[.int .i64 (Ab p).lsn,.int .i64 (Ab p).kind,.int .i64 (Ab p).link,.slice A (Pg.putAt (Ab p).recs k r).length c]] _ _)at C;clear J H I d;generalize Pg.putAt (Ab p).recs k r=rs at B C;generalize Ab p=x at j B C;go_enter Tryz.func59,Tryz.ntmps59
      go_wp2_with(first|(go_at_call 135;refine(j.out _).mono ?_;rintro e t ⟨z,A,c,rfl,f,g⟩;obtain⟨h,m⟩:=f rfl;clear f;subst h)|(go_at_call 98;refine(l.out _).mono ?_;rintro e u ⟨rfl,a⟩;obtain⟨c0,c1,c2,c3,f0,f1,f2,f3⟩:=Dh (Ch a);have s:t.heap.size<u.heap.size:=(by have:=a.size;simp at this;omega))|(go_at_call 136;refine(v.out _).mono ?_;rintro e O ⟨rfl,rfl⟩)|(go_at_call 137;refine(B.out _ _ _ (m.cells.below (Bb a))).mono ?_;rintro e S ⟨T,U,rfl,L,D⟩;obtain⟨d0,d1,d2,d3,g0,g1,g2,g3⟩:=Dh (E6 (Ch a) D))|(go_at_call 138;refine(C.out _ _ _ (Bh.set L _ s _).cells).mono ?_;rintro e V ⟨rfl,M⟩))
      go_ret2;exact⟨rfl,andThen ((andThen (andThen g (Bb a)) D).setCell g.size _) M⟩
theorem gS (p:ByteArray)(i:Int)(H:p.size≤140737488355328)(w:World):
 Cr 285 #[p,i] w (Gm (Jp p i)):=by
 have g:=Hq (fun W=>D2 p H W);have h:=Hq (fun W=>Dd p i H W);have a:=Cf p;unfold Jp
 cases s:Bj p with
 |false=>
  rw[if_pos rfl];rw[s]at g;generalize Ab p=x at g;clear a s h;go_enter Tryz.func285,Tryz.ntmps285
  go_wp2_with(first|(go_at_call 135;refine(g.out _).mono ?_;rintro e t ⟨I,A,c,rfl,d,f⟩))
  go_ret2;exact⟨rfl,Ap f⟩
 |true=>
  rw[s]at g;rw[if_neg (by simp)];clear s
  by_cases j:(Pg.Aw (Ab p).recs i).size=0
  ·rw[if_pos j]
   rw[decide_eq_true j]at h;generalize Pg.Aw (Ab p).recs i=q at h;generalize Ab p=x at g;clear a j;go_enter Tryz.func285,Tryz.ntmps285
   go_wp2_with(first|(go_at_call 135;refine(g.out _).mono ?_;rintro e t ⟨I,A,c,rfl,d,f⟩;obtain⟨u,l⟩:=d rfl;clear d;subst u)|(go_at_call 98;refine(h.out _).mono ?_;rintro e v ⟨rfl,b⟩;obtain⟨c0,c1,c2,c3,f0,f1,f2,f3⟩:=Dh (Ch b);have m:t.heap.size<v.heap.size:=(by have:=b.size;simp at this;omega)))
   go_ret2;exact⟨rfl,andThen f (Bb b)⟩
  ·rw[if_neg j]
   obtain⟨y,J⟩:=Pg.Gc j;rw[decide_eq_false j]at h;clear j;generalize Pg.Aw (Ab p).recs i=q at h;obtain⟨k,rfl⟩:=Int.eq_ofNat_of_zero_le y;rw[show((k:Int)).toNat=k from rfl];have K:(⟨#[]⟩:ByteArray).size=0:=rfl;have z:=a.fine.len;have B:=a.fine.sum;have C:=Pg.F7 (Ab p).recs k ⟨#[]⟩;have D:=Hq (fun A c W E=>Ng (Ab p).recs A c k ⟨#[]⟩ (by omega) (by omega) W E);have n:=Hq (fun A c W E=>Lq (A4 p (Pg.putAt (Ab p).recs k ⟨#[]⟩)) A c (Co p _) (by show Pg.Ba (Pg.putAt _ _ _)≤_;omega) (.inl (Nat.le_trans (Pg.aU (by omega)) a.fits)) W E);generalize Pg.Dz (A4 p (Pg.putAt (Ab p).recs k ⟨#[]⟩))=o at n ⊢;change Hid (∀ A c W,Cells W A c (Pg.putAt (Ab p).recs k ⟨#[]⟩)→Calls _ _ #[.agg #[.int .i64 (Ab p).lsn,.int .i64 (Ab p).kind,.int .i64 (Ab p).link,.slice A (Pg.putAt (Ab p).recs k ⟨#[]⟩).length c]] _ _)at n;clear C z B a;generalize Pg.putAt (Ab p).recs k ⟨#[]⟩=rs at D n;generalize Ab p=x at g D n;go_enter Tryz.func285,Tryz.ntmps285
   go_wp2_with(first|(go_at_call 135;refine(g.out _).mono ?_;rintro e t ⟨I,A,c,rfl,d,f⟩;obtain⟨u,l⟩:=d rfl;clear d;subst u)|(go_at_call 98;refine(h.out _).mono ?_;rintro e v ⟨rfl,b⟩;obtain⟨c0,c1,c2,c3,f0,f1,f2,f3⟩:=Dh (Ch b);have m:t.heap.size<v.heap.size:=(by have:=b.size;simp at this;omega))|(go_at_call 137;refine(D.out _ _ _ (l.cells.below (Bb b))).mono ?_;rintro e L ⟨M,N,rfl,F,r⟩;obtain⟨d0,d1,d2,d3,g0,g1,g2,g3⟩:=Dh (E6 (Ch b) r))|(go_at_call 138;refine(n.out _ _ _ (Bh.set F _ m _).cells).mono ?_;rintro e O ⟨rfl,G⟩))
   go_ret2;exact⟨rfl,andThen ((andThen (andThen f (Bb b)) r).setCell f.size _) G⟩
theorem gT (p:ByteArray)(i:Int)(r:ByteArray)(K:p.size≤140737488355328)(w:World):
 Cr 97 #[p,i,r] w (Gm (Iu p i r)):=by
 have h:=Hq (fun W=>D2 p K W);have j:=Hq (fun W=>Dd p i K W);have l:=Hq (fun W=>N5 r W);change Hid (∀ W,Calls _ _ _ _ fun e w'=>e= .returned (.bool (Gp r))∧_)at l;have a:=Cf p;unfold Iu
 cases y:Bj p with
 |false=>
  rw[if_pos rfl];rw[y]at h;generalize Ab p=x at h;clear a y j l;go_enter Tryz.func97,Tryz.ntmps97
  go_wp2_with(first|(go_at_call 135;refine(h.out _).mono ?_;rintro e s ⟨z,A,c,rfl,b,f⟩))
  go_ret2;exact⟨rfl,Ap f⟩
 |true=>
  rw[y]at h;rw[if_neg (by simp)];clear y
  cases g:Gp r with
  |false=>
   rw[if_pos rfl];rw[g]at l;generalize Ab p=x at h;clear a g j;go_enter Tryz.func97,Tryz.ntmps97
   go_wp2_with(first|(go_at_call 135;refine(h.out _).mono ?_;rintro e s ⟨z,A,c,rfl,b,f⟩;obtain⟨g,m⟩:=b rfl;clear b;subst g)|(go_at_call 136;refine(l.out _).mono ?_;rintro e L ⟨rfl,rfl⟩))
   go_ret2;exact⟨rfl,Ap f⟩
  |true=>
   rw[if_neg (by simp)];rw[g]at l;obtain⟨M,N⟩:=D0 g;clear g
   by_cases n:(Pg.Aw (Ab p).recs i).size=0
   ·rw[if_pos n]
    rw[decide_eq_true n]at j;generalize Pg.Aw (Ab p).recs i=q at j;generalize Ab p=x at h;clear a n;go_enter Tryz.func97,Tryz.ntmps97
    go_wp2_with(first|(go_at_call 135;refine(h.out _).mono ?_;rintro e s ⟨z,A,c,rfl,b,f⟩;obtain⟨g,m⟩:=b rfl;clear b;subst g)|(go_at_call 136;refine(l.out _).mono ?_;rintro e L ⟨rfl,rfl⟩)|(go_at_call 98;refine(j.out _).mono ?_;rintro e B ⟨rfl,d⟩;obtain⟨c0,c1,c2,c3,f0,f1,f2,f3⟩:=Dh (Ch d);have t:s.heap.size<B.heap.size:=(by have:=d.size;simp at this;omega)))
    go_ret2;exact⟨rfl,andThen f (Bb d)⟩
   ·rw[if_neg n]
    obtain⟨C,O⟩:=Pg.Gc n;rw[decide_eq_false n]at j;clear n;generalize Pg.Aw (Ab p).recs i=q at j;obtain⟨k,rfl⟩:=Int.eq_ofNat_of_zero_le C;rw[show((k:Int)).toNat=k from rfl];have D:=a.fine.len;have E:=a.fine.sum;have F:=Pg.F7 (Ab p).recs k r;have G:=Hq (fun A c W H=>Ng (Ab p).recs A c k r (by omega) (by omega) W H);have u:=Hq (fun A c W H=>Lq (A4 p (Pg.putAt (Ab p).recs k r)) A c (Co p _) (by show Pg.Ba (Pg.putAt _ _ _)≤_;omega) (.inr ((Pg.Je _).2 (Pg.Lr a.tight k (by omega)))) W H);generalize Pg.Dz (A4 p (Pg.putAt (Ab p).recs k r))=o at u ⊢;change Hid (∀ A c W,Cells W A c (Pg.putAt (Ab p).recs k r)→Calls _ _ #[.agg #[.int .i64 (Ab p).lsn,.int .i64 (Ab p).kind,.int .i64 (Ab p).link,.slice A (Pg.putAt (Ab p).recs k r).length c]] _ _)at u;clear F D E a;generalize Pg.putAt (Ab p).recs k r=rs at G u;generalize Ab p=x at h G u;go_enter Tryz.func97,Tryz.ntmps97
    go_wp2_with(first|(go_at_call 135;refine(h.out _).mono ?_;rintro e s ⟨z,A,c,rfl,b,f⟩;obtain⟨g,m⟩:=b rfl;clear b;subst g)|(go_at_call 136;refine(l.out _).mono ?_;rintro e L ⟨rfl,rfl⟩)|(go_at_call 98;refine(j.out _).mono ?_;rintro e B ⟨rfl,d⟩;obtain⟨c0,c1,c2,c3,f0,f1,f2,f3⟩:=Dh (Ch d);have t:s.heap.size<B.heap.size:=(by have:=d.size;simp at this;omega))|(go_at_call 137;refine(G.out _ _ _ (m.cells.below (Bb d))).mono ?_;rintro e P ⟨Q,R,rfl,I,v⟩;obtain⟨d0,d1,d2,d3,g0,g1,g2,g3⟩:=Dh (E6 (Ch d) v))|(go_at_call 138;refine(u.out _ _ _ (Bh.set I _ t _).cells).mono ?_;rintro e S ⟨rfl,J⟩))
    go_ret2;exact⟨rfl,andThen ((andThen (andThen f (Bb d)) v).setCell f.size _) J⟩
theorem Cells.eI {w w':World}{B b off c:Nat}{rs:List ByteArray}(h:Cells w (some ⟨b,off,none⟩) c rs)(d:b<B)(i:Below B w w'):Cells w' (some ⟨b,off,none⟩) c rs:=fun l=>by
 obtain⟨q,k,e,m,n,a⟩:=h l
 injection e with e
 injection e with f g
 subst f;subst g;refine⟨b,off,rfl,m,Nat.lt_of_lt_of_le n i.size,fun j o=>?_⟩;rw[i.cell (p:=⟨b,off+j,none⟩) d];exact a j o
theorem qF (p:ByteArray)(k:Nat)(r:ByteArray)(hm:p.size≤140737488355328)(Y:Bj p=true)(Z:k<(Ab p).recs.length)(F:Gp r=true)(w:World):
 Cr 279 #[p,.int .i64 (k:Int),r] w (Gm (Pg.Dz (A4 p ((Ab p).recs.take k++[r]++(Ab p).recs.drop k)))):=by
 have G:=Hq (fun W=>Em p hm W);rw[Y]at G;have a:=Cf p;have H:=a.fine.len;have I:=a.fine.sum;have J:=Hq (fun W=>Q7 r W);change Hid (∀ W,Calls _ _ _ _ fun e w'=>e= .returned (.bool (Gp r))∧_)at J;rw[F]at J;obtain⟨K,M⟩:=D0 F;have z:Pg.Ba ((Ab p).recs.take k++[r]++(Ab p).recs.drop k)≤1099511627776:=by
  have N:=Pg.Uh (Ab p).recs k r;have h2:=Pg.N8 (Ab p).recs k r;unfold Pg.Gn at N h2;rw[if_neg (by omega)]at N h2;unfold Pg.Ba;omega
 have B:=Hq (fun A c W l=>Kb (A4 p ((Ab p).recs.take k++[r]++(Ab p).recs.drop k)) A c (Co p _) z W l);generalize Pg.Dz (A4 p ((Ab p).recs.take k++[r]++(Ab p).recs.drop k))=o at B ⊢;change Hid (∀ A c W,Cells W A c ((Ab p).recs.take k++[r]++(Ab p).recs.drop k)→Calls _ _ #[.agg #[.int .i64 (Ab p).lsn,.int .i64 (Ab p).kind,.int .i64 (Ab p).link,.slice A ((Ab p).recs.take k++[r]++(Ab p).recs.drop k).length c]] _ _)at B;clear z I a Y F K M;generalize Ab p=x at G B H Z;obtain⟨L,O⟩:=ex (x.recs.take k++[r]++x.recs.drop k);rw[← O]at B;have HL:=Hq O;clear O;have a7:(k:Int)≤512:=by omega
 have a8:(0:Int)≤(k:Int):=by omega
 have aa:(k:Int)<(x.recs.length:Int):=by omega
 have a1:decide (x.recs.length≤k)=false:=decide_eq_false (by omega);go_enter Tryz.func279,Tryz.ntmps279
 go_upto_region 8 with(first|(go_at_call 72;refine(G.out _).mono ?_;rintro e y ⟨A,c,rfl,m,n⟩)|(go_at_call 160;refine(J.out _).mono ?_;rintro e w3 ⟨rfl,rfl⟩))
 obtain⟨b,off,rfl,hc,ad,q⟩:=m.cells.at_ Z;clear q;have ae:k<c:=by omega
 have a6:(k:Int)≤(c:Int):=by omega
 obtain⟨W,l⟩:=ex (y.alloc (.cells #[x.lsn,x.kind,x.link,.slice (some ⟨b,off,none⟩) x.recs.length c] 118 (0,0)));have s:Bw y W:=by rw[l];exact(Below.refl _ _).alloc (Nat.le_refl _) _
 have t:W.heap[y.heap.size]? =some (.cells #[x.lsn,x.kind,x.link,.slice (some ⟨b,off,none⟩) x.recs.length c] 118 (0,0)):=by rw[l];exact heap_alloc_new y _
 have d:y.heap.size<W.heap.size:=by rw[l];simp
 rw[← l];clear l;obtain⟨c0,c1,c2,c3,f0,f1,f2,f3⟩:=Dh t;have P:=Hq t;have C:=Hq (m.cells.below s);clear m t;have D:b<W.heap.size:=by omega
 have u:=Hq (show(x.recs.take k).length=k by rw[List.length_take];omega);have Q:=Hq (show(x.recs.drop k).length=x.recs.length-k by rw[List.length_drop])
 go_wp2_with(first|(at_builtin;refine Dg _ rfl (.const (.slice none 0 0)) _ rfl W.heap.size (.slice none 0 0) [] rfl (Gl.nil _ _) _ k _ (x.recs.take k) u.out rfl (C.out.Ud k) (by simp;omega) (Nat.le_refl _) ?_;intro v2 w2 g R i;rw[List.nil_append]at g;clear R;obtain⟨d0,d1,d2,d3,g0,g1,g2,g3⟩:=Dh ((i.block _ d).trans P.out))|(at_builtin;refine Dg _ rfl (.tmp 46) _ rfl W.heap.size v2 (x.recs.take k) rfl (g.below ((Below.refl _ _).alloc (Nat.le_refl _) _)) _ 1 _ [r] rfl rfl (cells_one w2 _) (by rw[u.out];omega) (by have N:=i.size;simp;omega) ?_;intro v4 w4 v S T;clear S;have f:=(i.trans (((Below.refl _ _).alloc i.size (.cells #[r] 9)).trans T));obtain⟨x0,x1,x2,x3,m0,m1,m2,m3⟩:=Dh ((f.block _ d).trans P.out))|(at_builtin;refine Dg _ rfl (.tmp 50) _ rfl W.heap.size v4 (x.recs.take k++[r]) rfl v _ (x.recs.length-k) _ (x.recs.drop k) Q.out rfl ((C.out.eI D f).eE k) (by rw[List.length_append,u.out,List.length_singleton];omega) f.size ?_;intro v6 w6 h U V;clear U;have j:=f.trans V;rw[← HL.out]at h;obtain⟨A6,c6,rfl,E,-⟩:=h.form;obtain⟨z0,z1,z2,z3,k0,k1,k2,k3⟩:=Dh ((j.block _ d).trans P.out))|(go_at_call 162;refine(B.out _ _ _ (Bh.set E ⟨y.heap.size,3,none⟩ d _).cells).mono ?_;rintro e w7 ⟨rfl,X⟩))
 go_ret2;exact⟨rfl,andThen (Below.setCell (n.trans ((s.trans (j.mono s.size)).mono n.size)) n.size _) X⟩
theorem qG (p:ByteArray)(k:Nat)(hm:p.size≤140737488355328)(X:Bj p=true)(K:k<(Ab p).recs.length)(Y:¬ (Pg.Aw (Ab p).recs (k:Int)).size=0)(w:World):
 Cr 280 #[p,.int .i64 (k:Int)] w (Gm (Pg.Dz (A4 p (Pg.Fl (Ab p).recs k)))):=by
 have M:=Hq (fun W=>Em p hm W);rw[X]at M;have h:=Cf p;have N:=h.fine.len;have O:=h.fine.sum;have G:Pg.Ba (Pg.Fl (Ab p).recs k)≤1099511627776:=Nat.le_trans (Pg.Ni K) (Nat.le_trans h.fits (by omega));have F:=Hq (fun A c W r=>Kb (A4 p (Pg.Fl (Ab p).recs k)) A c (Co p _) G W r);generalize Pg.Dz (A4 p (Pg.Fl (Ab p).recs k))=o at F ⊢;change Hid (∀ A c W,Cells W A c (Pg.Fl (Ab p).recs k)→Calls _ _ #[.agg #[.int .i64 (Ab p).lsn,.int .i64 (Ab p).kind,.int .i64 (Ab p).link,.slice A (Pg.Fl (Ab p).recs k).length c]] _ _)at F;have P:=Hq (fun A c W r=>Pe (Ab p) A c (k:Int) W r);obtain⟨Q,R⟩:=N9 Y;generalize Pg.Aw (Ab p).recs (k:Int)=q at P Q R;clear G O h X Y;generalize Ab p=x at M F N K P;obtain⟨L,S⟩:=ex (Pg.Fl x.recs k);rw[← S]at F;have Z:=Hq S;clear S;have a7:(k:Int)≤512:=by omega
 have a8:(0:Int)≤(k:Int):=by omega
 have aa:(k:Int)<(x.recs.length:Int):=by omega
 have a1:decide (x.recs.length≤k)=false:=decide_eq_false (by omega);go_enter Tryz.func280,Tryz.ntmps280
 go_upto_region 6 with(first|(go_at_call 72;refine(M.out _).mono ?_;rintro e H ⟨A,c,rfl,s,l⟩)|(go_at_call 161;refine(P.out _ _ _ (s.cells.below ((Below.refl _ _).alloc (Nat.le_refl _) _))).mono ?_;rintro e T ⟨rfl,a⟩))
 obtain⟨b,off,rfl,hc,ad,u⟩:=s.cells.at_ K;clear u;have ae:k<c:=by omega
 have a6:(k:Int)≤(c:Int):=by omega
 obtain⟨W,r⟩:=ex T;have m:Bw H W:=by rw[r];exact Bb a
 have v:W.heap[H.heap.size]? =some (.cells #[x.lsn,x.kind,x.link,.slice (some ⟨b,off,none⟩) x.recs.length c] 118 (0,0)):=by rw[r];exact Ch a
 have g:H.heap.size<W.heap.size:=by rw[r];have:=a.size;simp at this;omega
 rw[← r];clear r a;obtain⟨c0,c1,c2,c3,f0,f1,f2,f3⟩:=Dh v;have J:=Hq v;have y:=Hq (s.cells.below m);clear s v;have I:b<W.heap.size:=by omega
 have t:=Hq (show(x.recs.take k).length=k by rw[List.length_take];omega);have z:=Hq (show(x.recs.drop (k+1)).length=x.recs.length-(k+1) by rw[List.length_drop]);have af:((k:Int)+1).toNat=k+1:=by omega
 have ag:(k:Int)+1≤(c:Int):=by omega
 have ah:(k:Int)+1≤(x.recs.length:Int):=by omega
 by_cases U:c=k+1
 ·subst U
  go_wp2_with(first|(at_builtin;refine Dg _ rfl (.const (.slice none 0 0)) _ rfl W.heap.size (.slice none 0 0) [] rfl (Gl.nil _ _) _ k _ (x.recs.take k) t.out rfl (y.out.Ud k) (by simp;omega) (Nat.le_refl _) ?_;intro v2 T d B a;rw[List.nil_append]at d;clear B;obtain⟨d0,d1,d2,d3,g0,g1,g2,g3⟩:=Dh ((a.block _ g).trans J.out))|(at_builtin;refine Dg _ rfl (.tmp 25) _ rfl W.heap.size v2 (x.recs.take k) rfl d _ 0 _ (x.recs.drop (k+1)) (by rw[z.out];omega) rfl (Cells.uZ _ _ _ (by rw[z.out];omega)) (by rw[t.out];omega) a.size ?_;intro v6 V f C D;clear C;have i:=a.trans D;have j:Gl W.heap.size V v6 L:=(by rw[Z.out];exact f);clear f;obtain⟨A6,c6,rfl,n,-⟩:=j.form;obtain⟨z0,z1,z2,z3,k0,k1,k2,k3⟩:=Dh ((i.block _ g).trans J.out))|(go_at_call 162;refine(F.out _ _ _ (Bh.set n ⟨H.heap.size,3,none⟩ g _).cells).mono ?_;rintro e w7 ⟨rfl,E⟩))
  go_ret2;exact⟨rfl,andThen (Below.setCell (l.trans ((m.trans (i.mono m.size)).mono l.size)) l.size _) E⟩
 ·go_wp2_with(first|(at_builtin;refine Dg _ rfl (.const (.slice none 0 0)) _ rfl W.heap.size (.slice none 0 0) [] rfl (Gl.nil _ _) _ k _ (x.recs.take k) t.out rfl (y.out.Ud k) (by simp;omega) (Nat.le_refl _) ?_;intro v2 T d B a;rw[List.nil_append]at d;clear B;obtain⟨d0,d1,d2,d3,g0,g1,g2,g3⟩:=Dh ((a.block _ g).trans J.out))|(at_builtin;refine Dg _ rfl (.tmp 25) _ rfl W.heap.size v2 (x.recs.take k) rfl d _ (x.recs.length-(k+1)) _ (x.recs.drop (k+1)) z.out rfl ((y.out.eI I a).eE (k+1)) (by rw[t.out];omega) a.size ?_;intro v6 V f C D;clear C;have i:=a.trans D;have j:Gl W.heap.size V v6 L:=(by rw[Z.out];exact f);clear f;obtain⟨A6,c6,rfl,n,-⟩:=j.form;obtain⟨z0,z1,z2,z3,k0,k1,k2,k3⟩:=Dh ((i.block _ g).trans J.out))|(go_at_call 162;refine(F.out _ _ _ (Bh.set n ⟨H.heap.size,3,none⟩ g _).cells).mono ?_;rintro e w7 ⟨rfl,E⟩))
  go_ret2;exact⟨rfl,andThen (Below.setCell (l.trans ((m.trans (i.mono m.size)).mono l.size)) l.size _) E⟩
def I0 (p:ByteArray)(i:Int)(r:ByteArray):ByteArray×Int:=
 if Bj p=false then(⟨#[]⟩,1)else if i<0 then(⟨#[]⟩,1)else if Gp r=false then(⟨#[]⟩,1)else if 512<i then(⟨#[]⟩,18)else Pg.Dz (A4 p (Pg.Gn (Ab p).recs i.toNat r))
def Jr (p:ByteArray)(i:Int):ByteArray×Int:=
 if Bj p=false then(⟨#[]⟩,1)else if(Pg.Aw (Ab p).recs i).size=0 then(⟨#[]⟩,21)else Pg.Dz (A4 p (Pg.Fl (Ab p).recs i.toNat))
theorem mO (p:ByteArray)(i:Int)(r:ByteArray)(I:p.size≤140737488355328)(w:World):
 Cr 279 #[p,i,r] w (Gm (I0 p i r)):=by
 have d:=Hq (fun W=>Em p I W);have h:=Hq (fun W=>Q7 r W);change Hid (∀ W,Calls _ _ _ _ fun e w'=>e= .returned (.bool (Gp r))∧_)at h;have a:=Cf p;unfold I0
 cases f:Bj p with
 |false=>
  rw[if_pos rfl];rw[f]at d;generalize Ab p=x at d;clear a f h;go_enter Tryz.func279,Tryz.ntmps279
  go_wp2_with(first|(go_at_call 72;refine(d.out _).mono ?_;rintro e m ⟨A,c,rfl,g,b⟩))
  go_ret2;exact⟨rfl,Ap b⟩
 |true=>
  rw[if_neg (by simp)]
  by_cases q:i<0
  ·rw[if_pos q]
   rw[f]at d;generalize Ab p=x at d;clear a f h;go_enter Tryz.func279,Tryz.ntmps279
   go_wp2_with(first|(go_at_call 72;refine(d.out _).mono ?_;rintro e m ⟨A,c,rfl,g,b⟩))
   go_ret2;exact⟨rfl,Ap b⟩
  ·rw[if_neg q]
   obtain⟨k,rfl⟩:=Int.eq_ofNat_of_zero_le (show 0≤i by omega);have L:(0:Int)≤(k:Int):=(by omega);clear q;rw[show((k:Int)).toNat=k from rfl]
   cases j:Gp r with
   |false=>
    rw[if_pos rfl];rw[j]at h;rw[f]at d;generalize Ab p=x at d;clear a f j;go_enter Tryz.func279,Tryz.ntmps279
    go_wp2_with(first|(go_at_call 72;refine(d.out _).mono ?_;rintro e m ⟨A,c,rfl,g,b⟩)|(go_at_call 160;refine(h.out _).mono ?_;rintro e J ⟨rfl,rfl⟩))
    go_ret2;exact⟨rfl,Ap b⟩
   |true=>
    rw[if_neg (by simp)]
    by_cases s:k<(Ab p).recs.length
    ·have l:=a.fine.len
     rw[if_neg (by omega)];unfold Pg.Gn;rw[if_neg (by omega)];exact qF p k r I f s j w
    ·by_cases K:(512:Int)<(k:Int)
     ·rw[if_pos K]
      rw[f]at d;rw[j]at h;generalize Ab p=x at d;clear a f j s;go_enter Tryz.func279,Tryz.ntmps279
      go_wp2_with(first|(go_at_call 72;refine(d.out _).mono ?_;rintro e m ⟨A,c,rfl,g,b⟩)|(go_at_call 160;refine(h.out _).mono ?_;rintro e J ⟨rfl,rfl⟩))
      go_ret2;exact⟨rfl,Ap b⟩
     ·rw[if_neg K]
      rw[show Pg.Gn (Ab p).recs k r=Pg.putAt (Ab p).recs k r from if_pos (by omega)];obtain⟨t,u⟩:=D0 j;have l:=a.fine.len;have v:=a.fine.sum;have z:=Pg.F7 (Ab p).recs k r;have n:=Hq (fun A c W B=>N6 (Ab p) A c k r (by omega) (by omega) W B);have C:=Hq (fun A c W B=>Kb (A4 p (Pg.putAt (Ab p).recs k r)) A c (Co p _) (by show Pg.Ba (Pg.putAt _ _ _)≤_;omega) W B);change Hid (∀ A c W,Cells W A c (Ab p).recs→Calls _ _ _ _ fun e w'=>∃ D E,e= .returned (F6 (A4 p (Pg.putAt (Ab p).recs k r)) D E)∧Bh _ w' D E (A4 p (Pg.putAt (Ab p).recs k r)).recs∧_)at n;rw[f]at d;rw[j]at h;clear z l v t u a f j;generalize A4 p (Pg.putAt (Ab p).recs k r)=y at n C ⊢;generalize Pg.Dz y=o at C ⊢;generalize Ab p=x at d n s;have M:(x.recs.length:Int)≤(k:Int):=(by omega);go_enter Tryz.func279,Tryz.ntmps279
      go_wp2_with(first|(go_at_call 72;refine(d.out _).mono ?_;rintro e m ⟨A,c,rfl,g,b⟩)|(go_at_call 160;refine(h.out _).mono ?_;rintro e J ⟨rfl,rfl⟩)|(go_at_call 163;refine(n.out _ _ _ (g.cells.below ((Below.refl _ _).alloc (Nat.le_refl _) _))).mono ?_;rintro e N ⟨D,E,rfl,F,G⟩)|(go_at_call 162;refine(C.out _ _ _ F.cells).mono ?_;rintro e O ⟨rfl,H⟩))
      go_ret2;exact⟨rfl,andThen (andThen (Ap b) G) H⟩
theorem mP (p:ByteArray)(i:Int)(m:p.size≤140737488355328)(w:World):
 Cr 280 #[p,i] w (Gm (Jr p i)):=by
 have b:=Hq (fun W=>Em p m W);have j:=Hq (fun A c W n=>Pe (Ab p) A c i W n);unfold Jr
 cases f:Bj p with
 |false=>
  rw[if_pos rfl];rw[f]at b;generalize Ab p=x at b;clear f j;go_enter Tryz.func280,Tryz.ntmps280
  go_wp2_with(first|(go_at_call 72;refine(b.out _).mono ?_;rintro e o ⟨A,c,rfl,g,a⟩))
  go_ret2;exact⟨rfl,Ap a⟩
 |true=>
  rw[if_neg (by simp)]
  by_cases d:(Pg.Aw (Ab p).recs i).size=0
  ·rw[if_pos d]
   rw[f]at b;clear f;rw[Me d]at j;generalize Ab p=x at b j;clear d;go_enter Tryz.func280,Tryz.ntmps280
   go_wp2_with(first|(go_at_call 72;refine(b.out _).mono ?_;rintro e o ⟨A,c,rfl,g,a⟩)|(go_at_call 161;refine(j.out _ _ _ (g.cells.below ((Below.refl _ _).alloc (Nat.le_refl _) _))).mono ?_;rintro e r ⟨rfl,h⟩;obtain⟨c0,c1,c2,c3,f0,f1,f2,f3⟩:=Dh (Ch h)))
   go_ret2;exact⟨rfl,andThen a (Bb h)⟩
  ·rw[if_neg d]
   obtain⟨l,q⟩:=Pg.Gc d;obtain⟨k,rfl⟩:=Int.eq_ofNat_of_zero_le l;rw[show((k:Int)).toNat=k from rfl];exact qG p k m f (by omega) d w
theorem mQ (p:ByteArray)(k:Nat)(r:ByteArray)(hm:p.size≤140737488355328)(hb:Bj p=true)(hk:k<(Ab p).recs.length)(G:Gp r=true)(w:World):
 Cr 286 #[p,.int .i64 (k:Int),r] w (Gm (Pg.Dz (A4 p ((Ab p).recs.take k++[r]++(Ab p).recs.drop k)))):=by
 have H:=Hq (fun W=>D2 p hm W);rw[hb]at H;have a:=Cf p;have I:=a.fine.len;have J:=a.fine.sum;have K:=Hq (fun W=>N5 r W);change Hid (∀ W,Calls _ _ _ _ fun e w'=>e= .returned (.bool (Gp r))∧_)at K;rw[G]at K;obtain⟨M,N⟩:=D0 G;have B:Pg.Ba ((Ab p).recs.take k++[r]++(Ab p).recs.drop k)≤1099511627776:=by
  have O:=Pg.Uh (Ab p).recs k r;have h2:=Pg.N8 (Ab p).recs k r;unfold Pg.Gn at O h2;rw[if_neg (by omega)]at O h2;unfold Pg.Ba;omega
 have C:=Hq (fun A c W m=>Lq (A4 p ((Ab p).recs.take k++[r]++(Ab p).recs.drop k)) A c (Co p _) B (.inr ((Pg.Je _).2 (by have P:=Pg.Xw a.tight k (r:=r) (by omega);unfold Pg.Gn at P;rw[if_neg (by omega)]at P;exact P))) W m);generalize Pg.Dz (A4 p ((Ab p).recs.take k++[r]++(Ab p).recs.drop k))=o at C ⊢;change Hid (∀ A c W,Cells W A c ((Ab p).recs.take k++[r]++(Ab p).recs.drop k)→Calls _ _ #[.agg #[.int .i64 (Ab p).lsn,.int .i64 (Ab p).kind,.int .i64 (Ab p).link,.slice A ((Ab p).recs.take k++[r]++(Ab p).recs.drop k).length c]] _ _)at C;clear B J a hb G M N;generalize Ab p=x at H C I hk;obtain⟨L,Q⟩:=ex (x.recs.take k++[r]++x.recs.drop k);rw[← Q]at C;have HL:=Hq Q;clear Q;have a7:(k:Int)≤512:=by omega
 have a8:(0:Int)≤(k:Int):=by omega
 have aa:(k:Int)<(x.recs.length:Int):=by omega
 have a1:decide (x.recs.length≤k)=false:=decide_eq_false (by omega);go_enter Tryz.func286,Tryz.ntmps286
 go_upto_region 7 with(first|(go_at_call 135;refine(H.out _).mono ?_;rintro e z ⟨d,A,c,rfl,hcl0,n⟩;obtain⟨hy,q⟩:=hcl0 rfl;clear hcl0;subst hy)|(go_at_call 136;refine(K.out _).mono ?_;rintro e w3 ⟨rfl,rfl⟩))
 obtain⟨b,off,rfl,hc,ad,s⟩:=q.cells.at_ hk;clear s;have ae:k<c:=by omega
 have a6:(k:Int)≤(c:Int):=by omega
 obtain⟨W,m⟩:=ex (z.alloc (.cells #[d.lsn,d.kind,d.link,.slice (some ⟨b,off,none⟩) d.recs.length c] 149 (0,0)));have t:Bw z W:=by rw[m];exact(Below.refl _ _).alloc (Nat.le_refl _) _
 have u:W.heap[z.heap.size]? =some (.cells #[d.lsn,d.kind,d.link,.slice (some ⟨b,off,none⟩) d.recs.length c] 149 (0,0)):=by rw[m];exact heap_alloc_new z _
 have f:z.heap.size<W.heap.size:=by rw[m];simp
 rw[← m];clear m;obtain⟨c0,c1,c2,c3,f0,f1,f2,f3⟩:=Dh u;have R:=Hq u;have D:=Hq (q.cells.below t);clear q u;have E:b<W.heap.size:=by omega
 have v:=Hq (show(d.recs.take k).length=k by rw[List.length_take];omega);have S:=Hq (show(d.recs.drop k).length=d.recs.length-k by rw[List.length_drop])
 go_wp2_with(first|(at_builtin;refine Dg _ rfl (.tmp 38) _ rfl W.heap.size (.slice none 0 0) [] rfl (Gl.nil _ _) _ k _ (d.recs.take k) v.out rfl (D.out.Ud k) (by simp;omega) (Nat.le_refl _) ?_;intro v2 w2 h T j;rw[List.nil_append]at h;clear T;obtain⟨d0,d1,d2,d3,g0,g1,g2,g3⟩:=Dh ((j.block _ f).trans R.out))|(at_builtin;refine Dg _ rfl (.tmp 44) _ rfl W.heap.size v2 (d.recs.take k) rfl (h.below ((Below.refl _ _).alloc (Nat.le_refl _) _)) _ 1 _ [r] rfl rfl (cells_one w2 _) (by rw[v.out];omega) (by have O:=j.size;simp;omega) ?_;intro v4 w4 y U V;clear U;have g:=(j.trans (((Below.refl _ _).alloc j.size (.cells #[r] 9)).trans V));obtain⟨x0,x1,x2,x3,m0,m1,m2,m3⟩:=Dh ((g.block _ f).trans R.out))|(at_builtin;refine Dg _ rfl (.tmp 48) _ rfl W.heap.size v4 (d.recs.take k++[r]) rfl y _ (d.recs.length-k) _ (d.recs.drop k) S.out rfl ((D.out.eI E g).eE k) (by rw[List.length_append,v.out,List.length_singleton];omega) g.size ?_;intro v6 w6 i X Y;clear X;have l:=g.trans Y;rw[← HL.out]at i;obtain⟨A6,c6,rfl,F,-⟩:=i.form;obtain⟨z0,z1,z2,z3,k0,k1,k2,k3⟩:=Dh ((l.block _ f).trans R.out))|(go_at_call 138;refine(C.out _ _ _ (Bh.set F ⟨z.heap.size,3,none⟩ f _).cells).mono ?_;rintro e w7 ⟨rfl,Z⟩))
 go_ret2;exact⟨rfl,andThen (Below.setCell (n.trans ((t.trans (l.mono t.size)).mono n.size)) n.size _) Z⟩
theorem mR (p:ByteArray)(k:Nat)(V:p.size≤140737488355328)(X:Bj p=true)(K:k<(Ab p).recs.length)(Y:¬ (Pg.Aw (Ab p).recs (k:Int)).size=0)(w:World):
 Cr 287 #[p,.int .i64 (k:Int)] w (Gm (Pg.Dz (A4 p (Pg.Fl (Ab p).recs k)))):=by
 have N:=Hq (fun W=>D2 p V W);rw[X]at N;have d:=Cf p;have O:=d.fine.len;have P:=d.fine.sum;have H:Pg.Ba (Pg.Fl (Ab p).recs k)≤1099511627776:=Nat.le_trans (Pg.Ni K) (Nat.le_trans d.fits (by omega));have G:=Hq (fun A c W t=>Lq (A4 p (Pg.Fl (Ab p).recs k)) A c (Co p _) H (.inl (Nat.le_trans (Pg.Ni K) d.fits)) W t);generalize Pg.Dz (A4 p (Pg.Fl (Ab p).recs k))=o at G ⊢;change Hid (∀ A c W,Cells W A c (Pg.Fl (Ab p).recs k)→Calls _ _ #[.agg #[.int .i64 (Ab p).lsn,.int .i64 (Ab p).kind,.int .i64 (Ab p).link,.slice A (Pg.Fl (Ab p).recs k).length c]] _ _)at G;have Q:=Hq (fun W=>Dd p (k:Int) V W);rw[decide_eq_false Y]at Q;generalize Pg.Aw (Ab p).recs (k:Int)=q at Q;clear H P d X Y;generalize Ab p=x at N G O K;obtain⟨L,R⟩:=ex (Pg.Fl x.recs k);rw[← R]at G;have Z:=Hq R;clear R;have a7:(k:Int)≤512:=by omega
 have a8:(0:Int)≤(k:Int):=by omega
 have aa:(k:Int)<(x.recs.length:Int):=by omega
 have a1:decide (x.recs.length≤k)=false:=decide_eq_false (by omega);go_enter Tryz.func287,Tryz.ntmps287
 go_upto_region 8 with(first|(go_at_call 135;refine(N.out _).mono ?_;rintro e I ⟨j,A,c,rfl,hcl0,m⟩;obtain⟨hy,u⟩:=hcl0 rfl;clear hcl0;subst hy)|(go_at_call 98;refine(Q.out _).mono ?_;rintro e S ⟨rfl,a⟩))
 obtain⟨b,off,rfl,hc,ad,v⟩:=u.cells.at_ K;clear v;have ae:k<c:=by omega
 have a6:(k:Int)≤(c:Int):=by omega
 obtain⟨W,t⟩:=ex S;have n:Bw I W:=by rw[t];exact Bb a
 have y:W.heap[I.heap.size]? =some (.cells #[j.lsn,j.kind,j.link,.slice (some ⟨b,off,none⟩) j.recs.length c] 149 (0,0)):=by rw[t];exact Ch a
 have h:I.heap.size<W.heap.size:=by rw[t];have:=a.size;simp at this;omega
 rw[← t];clear t a;obtain⟨c0,c1,c2,c3,f0,f1,f2,f3⟩:=Dh y;have M:=Hq y;have z:=Hq (u.cells.below n);clear u y;have J:b<W.heap.size:=by omega
 have s:=Hq (show(j.recs.take k).length=k by rw[List.length_take];omega);have B:=Hq (show(j.recs.drop (k+1)).length=j.recs.length-(k+1) by rw[List.length_drop]);have af:((k:Int)+1).toNat=k+1:=by omega
 have ag:(k:Int)+1≤(c:Int):=by omega
 have ah:(k:Int)+1≤(j.recs.length:Int):=by omega
 by_cases T:c=k+1
 ·subst T
  go_wp2_with(first|(at_builtin;refine Dg _ rfl (.tmp 26) _ rfl W.heap.size (.slice none 0 0) [] rfl (Gl.nil _ _) _ k _ (j.recs.take k) s.out rfl (z.out.Ud k) (by simp;omega) (Nat.le_refl _) ?_;intro v2 S f C a;rw[List.nil_append]at f;clear C;obtain⟨d0,d1,d2,d3,g0,g1,g2,g3⟩:=Dh ((a.block _ h).trans M.out))|(at_builtin;refine Dg _ rfl (.tmp 32) _ rfl W.heap.size v2 (j.recs.take k) rfl f _ 0 _ (j.recs.drop (k+1)) (by rw[B.out];omega) rfl (Cells.uZ _ _ _ (by rw[B.out];omega)) (by rw[s.out];omega) a.size ?_;intro v6 U g D E;clear D;have i:=a.trans E;have l:Gl W.heap.size U v6 L:=(by rw[Z.out];exact g);clear g;obtain⟨A6,c6,rfl,r,-⟩:=l.form;obtain⟨z0,z1,z2,z3,k0,k1,k2,k3⟩:=Dh ((i.block _ h).trans M.out))|(go_at_call 138;refine(G.out _ _ _ (Bh.set r ⟨I.heap.size,3,none⟩ h _).cells).mono ?_;rintro e w7 ⟨rfl,F⟩))
  go_ret2;exact⟨rfl,andThen (Below.setCell (m.trans ((n.trans (i.mono n.size)).mono m.size)) m.size _) F⟩
 ·go_wp2_with(first|(at_builtin;refine Dg _ rfl (.tmp 26) _ rfl W.heap.size (.slice none 0 0) [] rfl (Gl.nil _ _) _ k _ (j.recs.take k) s.out rfl (z.out.Ud k) (by simp;omega) (Nat.le_refl _) ?_;intro v2 S f C a;rw[List.nil_append]at f;clear C;obtain⟨d0,d1,d2,d3,g0,g1,g2,g3⟩:=Dh ((a.block _ h).trans M.out))|(at_builtin;refine Dg _ rfl (.tmp 32) _ rfl W.heap.size v2 (j.recs.take k) rfl f _ (j.recs.length-(k+1)) _ (j.recs.drop (k+1)) B.out rfl ((z.out.eI J a).eE (k+1)) (by rw[s.out];omega) a.size ?_;intro v6 U g D E;clear D;have i:=a.trans E;have l:Gl W.heap.size U v6 L:=(by rw[Z.out];exact g);clear g;obtain⟨A6,c6,rfl,r,-⟩:=l.form;obtain⟨z0,z1,z2,z3,k0,k1,k2,k3⟩:=Dh ((i.block _ h).trans M.out))|(go_at_call 138;refine(G.out _ _ _ (Bh.set r ⟨I.heap.size,3,none⟩ h _).cells).mono ?_;rintro e w7 ⟨rfl,F⟩))
  go_ret2;exact⟨rfl,andThen (Below.setCell (m.trans ((n.trans (i.mono n.size)).mono m.size)) m.size _) F⟩
theorem gU (p:ByteArray)(i:Int)(r:ByteArray)(s:p.size≤140737488355328)(w:World):
 Cr 286 #[p,i,r] w (Gm (I0 p i r)):=by
 have f:=Hq (fun W=>D2 p s W);have n:=Hq (fun W=>N5 r W);change Hid (∀ W,Calls _ _ _ _ fun e w'=>e= .returned (.bool (Gp r))∧_)at n;have a:=Cf p;unfold I0
 cases l:Bj p with
 |false=>
  rw[if_pos rfl];rw[l]at f;generalize Ab p=x at f;clear a l n;go_enter Tryz.func286,Tryz.ntmps286
  go_wp2_with(first|(go_at_call 135;refine(f.out _).mono ?_;rintro e t ⟨u,A,c,rfl,b,d⟩))
  go_ret2;exact⟨rfl,Ap d⟩
 |true=>
  rw[if_neg (by simp)]
  by_cases v:i<0
  ·rw[if_pos v]
   rw[l]at f;generalize Ab p=x at f;clear a l n;go_enter Tryz.func286,Tryz.ntmps286
   go_wp2_with(first|(go_at_call 135;refine(f.out _).mono ?_;rintro e t ⟨u,A,c,rfl,b,d⟩;obtain⟨g,q⟩:=b rfl;clear b;subst g))
   go_ret2;exact⟨rfl,Ap d⟩
  ·rw[if_neg v]
   obtain⟨k,rfl⟩:=Int.eq_ofNat_of_zero_le (show 0≤i by omega);have C:(0:Int)≤(k:Int):=(by omega);clear v;rw[show((k:Int)).toNat=k from rfl]
   cases g:Gp r with
   |false=>
    rw[if_pos rfl];rw[g]at n;rw[l]at f;generalize Ab p=x at f;clear a l g;go_enter Tryz.func286,Tryz.ntmps286
    go_wp2_with(first|(go_at_call 135;refine(f.out _).mono ?_;rintro e t ⟨u,A,c,rfl,b,d⟩;obtain⟨g,q⟩:=b rfl;clear b;subst g)|(go_at_call 136;refine(n.out _).mono ?_;rintro e D ⟨rfl,rfl⟩))
    go_ret2;exact⟨rfl,Ap d⟩
   |true=>
    rw[if_neg (by simp)]
    by_cases z:k<(Ab p).recs.length
    ·have E:=a.fine.len
     rw[if_neg (by omega)];unfold Pg.Gn;rw[if_neg (by omega)];exact mQ p k r s l z g w
    ·have j:Pg.Aw (Ab p).recs (k:Int)=⟨#[]⟩:=Pg.Ju (by omega)
     have m:Pg.Gn (Ab p).recs k r=Pg.putAt (Ab p).recs k r:=if_pos (by omega);have B:=Hq (fun W=>Uq p (k:Int) r s W);have hO:Hk p (k:Int) r=(if(512:Int)<(k:Int)then(⟨#[]⟩,18)else Pg.Dz (A4 p (Pg.Gn (Ab p).recs k r))):=by
      unfold Hk;rw[if_neg (by rw[l];simp),if_neg (by omega),if_neg (by rw[j];exact fun h=>h rfl),if_neg (by rw[g];simp),m];rfl
     rw[← hO];generalize Hk p (k:Int) r=o at B ⊢;rw[l]at f;rw[g]at n;generalize Ab p=x at f z;have F:(x.recs.length:Int)≤(k:Int):=(by omega);clear a l g j m hO;go_enter Tryz.func286,Tryz.ntmps286
     go_wp2_with(first|(go_at_call 135;refine(f.out _).mono ?_;rintro e t ⟨u,A,c,rfl,b,d⟩;obtain⟨g,q⟩:=b rfl;clear b;subst g)|(go_at_call 136;refine(n.out _).mono ?_;rintro e D ⟨rfl,rfl⟩)|(go_at_call 59;refine(B.out _).mono ?_;rintro e G ⟨rfl,y⟩))
     go_ret2;exact⟨rfl,andThen (Ap d) y⟩
theorem gV (p:ByteArray)(i:Int)(l:p.size≤140737488355328)(w:World):
 Cr 287 #[p,i] w (Gm (Jr p i)):=by
 have d:=Hq (fun W=>D2 p l W);have j:=Hq (fun W=>Dd p i l W);unfold Jr
 cases g:Bj p with
 |false=>
  rw[if_pos rfl];rw[g]at d;generalize Ab p=x at d;clear g j;go_enter Tryz.func287,Tryz.ntmps287
  go_wp2_with(first|(go_at_call 135;refine(d.out _).mono ?_;rintro e n ⟨o,A,c,rfl,a,b⟩))
  go_ret2;exact⟨rfl,Ap b⟩
 |true=>
  rw[if_neg (by simp)]
  by_cases f:(Pg.Aw (Ab p).recs i).size=0
  ·rw[if_pos f]
   rw[g]at d;clear g;rw[decide_eq_true f]at j;generalize Pg.Aw (Ab p).recs i=q at j;generalize Ab p=x at d;clear f;go_enter Tryz.func287,Tryz.ntmps287
   go_wp2_with(first|(go_at_call 135;refine(d.out _).mono ?_;rintro e n ⟨o,A,c,rfl,a,b⟩;obtain⟨r,s⟩:=a rfl;clear a;subst r)|(go_at_call 98;refine(j.out _).mono ?_;rintro e u ⟨rfl,h⟩;obtain⟨c0,c1,c2,c3,f0,f1,f2,f3⟩:=Dh (Ch h)))
   go_ret2;exact⟨rfl,andThen b (Bb h)⟩
  ·rw[if_neg f]
   obtain⟨m,t⟩:=Pg.Gc f;obtain⟨k,rfl⟩:=Int.eq_ofNat_of_zero_le m;rw[show((k:Int)).toNat=k from rfl];exact mR p k l g (by omega) f w
theorem mS {p q:ByteArray}(h:p.data.toList=q.data.toList):p=q:=ByteArray.ext (Array.toList_inj.1 h)
theorem eJ {p:ByteArray}{x:Pg.C7}(h:Pg.right p.data.toList=some x):Bj p=true∧Ab p=x:=by
 unfold Bj Ab Pg.J4;rw[h];exact⟨rfl,rfl⟩
theorem Tw {p:ByteArray}(h:Bj p=true):Pg.right p.data.toList=some (Ab p):=by
 unfold Bj at h;unfold Ab Pg.J4
 cases a:Pg.right p.data.toList with
 |none=>rw[a]at h;cases h
 |some x=>rfl
theorem Kd (p:ByteArray):p.data.toList.length=p.size:=by simp
def Gq (x:Pg.C7):ByteArray:=⟨(Pg.C8 x).toArray⟩
theorem Sj (x:Pg.C7):(Gq x).data.toList=Pg.C8 x:=rfl
theorem Sk {x:Pg.C7}(a:Pg.Ba (Pg.trim x.recs)≤512):(Gq x).size=512:=by
 rw[← Kd,Sj];exact Pg.Lp a
theorem Oe {x:Pg.C7}(a:Pg.Small x)(b:Pg.Ba (Pg.trim x.recs)≤512)(c:∀ r∈x.recs,r.size≤400):Bj (Gq x)=true∧Ab (Gq x)={x with recs:=Pg.trim x.recs}:=
 eJ (by rw[Sj];exact Pg.aM a b c)
theorem Yt {x:Pg.C7}(a:Pg.Ba (Pg.trim x.recs)≤512):Pg.Dz x=(Gq x,0):=Pg.Ph a
theorem Qg (x:Pg.C7):(Pg.Ba (Pg.trim x.recs)≤512∧Pg.Dz x=(Gq x,0))∨(512<Pg.Ba (Pg.trim x.recs)∧Pg.Dz x=(⟨#[]⟩,18)):=by
 rcases Nat.lt_or_ge 512 (Pg.Ba (Pg.trim x.recs))with h|h
 ·exact .inr ⟨h,Pg.Xv h⟩
 ·exact .inl ⟨h,Pg.Ph h⟩
theorem vG (n:Nat):(Oct.Bg (n:Int) 4).data.toList=Oct.Bn (Oct.word n) 4:=Oct.Ca _ 4 (by omega)
theorem Sl (t:ByteArray):(K9 t).data.toList=Oct.Bn (Oct.word (Oct.Gy t.data.toList)) 4++t.data.toList:=by
 unfold K9;rw[ByteArray.data_append,Array.toList_append,vG]
theorem L1 (p:ByteArray)(h:p.size=512):(p.extract 4 512).data.toList=p.data.toList.drop 4:=by
 rw[show 512=4+508 from rfl,extract_eq]
 show(p.data.toList.drop 4).take 508=_
 exact List.take_of_length_le (by rw[List.length_drop,Kd];omega)
theorem Ke {p:ByteArray}(h:Bj p=true):Bj (Ea p)=true∧Ab (Ea p)=Ab p∧Gs (Ea p)=true∧(Ea p).size=512:=by
 have e:=Fa h;have a:(Ea p).data.toList=Oct.Bn (Oct.word (Oct.Gy (p.data.toList.drop 4))) 4++p.data.toList.drop 4:=by
  unfold Ea;rw[if_pos h,Sl,L1 p e]
 have b:(Ea p).size=512:=by
  rw[← Kd,a,List.length_append,Oct.Be,List.length_drop,Kd];omega
 have c:(Ea p).data.toList.drop 4=p.data.toList.drop 4:=by rw[a];exact List.drop_left' (Oct.Be _ 4)
 have f:=Pg.fX (q:=(Ea p).data.toList) (Tw h) (by rw[Kd];exact b) c;obtain⟨d,g⟩:=eJ f;refine⟨d,g,?_,b⟩;unfold Gs;rw[d,Bool.true_and]
 apply decide_eq_true
 apply mS
 rw[Sl,L1 _ b,c];exact a.symm
end Go.Proofs.YtmldoihahndcgaaGreatDoor
namespace Pg
def Dw (rs:List ByteArray)(j:Nat):ByteArray:=(rs[j]?).getD ⟨#[]⟩
theorem Kf {rs:List ByteArray}{j:Nat}(h:rs.length≤j):Dw rs j=⟨#[]⟩:=by
 unfold Dw;rw[List.getElem?_eq_none h];rfl
theorem bT {rs:List ByteArray}{j:Nat}(h:j<rs.length):Dw rs j=rs[j]:=by
 unfold Dw;rw[List.getElem?_eq_getElem h];rfl
theorem Dn (rs:List ByteArray)(k:Nat):Aw rs (k:Int)=Dw rs k:=by
 unfold Aw Dw;rw[if_neg (by omega)];rfl
theorem nil_of_size {r:ByteArray}(h:r.size=0):r=⟨#[]⟩:=by
 apply ByteArray.ext
 exact Array.eq_empty_of_size_eq_zero h
theorem bU (rs:List ByteArray):∀ m j,Ek rs m≤j→j<m→(Dw rs j).size=0:=by
 intro m
 induction m with
 |zero=>intro j _ h;omega
 |succ m ih=>
  intro j a d;unfold Ek at a
  split at a
  ·rename_i b
   by_cases c:j=m
   ·rw[c];exact b
   ·exact ih j a (by omega)
  ·omega
theorem Of (rs:List ByteArray)(j:Nat):Dw (trim rs) j=Dw rs j:=by
 have a:=Nz rs rs.length
 by_cases h:j<Ek rs rs.length
 ·unfold Dw trim
  rw[List.getElem?_take_of_lt h]
 ·have b:Dw (trim rs) j=⟨#[]⟩:=Kf (by unfold trim;rw[List.length_take];omega)
  rw[b]
  by_cases c:j<rs.length
  ·exact(nil_of_size (bU rs rs.length j (by omega) c)).symm
  ·exact(Kf (by omega)).symm
theorem gW {rs ss:List ByteArray}(g:Ih rs)(i:Ih ss)(h:∀ j,Dw rs j=Dw ss j):rs=ss:=by
 have key:∀ {a b:List ByteArray},Ih a→(∀ j,Dw a j=Dw b j)→a.length≤b.length:=by
  intro a b k c;rcases Ry k with h0|h0
  ·omega
  ·rcases Nat.lt_or_ge b.length a.length with l|hge
   ·exfalso
    apply h0
    have d:=c (a.length-1);have m:Dw b (a.length-1)=⟨#[]⟩:=Kf (by omega);rw[m]at d;unfold Dw at d;rw[d];rfl
   ·exact hge
 have n:rs.length=ss.length:=Nat.le_antisymm (key g h) (key i fun j=>(h j).symm)
 apply List.ext_getElem n
 intro j e f;have:=h j
 rwa[bT e,bT f]at this
theorem Yu {rs ss:List ByteArray}(h:∀ j,Dw rs j=Dw ss j):trim rs=trim ss:=
 gW (O9 rs) (O9 ss) fun j=>by rw[Of,Of,h]
theorem Ew (rs:List ByteArray)(k:Nat)(r:ByteArray)(j:Nat):Dw (putAt rs k r) j=if j=k then r else Dw rs j:=Ug rs k r j
theorem Kg (rs:List ByteArray)(k:Nat)(r:ByteArray)(j:Nat):Dw (Gn rs k r) j=if j<k then Dw rs j else if j=k then r else Dw rs (j-1):=by
 unfold Gn
 split
 ·rename_i h
  rw[Ew]
  by_cases a:j=k
  ·rw[if_pos a,if_neg (by omega),if_pos a]
  ·rw[if_neg a]
   by_cases b:j<k
   ·rw[if_pos b]
   ·rw[if_neg b,if_neg a,Kf (by omega),Kf (by omega)]
 ·rename_i h
  unfold Dw;rw[List.append_assoc,List.getElem?_append];have c:(rs.take k).length=k:=by rw[List.length_take];omega
  rw[c]
  by_cases b:j<k
  ·rw[if_pos b,if_pos b,List.getElem?_take_of_lt b]
  ·rw[if_neg b,if_neg b,List.singleton_append]
   by_cases a:j=k
   ·rw[if_pos a,a,Nat.sub_self];rfl
   ·rw[if_neg a]
    obtain⟨m,rfl⟩:∃ m,j=k+1+m:=⟨j-(k+1),by omega⟩;rw[show k+1+m-k=m+1 by omega,List.getElem?_cons_succ,List.getElem?_drop,show k+1+m-1=k+m by omega]
theorem Pq (rs:List ByteArray)(k:Nat)(h:k<rs.length)(j:Nat):Dw (Fl rs k) j=if j<k then Dw rs j else Dw rs (j+1):=by
 unfold Fl Dw;rw[List.getElem?_append];have b:(rs.take k).length=k:=by rw[List.length_take];omega
 rw[b]
 by_cases a:j<k
 ·rw[if_pos a,if_pos a,List.getElem?_take_of_lt a]
 ·rw[if_neg a,if_neg a,List.getElem?_drop,show k+1+(j-k)=j+1 by omega]
end Pg
namespace Go.Proofs.YtmldoihahndcgaaGreatDoor
open Go.RowKit
structure Made (p q:ByteArray) (rs:List ByteArray):Prop where
 Bj:Bj q=true
 size:q.size=512
 lsn:(Ab q).lsn=(Ab p).lsn
 kind:(Ab q).kind=(Ab p).kind
 link:(Ab q).link=(Ab p).link
 Dw:∀ j,Pg.Dw (Ab q).recs j=Pg.Dw rs j
theorem I6 {p q:ByteArray}{rs:List ByteArray}{e:Int}(g:∀ r∈rs,r.size≤400)(h:Pg.Dz (A4 p rs)=(q,e))(i:e=0):Made p q rs∧q=Gq (A4 p rs):=by
 rcases Qg (A4 p rs)with⟨b,c⟩|⟨b,c⟩
 ·rw[c]at h
  injection h with d _
  obtain⟨f,a⟩:=Oe (Co p rs) b g;rw[d]at f a;refine⟨⟨f,by rw[← d];exact Sk b,by rw[a];rfl,by rw[a];rfl,by rw[a];rfl,fun j=>?_⟩,d.symm⟩;rw[a];exact Pg.Of rs j
 ·rw[c]at h
  injection h with _ k
  omega
theorem Sm {p:ByteArray}(h:Bj p=true):Cj p ((Ab p).lsn:Nat)=Gq (Ab p):=by
 have a:=(Cf p).fine.small.1;unfold Cj;rw[if_neg (by rw[h];simp;omega)]
 rfl
theorem Kh {p q:ByteArray}{rs:List ByteArray}(c:Bj p=true)(d:(Ab q).lsn=(Ab p).lsn)(f:(Ab q).kind=(Ab p).kind)(g:(Ab q).link=(Ab p).link)(h:∀ j,Pg.Dw rs j=Pg.Dw (Ab p).recs j):
 Pg.Dz (A4 q rs)=(Cj p ((Ab p).lsn:Nat),0):=by
 have a:=Cf p;have b:Pg.trim rs=(Ab p).recs:=by rw[Pg.Yu h];exact Pg.Fv a.tight
 have i:Pg.Ba (Pg.trim (A4 q rs).recs)≤512:=by show Pg.Ba (Pg.trim rs)≤512;rw[b];exact a.fits
 rw[Sm c,Yt i];have e:Pg.C8 (A4 q rs)=Pg.C8 (Ab p):=by
  unfold Pg.C8;have k:(A4 q rs).recs=rs:=rfl;rw[k,b,Pg.Fv a.tight];unfold Pg.Lh Pg.K8;rw[show(A4 q rs).lsn=(Ab p).lsn from d,show(A4 q rs).kind=(Ab p).kind from f,show(A4 q rs).link=(Ab p).link from g]
 unfold Gq;rw[e]
theorem Gg {a b:ByteArray}{x y:Int}(h:(a,x)=(b,y)):a=b∧x=y:=by injection h with c d;exact⟨c,d⟩
theorem F8 {b:Bool}(h:¬ b=false):b=true:=by cases b;exact absurd rfl h;rfl
theorem Fc (p:ByteArray):∀ r∈(Ab p).recs,r.size≤400:=(Cf p).fine.each
theorem V3 {p q r:ByteArray}{i:Int}(h:Hk p i r=(q,0)):∃ k:Nat,i=k∧Bj p=true∧(Pg.Dw (Ab p).recs k).size=0∧Gp r=true∧k≤512∧Made p q (Pg.putAt (Ab p).recs k r):=by
 unfold Hk at h
 split at h
 ·have:=(Gg h).2;omega
 ·rename_i b
  split at h
  ·have:=(Gg h).2;omega
  ·rename_i e
   obtain⟨k,rfl⟩:=Int.eq_ofNat_of_zero_le (show 0≤i by omega);rw[Pg.Dn]at h
   split at h
   ·have:=(Gg h).2;omega
   ·rename_i c
    split at h
    ·have:=(Gg h).2;omega
    ·rename_i d
     split at h
     ·have:=(Gg h).2;omega
     ·rename_i f
      have a:Gp r=true:=(by simpa using d);refine⟨k,rfl,F8 b,by simpa using c,a,by omega,(I6 (Pg.Hj (Fc p) (D0 a).2) h rfl).1⟩
theorem V4 {p q:ByteArray}{i:Int}(h:Jp p i=(q,0)):∃ k:Nat,i=k∧Bj p=true∧(Pg.Dw (Ab p).recs k).size≠0∧k<(Ab p).recs.length∧Made p q (Pg.putAt (Ab p).recs k ⟨#[]⟩):=by
 unfold Jp at h
 split at h
 ·have:=(Gg h).2;omega
 ·rename_i b
  split at h
  ·have:=(Gg h).2;omega
  ·rename_i a
   obtain⟨c,d⟩:=Pg.Gc a;obtain⟨k,rfl⟩:=Int.eq_ofNat_of_zero_le c;rw[Pg.Dn]at a;exact⟨k,rfl,F8 b,a,by omega,(I6 (Pg.Hj (Fc p) (by show(0:Nat)≤400;omega)) h rfl).1⟩
theorem V5 {p q r:ByteArray}{i:Int}(h:Iu p i r=(q,0)):∃ k:Nat,i=k∧Bj p=true∧Gp r=true∧(Pg.Dw (Ab p).recs k).size≠0∧k<(Ab p).recs.length∧Made p q (Pg.putAt (Ab p).recs k r):=by
 unfold Iu at h
 split at h
 ·have:=(Gg h).2;omega
 ·rename_i c
  split at h
  ·have:=(Gg h).2;omega
  ·rename_i d
   split at h
   ·have:=(Gg h).2;omega
   ·rename_i a
    have b:Gp r=true:=(by simpa using d);obtain⟨e,f⟩:=Pg.Gc a;obtain⟨k,rfl⟩:=Int.eq_ofNat_of_zero_le e;rw[Pg.Dn]at a;exact⟨k,rfl,F8 c,b,a,by omega,(I6 (Pg.Hj (Fc p) (D0 b).2) h rfl).1⟩
theorem V6 {p q r:ByteArray}{i:Int}(h:I0 p i r=(q,0)):∃ k:Nat,i=k∧Bj p=true∧Gp r=true∧k≤512∧Made p q (Pg.Gn (Ab p).recs k r):=by
 unfold I0 at h
 split at h
 ·have:=(Gg h).2;omega
 ·rename_i b
  split at h
  ·have:=(Gg h).2;omega
  ·rename_i d
   obtain⟨k,rfl⟩:=Int.eq_ofNat_of_zero_le (show 0≤i by omega)
   split at h
   ·have:=(Gg h).2;omega
   ·rename_i c
    split at h
    ·have:=(Gg h).2;omega
    ·have a:Gp r=true:=by simpa using c
     exact⟨k,rfl,F8 b,a,by omega,(I6 (Pg.Ui (Fc p) (D0 a).2) h rfl).1⟩
theorem V7 {p q:ByteArray}{i:Int}(h:Jr p i=(q,0)):∃ k:Nat,i=k∧Bj p=true∧(Pg.Dw (Ab p).recs k).size≠0∧k<(Ab p).recs.length∧Made p q (Pg.Fl (Ab p).recs k):=by
 unfold Jr at h
 split at h
 ·have:=(Gg h).2;omega
 ·rename_i b
  split at h
  ·have:=(Gg h).2;omega
  ·rename_i a
   obtain⟨c,d⟩:=Pg.Gc a;obtain⟨k,rfl⟩:=Int.eq_ofNat_of_zero_le c;rw[Pg.Dn]at a;exact⟨k,rfl,F8 b,a,by omega,(I6 (Pg.Uj (Fc p)) h rfl).1⟩
theorem mT {rs:List ByteArray}{k:Nat}(h:(Pg.Dw rs k).size≠0):k<rs.length:=by
 rcases Nat.lt_or_ge k rs.length with h1|h1
 ·exact h1
 ·rw[Pg.Kf h1]at h;exact absurd rfl h
theorem V8 {p:ByteArray}{k:Nat}(h:(Pg.Dw (Ab p).recs k).size≠0):Gp (Pg.Dw (Ab p).recs k)=true:=by
 unfold Gp
 apply decide_eq_true
 have a:=mT h;refine⟨by omega,?_⟩;rw[Pg.bT a];exact Fc p _ (List.getElem_mem a)
theorem eK {p r:ByteArray}{k:Nat}(a:Bj p=true)(c:(Pg.Dw (Ab p).recs k).size=0)(b:Gp r=true)(d:k≤512):Hk p k r=Pg.Dz (A4 p (Pg.putAt (Ab p).recs k r)):=by
 unfold Hk;rw[if_neg (by rw[a];simp),if_neg (by omega),if_neg (by rw[Pg.Dn];omega),if_neg (by rw[b];simp),if_neg (by omega)];rfl
theorem eL {p:ByteArray}{k:Nat}(a:Bj p=true)(b:(Pg.Dw (Ab p).recs k).size≠0):Jp p k=Pg.Dz (A4 p (Pg.putAt (Ab p).recs k ⟨#[]⟩)):=by
 unfold Jp;rw[if_neg (by rw[a];simp),if_neg (by rw[Pg.Dn];exact b)];rfl
theorem eM {p r:ByteArray}{k:Nat}(a:Bj p=true)(b:Gp r=true)(c:(Pg.Dw (Ab p).recs k).size≠0):Iu p k r=Pg.Dz (A4 p (Pg.putAt (Ab p).recs k r)):=by
 unfold Iu;rw[if_neg (by rw[a];simp),if_neg (by rw[b];simp),if_neg (by rw[Pg.Dn];exact c)];rfl
theorem eN {p r:ByteArray}{k:Nat}(a:Bj p=true)(b:Gp r=true)(c:k≤512):I0 p k r=Pg.Dz (A4 p (Pg.Gn (Ab p).recs k r)):=by
 unfold I0;rw[if_neg (by rw[a];simp),if_neg (by omega),if_neg (by rw[b];simp),if_neg (by omega)];rfl
theorem eO {p:ByteArray}{k:Nat}(a:Bj p=true)(b:(Pg.Dw (Ab p).recs k).size≠0):Jr p k=Pg.Dz (A4 p (Pg.Fl (Ab p).recs k)):=by
 unfold Jr;rw[if_neg (by rw[a];simp),if_neg (by rw[Pg.Dn];exact b)];rfl
def J6 (p:ByteArray):ByteArray:=Cj p ((Ab p).lsn:Nat)
theorem vH {p q r:ByteArray}{i:Int}(h:Hk p i r=(q,0)):(Pg.Aw (Ab p).recs i).size=0∧q.size=512∧Jp q i=(J6 p,0):=by
 obtain⟨k,rfl,c,b,d,e,M⟩:=V3 h;have f:=D0 d;refine⟨by rw[Pg.Dn];exact b,M.size,?_⟩;rw[eL M.Bj (by rw[M.Dw,Pg.Ew,if_pos rfl];omega)];refine Kh c M.lsn M.kind M.link fun j=>?_;rw[Pg.Ew,M.Dw,Pg.Ew]
 by_cases a:j=k
 ·rw[if_pos a,a,Pg.nil_of_size b]
 ·rw[if_neg a,if_neg a]
theorem vI {p q:ByteArray}{i:Int}(h:Jp p i=(q,0)):(Pg.Aw (Ab p).recs i).size≠0∧q.size=512∧Hk q i (Pg.Aw (Ab p).recs i)=(J6 p,0):=by
 obtain⟨k,rfl,c,b,d,M⟩:=V4 h;have e:=(Cf p).fine.len;rw[Pg.Dn];refine⟨b,M.size,?_⟩;rw[eK M.Bj (by rw[M.Dw,Pg.Ew,if_pos rfl];rfl) (V8 b) (by omega)];refine Kh c M.lsn M.kind M.link fun j=>?_;rw[Pg.Ew,M.Dw,Pg.Ew]
 by_cases a:j=k
 ·rw[if_pos a,a]
 ·rw[if_neg a,if_neg a]
theorem vJ {p q r:ByteArray}{i:Int}(h:Iu p i r=(q,0)):(Pg.Aw (Ab p).recs i).size≠0∧q.size=512∧Iu q i (Pg.Aw (Ab p).recs i)=(J6 p,0)∧(Ab q).lsn=(Ab p).lsn∧(Ab q).kind=(Ab p).kind∧(Ab q).link=(Ab p).link:=by
 obtain⟨k,rfl,c,d,b,e,M⟩:=V5 h;have f:=D0 d;rw[Pg.Dn];refine⟨b,M.size,?_,M.lsn,M.kind,M.link⟩;rw[eM M.Bj (V8 b) (by rw[M.Dw,Pg.Ew,if_pos rfl];omega)];refine Kh c M.lsn M.kind M.link fun j=>?_;rw[Pg.Ew,M.Dw,Pg.Ew]
 by_cases a:j=k
 ·rw[if_pos a,a]
 ·rw[if_neg a,if_neg a]
theorem vK {p q r:ByteArray}{i:Int}(h:I0 p i r=(q,0)):q.size=512∧Jr q i=(J6 p,0):=by
 obtain⟨k,rfl,c,d,e,M⟩:=V6 h;have f:=D0 d;refine⟨M.size,?_⟩;have b:(Pg.Dw (Ab q).recs k).size≠0:=by rw[M.Dw,Pg.Kg,if_neg (by omega),if_pos rfl];omega
 rw[eO M.Bj b];refine Kh c M.lsn M.kind M.link fun j=>?_;rw[Pg.Pq _ _ (mT b)]
 by_cases a:j<k
 ·rw[if_pos a,M.Dw,Pg.Kg,if_pos a]
 ·rw[if_neg a,M.Dw,Pg.Kg,if_neg (by omega),if_neg (by omega),Nat.add_sub_cancel]
theorem vL {p q:ByteArray}{i:Int}(h:Jr p i=(q,0)):q.size=512∧I0 q i (Pg.Aw (Ab p).recs i)=(J6 p,0):=by
 obtain⟨k,rfl,d,e,c,M⟩:=V7 h;have f:=(Cf p).fine.len;rw[Pg.Dn];refine⟨M.size,?_⟩;rw[eN M.Bj (V8 e) (by omega)];refine Kh d M.lsn M.kind M.link fun j=>?_;rw[Pg.Kg,M.Dw,M.Dw,Pg.Pq _ _ c,Pg.Pq _ _ c]
 by_cases b:j<k
 ·rw[if_pos b,if_pos b]
 ·rw[if_neg b]
  by_cases a:j=k
  ·rw[if_pos a,a]
  ·rw[if_neg a,if_neg (by omega),show j-1+1=j by omega]
end Go.Proofs.YtmldoihahndcgaaGreatDoor
namespace NumPlain
def Ur (n:Int):Bool:=decide (-1000000000000000≤n)&&decide (n≤1000000000000000)
theorem Yv {n:Int}(h:Ur n=true): -1000000000000000≤n∧n≤1000000000000000:=by
 simpa[Ur]using h
theorem mU {n:Int}(a: -1000000000000000≤n)(b:n≤1000000000000000):Ur n=true:=by
 simp[Ur,a,b]
def Ba (a:Int):Int:=if a<0 then -a else a
open Go.Lib
theorem Gw {d:Nat}(h:d<10):(UInt8.ofNat (48+d)).toNat=48+d:=by
 rw[UInt8.toNat_ofNat'];omega
theorem Og:∀ (u:Nat),u≤1000000000000000→parseUint10 0 (decDigits u)= .ok u:=by
 have key:∀ (u:Nat),u≤1000000000000000→∀ r,parseUint10 0 (decDigits u++r)=parseUint10 u r:=by
  intro u
  induction u using Nat.strongRecOn with
  |_ u b=>
   intro a r;rw[decDigits]
   by_cases h:u<10
   ·rw[dif_pos h]
    simp only[List.cons_append,List.nil_append,parseUint10,Gw h];rw[if_pos (by omega),if_neg (by omega),if_neg (by omega)]
    congr 1;omega
   ·rw[dif_neg h,List.append_assoc,b (u/10) (by omega) (by omega)]
    simp only[List.cons_append,List.nil_append,parseUint10,Gw (show u%10<10 by omega)];rw[if_pos (by omega),if_neg (by omega),if_neg (by omega)]
    congr 1;omega
 intro u a;have:=key u a []
 simpa[parseUint10]using this
theorem V9 (u:Nat):decDigits u≠[]:=by
 rw[decDigits];split<;>simp
theorem L2 (u:Nat):∃ c r,decDigits u=c::r∧48≤c.toNat∧c.toNat≤57:=by
 induction u using Nat.strongRecOn with
 |_ u a=>
  rw[decDigits]
  by_cases h:u<10
  ·rw[dif_pos h]
   exact⟨_,_,rfl,by rw[Gw h];omega,by rw[Gw h];omega⟩
  ·rw[dif_neg h]
   obtain⟨c,r,e,b,d⟩:=a (u/10) (by omega);exact⟨c,r++[UInt8.ofNat (48+u%10)],by rw[e];rfl,b,d⟩
theorem Kz {v:Int}(b:Ur v=true):atoiAll (itoa v)= .ok v:=by
 obtain⟨g,h⟩:=Yv b
 by_cases i:v<0
 ·obtain⟨u,rfl⟩:∃ u:Nat,v= -(u:Int):=⟨v.natAbs,by omega⟩
  rw[itoa_neg u (by omega)];have a:parseMag (decDigits u)= .ok u:=by rw[parseMag,if_neg (V9 u),Og u (by omega)]
  simp only[atoiAll];rw[if_pos (by decide),a];simp only[];rw[if_neg (by simp),if_neg (by omega),if_pos (by decide)]
 ·obtain⟨u,rfl⟩:∃ u:Nat,v=(u:Int):=⟨v.natAbs,by omega⟩
  rw[itoa_nonneg u];obtain⟨c,r,e,d,f⟩:=L2 u;have a:=Og u (by omega);rw[e]at a;simp only[e,atoiAll];rw[if_neg (by omega)];simp only[parseMag,if_neg (List.cons_ne_nil c r),a];rw[if_neg (by omega),if_neg (by omega),if_neg (by omega)]
def Dp (l:List UInt8):Int×Bool:=
 match atoiAll l with
 | .ok v=>if Ur v&&decide (itoa v=l)then(v,true)else(0,false)
 |_=>(0,false)
theorem Qh {v:Int}(a:Ur v=true):Dp (itoa v)=(v,true):=by
 simp[Dp,Kz a,a]
theorem Yw {l:List UInt8}(h:∀ v,Ur v=true→itoa v≠l):Dp l=(0,false):=by
 unfold Dp
 split
 ·rename_i v b
  rw[if_neg];intro a;simp only[Bool.and_eq_true,decide_eq_true_eq]at a;exact h v a.1 a.2
 ·rfl
def D4 (n:Int):List UInt8→Int
 |[]=>n
 |c::r=>D4 (if 48≤c.toNat∧c.toNat≤57 then 10*n+c.toNat-48 else n) r
theorem M7 (n:Int):∀ (l r:List UInt8),D4 n (l++r)=D4 (D4 n l) r:=by
 intro l
 induction l generalizing n with
 |nil=>intro r;rfl
 |cons c l ih=>intro r;simp only[List.cons_append,D4];exact ih _ r
theorem Wa:∀ (l:List UInt8) (n:Int),0≤n→0≤D4 n l∧D4 n l<(n+1)*10^l.length:=by
 intro l
 induction l with
 |nil=>intro n h;simp[D4];omega
 |cons c l ih=>
  intro n h;simp only[D4];have d:(0:Int)<10^l.length:=Int.pow_pos (by omega)
  split
  ·rename_i e
   obtain⟨a,b⟩:=ih (10*n+c.toNat-48) (by omega);refine⟨a,Int.lt_of_lt_of_le b ?_⟩;rw[List.length_cons,Int.pow_succ,Int.mul_comm (10^l.length) 10,← Int.mul_assoc];exact Int.mul_le_mul_of_nonneg_right (by omega) (Int.le_of_lt d)
  ·obtain⟨a,b⟩:=ih n h
   refine⟨a,Int.lt_of_lt_of_le b ?_⟩;rw[List.length_cons,Int.pow_succ,Int.mul_comm (10^l.length) 10,← Int.mul_assoc];exact Int.mul_le_mul_of_nonneg_right (by omega) (Int.le_of_lt d)
theorem M8 (u:Nat):D4 0 (decDigits u)=u:=by
 induction u using Nat.strongRecOn with
 |_ u a=>
  rw[decDigits]
  by_cases h:u<10
  ·rw[dif_pos h]
   simp only[D4,Gw h];rw[if_pos (by omega)];omega
  ·rw[dif_neg h,M7,a (u/10) (by omega)]
   simp only[D4,Gw (show u%10<10 by omega)];rw[if_pos (by omega)];omega
def signed (l:List UInt8):Int:=if l.head? =some 45 then - D4 0 l else D4 0 l
def Sn (l:List UInt8):Int×Bool:=
 if 17<l.length then(0,false)else if Ur (signed l)&&decide (itoa (signed l)=l)then(signed l,true)else(0,false)
theorem Yx (v:Int):signed (itoa v)=v:=by
 by_cases d:v<0
 ·obtain⟨u,rfl⟩:∃ u:Nat,v= -(u:Int):=⟨v.natAbs,by omega⟩
  rw[itoa_neg u (by omega)];simp only[signed,List.head?_cons,if_true];rw[show D4 0 (45::decDigits u)=D4 0 (decDigits u)from rfl,M8]
 ·obtain⟨u,rfl⟩:∃ u:Nat,v=(u:Int):=⟨v.natAbs,by omega⟩
  rw[itoa_nonneg u];obtain⟨c,r,e,a,b⟩:=L2 u;rw[signed,if_neg,M8];rw[e];simp only[List.head?_cons,Option.some.injEq];rintro rfl
  simp at a
theorem Sq (u:Nat)(h:u≤1000000000000000):nDigits u≤16:=by
 have key:∀ (k u:Nat),u<10^(k+1)→nDigits u≤k+1:=by
  intro k
  induction k with
  |zero=>intro u a;rw[nDigits_small (by simpa using a)];exact Nat.le_refl _
  |succ k ih=>
   intro u a
   by_cases h:u<10
   ·rw[nDigits_small h];omega
   ·rw[nDigits_big h]
    have:=ih (u/10) (by rw[Nat.div_lt_iff_lt_mul (by omega)];rw[Nat.pow_succ]at a;exact a);omega
 exact key 15 u (by omega)
theorem bV {v:Int}(a:Ur v=true):(itoa v).length≤17:=by
 obtain⟨b,c⟩:=Yv a
 by_cases d:v<0
 ·obtain⟨u,rfl⟩:∃ u:Nat,v= -(u:Int):=⟨v.natAbs,by omega⟩
  rw[itoa_neg u (by omega),List.length_cons,decDigits_length];have:=Sq u (by omega);omega
 ·obtain⟨u,rfl⟩:∃ u:Nat,v=(u:Int):=⟨v.natAbs,by omega⟩
  rw[itoa_nonneg u,decDigits_length];have:=Sq u (by omega);omega
theorem Us (l:List UInt8):Sn l=Dp l:=by
 by_cases h:∃ v,Ur v=true∧itoa v=l
 ·obtain⟨v,a,rfl⟩:=h
  rw[Qh a,Sn,if_neg (by have:=bV a;omega)];simp only[Yx,a]
  simp
 ·have c:∀ v,Ur v=true→itoa v≠l:=fun v a e=>h ⟨v,a,e⟩
  rw[Yw c,Sn]
  split
  ·rfl
  ·rw[if_neg]
   intro b;simp only[Bool.and_eq_true,decide_eq_true_eq]at b;exact c _ b.1 b.2
theorem gX {l:List UInt8}{v:Int}(h:Dp l=(v,true)):Ur v=true∧itoa v=l:=by
 unfold Dp at h
 split at h
 ·split at h
  ·rename_i a
   simp only[Bool.and_eq_true,decide_eq_true_eq]at a;simp only[Prod.mk.injEq,and_true]at h;subst h;exact a
  ·simp at h
 ·simp at h
theorem bW {l:List UInt8}(h:(Dp l).2=true):Ur (Dp l).1=true∧itoa (Dp l).1=l:=
 gX (v:=(Dp l).1) (by rw[← h])
theorem gY {n:Int}(h:10≤n.natAbs):itoa n=itoa (n.tdiv 10)++[UInt8.ofNat (48+n.natAbs%10)]:=by
 by_cases a:n<0
 ·obtain⟨u,rfl⟩:∃ u:Nat,n= -(u:Int):=⟨n.natAbs,by omega⟩
  have e:(-(u:Int)).tdiv 10= -((u/10:Nat):Int):=by
   rw[Int.neg_tdiv];congr 1
  rw[e,itoa_neg u (by omega),itoa_neg (u/10) (by omega),decDigits,dif_neg (by omega)]
  simp
 ·obtain⟨u,rfl⟩:∃ u:Nat,n=(u:Int):=⟨n.natAbs,by omega⟩
  have e:(u:Int).tdiv 10=((u/10:Nat):Int):=by
   rw[Int.tdiv_eq_ediv_of_nonneg (by omega)];rfl
  rw[e,itoa_nonneg,itoa_nonneg,decDigits,dif_neg (by omega)]
  simp
theorem mV {d:Nat}(h:d<10):itoa (d:Int)=[UInt8.ofNat (48+d)]:=by
 rw[itoa_nonneg,decDigits,dif_pos h]
theorem bX {d:Nat}(a:1≤d)(h:d<10):itoa (-(d:Int))=[45,UInt8.ofNat (48+d)]:=by
 rw[itoa_neg d a,decDigits,dif_pos h]
def digits:ByteArray:=⟨#[48,49,50,51,52,53,54,55,56,57]⟩
theorem K1 (d:Nat)(h:d<10):digits.extract d (d+1)=⟨#[UInt8.ofNat (48+d)]⟩:=by
 have:∀ d:Fin 10,(digits.extract d.val (d.val+1)).data=#[UInt8.ofNat (48+d.val)]:=by decide+kernel
 exact congrArg ByteArray.mk (this ⟨d,h⟩)
theorem bY {n:Int}(h:n<0):n.tdiv 10= -((n.natAbs/10:Nat):Int)∧n.tmod 10= -((n.natAbs%10:Nat):Int):=by
 obtain⟨u,rfl⟩:∃ u:Nat,n= -(u:Int):=⟨n.natAbs,by omega⟩;rw[Int.neg_tdiv,Int.neg_tmod]
 constructor
 ·rw[Int.tdiv_eq_ediv_of_nonneg (by omega)];omega
 ·rw[Int.tmod_eq_emod_of_nonneg (by omega)];omega
end NumPlain
namespace Go.Proofs.YtmldoihahndcgaaGreatDoor
open Go.RowKit
structure Hf where
 kind:Int
 slot:Int
 Bd:ByteArray
 new:ByteArray
def Ip (n:Int):ByteArray:=⟨(Lib.itoa n).toArray⟩
def Da:ByteArray×Bool:=(⟨#[]⟩,false)
def okB (x:ByteArray×Int):ByteArray×Bool:=(x.1,decide (x.2=0))
def Ee (p:ByteArray)(o:Hf):Bool:= !decide ((Pg.Aw (Ab p).recs o.slot).size=0)&&decide (o.Bd=Pg.Aw (Ab p).recs o.slot)
def D8 (p:ByteArray)(o:Hf):ByteArray×Bool:=
 match Lib.atoiAll o.new.data.toList with
 | .ok n=>if Ip n=o.new∧o.Bd=Ip ((Ab p).link:Nat)∧o.slot=0 then(Dy p n,!decide ((Dy p n).size=0))else Da
 |_=>Da
def Ha (p:ByteArray)(o:Hf):ByteArray×Bool:=
 if o.slot=0∧o.Bd=Cj p 0∧¬ o.new.size=0∧Cj o.new 0=o.new then(Cj o.new ((Ab p).lsn:Nat),!decide ((Cj o.new ((Ab p).lsn:Nat)).size=0))else Da
def Bv (p:ByteArray)(o:Hf):ByteArray×Bool:=
 if o.kind=1 then(if o.Bd.size=0 then okB (Hk p o.slot o.new)else Da)
 else if o.kind=2 then(if Ee p o&&decide (o.new.size=0)then okB (Jp p o.slot)else Da)
 else if o.kind=3 then(if Ee p o then okB (Iu p o.slot o.new)else Da)
 else if o.kind=4 then(if o.Bd.size=0 then okB (I0 p o.slot o.new)else Da)
 else if o.kind=5 then(if Ee p o&&decide (o.new.size=0)then okB (Jr p o.slot)else Da)
 else if o.kind=6 then D8 p o
 else if o.kind=7 then Ha p o
 else Da
def Fe (p:ByteArray)(o:Hf):Bool:=Bj p&&(Bv p o).2
def eP (p:ByteArray)(o:Hf):ByteArray×Int:=if Fe p o then((Bv p o).1,0)else(⟨#[]⟩,1)
def vM (k:Int):Int:=if k=1 then 2 else if k=2 then 1 else if k=4 then 5 else if k=5 then 4 else k
def eQ (o:Hf):Hf:=⟨vM o.kind,o.slot,o.new,o.Bd⟩
theorem Oh {x:ByteArray×Int}(h:(okB x).2=true):x=(x.1,0):=by
 obtain⟨a,e⟩:=x;have:e=0:=of_decide_eq_true h;rw[this]
theorem eR {p:ByteArray}{n:Int}(h:¬ (Cj p n).size=0):Bj p=true∧0≤n∧n<281474976710656:=by
 unfold Cj at h
 split at h
 ·exact absurd rfl h
 ·rename_i a
  cases b:Bj p with
  |false=>exact absurd (.inl b) a
  |true=>exact⟨rfl,by omega,by omega⟩
theorem Oi {p:ByteArray}{n:Int}(h:¬ (Dy p n).size=0):Bj p=true∧0≤n∧n<16777216:=by
 unfold Dy at h
 split at h
 ·exact absurd rfl h
 ·rename_i a
  cases b:Bj p with
  |false=>exact absurd (.inl b) a
  |true=>exact⟨rfl,by omega,by omega⟩
theorem eS (p:ByteArray){l k:Nat}(d:l<281474976710656)(e:k<16777216):Bj (Gq ⟨l,(Ab p).kind,k,(Ab p).recs⟩)=true∧Ab (Gq ⟨l,(Ab p).kind,k,(Ab p).recs⟩)=⟨l,(Ab p).kind,k,(Ab p).recs⟩∧(Gq ⟨l,(Ab p).kind,k,(Ab p).recs⟩).size=512:=by
 have a:=Cf p;have b:=Pg.Fv a.tight;have c:Pg.Ba (Pg.trim (Ab p).recs)≤512:=by rw[b];exact a.fits
 obtain⟨f,g⟩:=Oe (x:=⟨l,(Ab p).kind,k,(Ab p).recs⟩) ⟨d,a.fine.small.2.1,e⟩ c a.fine.each;refine⟨f,?_,Sk c⟩;rw[g];simp only[b]
theorem Oj {p:ByteArray}(h:Bj p=true){l:Nat}(a:l<281474976710656):Cj p (l:Int)=Gq ⟨l,(Ab p).kind,(Ab p).link,(Ab p).recs⟩:=by
 unfold Cj;rw[if_neg (by rw[h];simp;omega)]
 rfl
theorem Pr {p:ByteArray}(h:Bj p=true){k:Nat}(a:k<16777216):Dy p (k:Int)=Gq ⟨(Ab p).lsn,(Ab p).kind,k,(Ab p).recs⟩:=by
 unfold Dy;rw[if_neg (by rw[h];simp;omega)]
 rfl
theorem Ho (p:ByteArray):(Ab p).lsn<281474976710656:=(Cf p).fine.small.1
theorem Jk (p:ByteArray):(Ab p).link<16777216:=(Cf p).fine.small.2.2
theorem Ki {p:ByteArray}(h:Bj p=true){l:Nat}(a:l<281474976710656):Bj (Cj p (l:Int))=true∧Ab (Cj p (l:Int))=⟨l,(Ab p).kind,(Ab p).link,(Ab p).recs⟩∧(Cj p (l:Int)).size=512:=by
 rw[Oj h a];exact eS p a (Jk p)
theorem gZ {p:ByteArray}(h:Bj p=true){k:Nat}(a:k<16777216):Bj (Dy p (k:Int))=true∧Ab (Dy p (k:Int))=⟨(Ab p).lsn,(Ab p).kind,k,(Ab p).recs⟩∧(Dy p (k:Int)).size=512:=by
 rw[Pr h a];exact eS p (Ho p) a
theorem Re {p:ByteArray}(h:Bj p=true){l m:Nat}(b:l<281474976710656)(a:m<281474976710656):Cj (Cj p (l:Int)) (m:Int)=Cj p (m:Int):=by
 obtain⟨c,d,_⟩:=Ki h b;rw[Oj c a,Oj h a,d]
theorem Nq {p:ByteArray}(h:Bj p=true):J6 p=Gq (Ab p):=Sm h
theorem Yy {p:ByteArray}(h:Bj p=true):Bj (J6 p)=true∧Ab (J6 p)=Ab p∧(J6 p).size=512:=Ki h (Ho p)
theorem hI (n:Nat)(h:n<16777216):Lib.atoiAll (Ip (n:Int)).data.toList= .ok (n:Int):=by
 show Lib.atoiAll (Lib.itoa (n:Int))=_
 exact NumPlain.Kz (NumPlain.mU (by omega) (by omega))
structure tJ (p q:ByteArray) (o:Hf):Prop where
 page:Bj q=true
 size:q.size=512
 lsn:(Ab q).lsn=(Ab p).lsn
 norm:J6 q=q
 back:Bv q (eQ o)=(J6 p,true)
theorem Kj {p q:ByteArray}{rs:List ByteArray}(b:∀ r∈rs,r.size≤400)(h:Pg.Dz (A4 p rs)=(q,0)):J6 q=q:=by
 obtain⟨M,c⟩:=I6 b h rfl;rw[Nq M.Bj];have a:Pg.Ba (Pg.trim rs)≤512:=by
  rcases Qg (A4 p rs)with⟨a,_⟩|⟨_,f⟩
  ·exact a
  ·rw[f]at h;injection h with _ h;omega
 obtain⟨_,d⟩:=Oe (Co p rs) a b;rw[← c]at d;rw[d];have g:Pg.trim (Pg.trim rs)=Pg.trim rs:=Pg.Yu fun j=>Pg.Of rs j;have e:Pg.C8 {A4 p rs with recs:=Pg.trim (A4 p rs).recs}=Pg.C8 (A4 p rs):=by
  unfold Pg.C8
  show Pg.Lh _ (Pg.trim (Pg.trim rs))=Pg.Lh _ (Pg.trim rs)
  rw[g]
  rfl
 rw[c];unfold Gq;rw[e]
theorem hJ {p q r:ByteArray}{i:Int}(h:Hk p i r=(q,0)):J6 q=q:=by
 obtain⟨k,rfl,b,c,a,d,_⟩:=V3 h;rw[eK b c a d]at h;exact Kj (Pg.Hj (Fc p) (D0 a).2) h
theorem hU {p q:ByteArray}{i:Int}(h:Jp p i=(q,0)):J6 q=q:=by
 obtain⟨k,rfl,a,b,c,_⟩:=V4 h;rw[eL a b]at h;exact Kj (Pg.Hj (Fc p) (by show 0≤400;omega)) h
theorem iA {p q r:ByteArray}{i:Int}(h:Iu p i r=(q,0)):J6 q=q:=by
 obtain⟨k,rfl,b,a,c,d,_⟩:=V5 h;rw[eM b a c]at h;exact Kj (Pg.Hj (Fc p) (D0 a).2) h
theorem iB {p q r:ByteArray}{i:Int}(h:I0 p i r=(q,0)):J6 q=q:=by
 obtain⟨k,rfl,b,a,c,_⟩:=V6 h;rw[eN b a c]at h;exact Kj (Pg.Ui (Fc p) (D0 a).2) h
theorem iC {p q:ByteArray}{i:Int}(h:Jr p i=(q,0)):J6 q=q:=by
 obtain⟨k,rfl,a,b,c,_⟩:=V7 h;rw[eO a b]at h;exact Kj (Pg.Uj (Fc p)) h
theorem Ps {p:ByteArray}{o:Hf}(h:Ee p o=true):(Pg.Aw (Ab p).recs o.slot).size≠0∧o.Bd=Pg.Aw (Ab p).recs o.slot:=by
 unfold Ee at h;rw[Bool.and_eq_true]at h;exact⟨by simpa using h.1,of_decide_eq_true h.2⟩
theorem Sr {p:ByteArray}{o:Hf}(h:o.Bd.size≠0)(a:Pg.Aw (Ab p).recs o.slot=o.Bd):Ee p o=true:=by
 unfold Ee;rw[a]
 simp[h]
theorem tK {p:ByteArray}{o:Hf}(h:Fe p o=true):tJ p (Bv p o).1 o:=by
 unfold Fe at h;rw[Bool.and_eq_true]at h;obtain⟨q,a⟩:=h;obtain⟨kind,slot,Bd,new⟩:=o
 by_cases w:kind=1
 ·subst w
  have e:Bv p ⟨1,slot,Bd,new⟩=if Bd.size=0 then okB (Hk p slot new)else Da:=if_pos rfl
  rw[e]at a ⊢
  split at a
  ·rename_i d
   rw[if_pos d];have b:=Oh a;obtain⟨k,r,_,s,f,_,M⟩:=V3 b;obtain⟨_,c,g⟩:=vH b;have x:=D0 f;have hold:Pg.Aw (Ab (Hk p slot new).1).recs slot=new:=(by subst r;rw[Pg.Dn,M.Dw,Pg.Ew,if_pos rfl]);refine⟨M.Bj,c,M.lsn,hJ b,?_⟩
   show(if Ee (Hk p slot new).1 ⟨2,slot,new,Bd⟩&&decide (Bd.size=0)then okB (Jp (Hk p slot new).1 slot)else Da)=_
   rw[Sr (by show new.size≠0;omega) hold,decide_eq_true d,g]
   rfl
  ·cases a
 by_cases y:kind=2
 ·subst y
  have e:Bv p ⟨2,slot,Bd,new⟩=if Ee p ⟨2,slot,Bd,new⟩&&decide (new.size=0)then okB (Jp p slot)else Da:=rfl
  rw[e]at a ⊢
  split at a
  ·rename_i d
   rw[if_pos d];rw[Bool.and_eq_true]at d;obtain⟨t,i⟩:=Ps d.1;have j:=of_decide_eq_true d.2;have b:=Oh a;obtain⟨k,r,_,s,_,M⟩:=V4 b;obtain⟨_,c,g⟩:=vI b;refine⟨M.Bj,c,M.lsn,hU b,?_⟩
   show(if new.size=0 then okB (Hk (Jp p slot).1 slot Bd)else Da)=_
   rw[if_pos j,show Bd=Pg.Aw (Ab p).recs slot from i,g]
   rfl
  ·cases a
 by_cases z:kind=3
 ·subst z
  have e:Bv p ⟨3,slot,Bd,new⟩=if Ee p ⟨3,slot,Bd,new⟩then okB (Iu p slot new)else Da:=rfl
  rw[e]at a ⊢
  split at a
  ·rename_i d
   rw[if_pos d];obtain⟨t,i⟩:=Ps d;have b:=Oh a;obtain⟨k,r,_,f,s,_,M⟩:=V5 b;obtain⟨_,c,g,J,_⟩:=vJ b;have x:=D0 f;have hold:Pg.Aw (Ab (Iu p slot new).1).recs slot=new:=(by subst r;rw[Pg.Dn,M.Dw,Pg.Ew,if_pos rfl]);refine⟨M.Bj,c,M.lsn,iA b,?_⟩
   show(if Ee (Iu p slot new).1 ⟨3,slot,new,Bd⟩then okB (Iu (Iu p slot new).1 slot Bd)else Da)=_
   rw[if_pos (Sr (by show new.size≠0;omega) hold),show Bd=Pg.Aw (Ab p).recs slot from i,g]
   rfl
  ·cases a
 by_cases A:kind=4
 ·subst A
  have e:Bv p ⟨4,slot,Bd,new⟩=if Bd.size=0 then okB (I0 p slot new)else Da:=rfl
  rw[e]at a ⊢
  split at a
  ·rename_i d
   rw[if_pos d];have b:=Oh a;obtain⟨k,r,_,f,_,M⟩:=V6 b;obtain⟨c,g⟩:=vK b;have x:=D0 f;have hold:Pg.Aw (Ab (I0 p slot new).1).recs slot=new:=(by subst r;rw[Pg.Dn,M.Dw,Pg.Kg,if_neg (by omega),if_pos rfl]);refine⟨M.Bj,c,M.lsn,iB b,?_⟩
   show(if Ee (I0 p slot new).1 ⟨5,slot,new,Bd⟩&&decide (Bd.size=0)then okB (Jr (I0 p slot new).1 slot)else Da)=_
   rw[Sr (by show new.size≠0;omega) hold,decide_eq_true d,g]
   rfl
  ·cases a
 by_cases B:kind=5
 ·subst B
  have e:Bv p ⟨5,slot,Bd,new⟩=if Ee p ⟨5,slot,Bd,new⟩&&decide (new.size=0)then okB (Jr p slot)else Da:=rfl
  rw[e]at a ⊢
  split at a
  ·rename_i d
   rw[if_pos d];rw[Bool.and_eq_true]at d;obtain⟨t,i⟩:=Ps d.1;have j:=of_decide_eq_true d.2;have b:=Oh a;obtain⟨k,r,_,s,_,M⟩:=V7 b;obtain⟨c,g⟩:=vL b;refine⟨M.Bj,c,M.lsn,iC b,?_⟩
   show(if new.size=0 then okB (I0 (Jr p slot).1 slot Bd)else Da)=_
   rw[if_pos j,show Bd=Pg.Aw (Ab p).recs slot from i,g]
   rfl
  ·cases a
 by_cases C:kind=6
 ·subst C
  have e:Bv p ⟨6,slot,Bd,new⟩=D8 p ⟨6,slot,Bd,new⟩:=rfl;rw[e]at a ⊢;unfold D8 at a ⊢;simp only at a ⊢;obtain⟨n,j⟩:∃ n,Lib.atoiAll new.data.toList= .ok n:=by
   cases j:Lib.atoiAll new.data.toList with
   |ok n=>exact⟨n,rfl⟩
   |_=>rw[j]at a;cases a
  rw[j]at a ⊢;simp only at a ⊢
  ·split at a
   ·rename_i g
    rw[if_pos g];obtain⟨c1,c2,c3⟩:=g;have s:¬ (Dy p n).size=0:=(by simpa using a);obtain⟨_,E,K⟩:=Oi s;obtain⟨m,rfl⟩:=Int.eq_ofNat_of_zero_le E;have u:m<16777216:=(by omega);obtain⟨g1,g2,g3⟩:=gZ q u;have F:Dy (Dy p (m:Int)) ((Ab p).link:Nat)=J6 p:=by
     rw[Pr g1 (Jk p),g2,Nq q]
    refine⟨g1,g3,by rw[g2],?_,?_⟩
    ·rw[Nq g1,g2,Pr q u]
    ·show D8 (Dy p (m:Int)) ⟨6,slot,new,Bd⟩=_
     unfold D8;simp only;rw[c2,hI _ (Jk p)];simp only;rw[g2];simp only;simp only[true_and]at*;rw[if_pos (by first|exact⟨rfl,c1.symm,c3⟩|exact⟨trivial,c1.symm,c3⟩|exact⟨c1.symm,c3⟩),F];have:=(Yy q).2.2;rw[this]
     rfl
   ·cases a
 by_cases D:kind=7
 ·subst D
  have e:Bv p ⟨7,slot,Bd,new⟩=Ha p ⟨7,slot,Bd,new⟩:=rfl;rw[e]at a ⊢;unfold Ha at a ⊢;simp only at a ⊢
  split at a
  ·rename_i g
   rw[if_pos g];obtain⟨c1,c2,c3,c4⟩:=g;have s:¬ (Cj new ((Ab p).lsn:Nat)).size=0:=(by simpa using a);obtain⟨j,_,_⟩:=eR s;obtain⟨g1,g2,g3⟩:=Ki j (Ho p);obtain⟨i1,i2,i3⟩:=Ki q (l:=0) (by omega);refine⟨g1,g3,by rw[g2],?_,?_⟩
   ·rw[Nq g1,g2,Oj j (Ho p)]
   ·show Ha (Cj new ((Ab p).lsn:Nat)) ⟨7,slot,new,Bd⟩=_
    unfold Ha;simp only;have G:Cj (Cj new ((Ab p).lsn:Nat)) 0=new:=by
     have:=Re j (Ho p) (m:=0) (by omega);exact this.trans c4
    have H:Cj (Cj p 0) 0=Cj p 0:=Re q (l:=0) (m:=0) (by omega) (by omega);have I:Cj (Cj p 0) ((Ab p).lsn:Nat)=J6 p:=Re q (l:=0) (by omega) (Ho p);have v:(Cj p 0).size=512:=i3;rw[c2,g2];simp only;rw[if_pos ⟨c1,G.symm,by rw[v];omega,H⟩,I];have:=(Yy q).2.2;rw[this]
    rfl
  ·cases a
 ·have e:Bv p ⟨kind,slot,Bd,new⟩=Da:=by
   unfold Bv;simp only;rw[if_neg w,if_neg y,if_neg z,if_neg A,if_neg B,if_neg C,if_neg D]
  rw[e]at a
  cases a
theorem qH {p:ByteArray}{o:Hf}(h:Fe p o=true):eP p o=((Bv p o).1,0)∧Fe (Bv p o).1 (eQ o)=true∧eP (Bv p o).1 (eQ o)=(J6 p,0):=by
 have U:=tK h;have a:Fe (Bv p o).1 (eQ o)=true:=by unfold Fe;rw[U.page,U.back];rfl
 refine⟨by unfold eP;rw[if_pos h],a,?_⟩;unfold eP;rw[if_pos a,U.back]
end Go.Proofs.YtmldoihahndcgaaGreatDoor
namespace Lg
open Rc
def vN (F N:Nat)(d:Dk):List UInt8:=flat ((d.sectors.drop F).take N)
structure Yz (F N:Nat) (d:Dk) (g:Lo) (r1 r2:List Rec):Prop where
 whole:Whole d.sectors
 room:F+N≤d.sectors.length
 hf:g.from_=(F:Int)
 hn:g.n=(N:Int)
 row:Row 0 (r1++r2)
 pre:(vN F N d).take (bytes r1).length=bytes r1
 safe:g.safe=((bytes r1).length:Int)
 end_:g.end_=((bytes (r1++r2)).length:Int)
 tail:g.tail=⟨((bytes (r1++r2)).drop ((bytes r1).length-(bytes r1).length%128)).toArray⟩
 fit:(bytes (r1++r2)).length≤N*128
theorem mW (a b:List Rec):(bytes (a++b)).length=(bytes a).length+(bytes b).length:=by rw[Ob,List.length_append]
theorem iD (r:Rec):bytes [r]=Ei r:=by unfold bytes;simp
theorem Pf {l:List Rec}(h:(bytes l).length=0):l=[]:=by
 cases l with
 |nil=>rfl
 |cons r l=>rw[R9,List.length_append,Lt]at h;omega
theorem Yz.new {F N:Nat}{d:Dk}(a:Whole d.sectors)(b:F+N≤d.sectors.length):Yz F N d ⟨F,N,0,0,⟨#[]⟩⟩ [] []:=
 ⟨a,b,rfl,rfl,trivial,rfl,rfl,rfl,rfl,Nat.zero_le _⟩
theorem Yz.append {F N:Nat}{d:Dk}{g:Lo}{a b:List Rec}(h:Yz F N d g a b)(r:Rec):
 (Ay g r=(g,0,1))∨(Ay g r=(g,0,18))∨
 ((Ay g r).2=(g.end_+1,0)∧Yz F N d (Ay g r).1 a (b++[{r with lsn:=g.end_+1}])):=by
 by_cases c:Cv {r with lsn:=g.end_+1}
 ·by_cases j:g.n*128-((Ei {r with lsn:=g.end_+1}).length:Int)<g.end_
  ·refine .inr (.inl ?_)
   unfold Ay;simp only;rw[if_neg (fun f=>f c),if_pos j]
  ·refine .inr (.inr ?_)
   have e:Ay g r=({g with end_:=g.end_+((Ei {r with lsn:=g.end_+1}).length:Int),tail:=g.tail++⟨(Ei {r with lsn:=g.end_+1}).toArray⟩},g.end_+1,0):=by
    unfold Ay;simp only;rw[if_neg (fun f=>f c),if_neg j]
   rw[e];refine⟨rfl,?_⟩;have i:bytes (a++(b++[{r with lsn:=g.end_+1}]))=bytes (a++b)++Ei {r with lsn:=g.end_+1}:=by
    rw[← List.append_assoc,Ob (a++b),iD]
   refine⟨h.whole,h.room,h.hf,h.hn,?_,h.pre,h.safe,?_,?_,?_⟩
   ·rw[← List.append_assoc,bL]
    refine⟨h.row,c,?_,trivial⟩
    show g.end_+1=_
    rw[h.end_];simp
   ·show g.end_+_=_
    rw[i,List.length_append,h.end_];omega
   ·show g.tail++_=_
    have k:=mW a b;rw[i,h.tail,List.drop_append_of_le_length (by omega)]
    apply ByteArray.ext
    rw[ByteArray.data_append]
    simp
   ·rw[i,List.length_append]
    have l:=h.hn;have m:=h.end_;omega
 ·refine .inl ?_
  unfold Ay;simp only;rw[if_pos c]
end Lg
namespace Tx
open Rc Lg
def mX (r:Rec):Prop:=1≤r.txn∧1≤r.kind∧r.kind≤7
instance (r:Rec):Decidable (mX r):=by unfold mX;exact inferInstance
def sR (r:Rec)(t:Ci):Ci:=⟨t.txn,r.lsn,if r.kind=1∨r.kind=2 then r.lsn else if r.kind=3∨r.kind=4 then r.next else t.next,if r.kind=5 then true else t.done⟩
def mY:List Ci→Int→Option Nat
 |[],_=>none
 |t::l,n=>if t.txn=n then some 0 else(mY l n).map (·+1)
def vO (l:List Ci)(r:Rec):List Ci:=
 if ¬ mX r then l else
 match mY l r.txn with
 |none=>if r.kind=7 then l else l++[sR r ⟨r.txn,0,0,false⟩]
 |some i=>if r.kind=7 then l.take i++l.drop (i+1)else l.take i++sR r (l[i]?.getD ⟨0,0,0,false⟩)::l.drop (i+1)
structure St where
 zlog:Int
 zpages:Int
 zframes:Int
 Am:Dk
 log:Lo
 hand:Int
 txns:List Ci
 next:Int
def fresh (n:Nat):St:=⟨n,0,0,Ky (n+1),⟨1,n,0,0,⟨#[]⟩⟩,0,[],1⟩
end Tx
namespace Lg
open Rc
theorem Y2 (n:Nat):Whole (Ky n).sectors:=fun b a=>by
 have:b=Cs:=by
  have h:=List.mem_replicate.1 a;exact h.2
 rw[this];exact Iz
end Lg
namespace Tx
open Rc Lg
def Good (N:Nat)(s:St):Prop:=∃ r1 r2,Yz 1 N s.Am s.log r1 r2∧s.Am.down=false∧s.Am.left= -1∧s.Am.sectors.length=N+1∧wG (vN 1 N s.Am) r1∧(r1++r2).foldl vO []=s.txns
def Has (L:List Rec)(x:Int):Prop:=∃ r∈L,r.kind=5∧r.txn=x
end Tx
namespace Lg
open Rc
end Lg
namespace Tx
open Rc Lg
structure tL (s:St):Prop where
 e0:0≤s.log.end_
 e1:s.log.end_≤512000
 t0:(s.log.tail.size:Int)≤s.log.end_
 t1:s.log.end_%128≤(s.log.tail.size:Int)
 f:s.log.from_=1
 n0:0≤s.log.n
 n1:s.log.n≤4000
 s0:0≤s.log.safe
 s1:s.log.safe≤s.log.end_
end Tx
namespace Go.Proofs.YtmldoihahndcgaaGreatDoor
open Go.RowKit
theorem qI:(Tryz.prog.info? 134).map (fun i=>(i.zero,i.size,i.bytes))=some (some (.agg #[(),(),(),false]),4,32):=by kernel_rfl
theorem qJ (t:Rc.Ci):∀ u∈Lb t,u.oneCell'=true:=by
 intro u a;simp only[Lb,List.mem_cons,List.not_mem_nil,or_false]at a;rcases a with rfl|rfl|rfl|rfl<;>rfl
theorem Wb (l:List Rc.Ci):∀ u∈l.flatMap Lb,u.oneCell'=true:=by
 intro u a;obtain⟨t,_,b⟩:=List.mem_flatMap.1 a;exact qJ t u b
theorem mZ {w:World}{B size n c g:Nat}{e:TypeId}{xs:List Value}(h:w.ownsRow B e size (.slice (some ⟨g,0,none⟩) n c) n xs)(j:Nat)(o:j<n*size):
 w.cell? ⟨g,j,none⟩=xs[j]?∧w.frozen? ⟨g,j,none⟩=false∧∀ x,(w.setCell ⟨g,j,none⟩ x).ownsRow B e size (.slice (some ⟨g,0,none⟩) n c) n (xs.set j x):=by
 obtain⟨q,r⟩:=h;rcases r with⟨s,_⟩|⟨z,cap,cur,t,u,f,p,d,k,a⟩
 ·cases s
 ·injection t with b v l
  injection b with b
  injection b with b _ _
  subst b l;have y:n*size≤c*size:=Nat.mul_le_mul_right _ p;refine⟨?_,Ao f j,fun x=>⟨by rw[List.length_set];exact q,.inr ⟨g,c,cur.setIfInBounds j x,rfl,u,Bs j f x,p,d,by rw[Array.size_setIfInBounds];exact k,?_⟩⟩⟩
  ·rw[Aa f j,← a,List.getElem?_take,if_pos o,Array.getElem?_toList]
  ·rw[← a]
   refine List.ext_getElem? fun i=>?_;rw[List.getElem?_set,List.getElem?_take,List.length_take,List.getElem?_take,Array.toList_setIfInBounds,List.getElem?_set];have A:cur.toList.length=cur.size:=by simp
   by_cases m:j=i
   ·subst m
    rw[if_pos rfl,if_pos rfl,if_pos o,if_pos (by omega),if_pos (by omega)]
   ·rw[if_neg m,if_neg m]
theorem Yp {α:Type}{enc:α→List Value}{k:Nat}(c:∀ x,(enc x).length=k):∀ (l:List α) (j f:Nat) (y:α) (x:Value) (hj:j<l.length),f<k→enc y=(enc l[j]).set f x→(l.flatMap enc).set (j*k+f) x=(l.set j y).flatMap enc:=by
 intro l
 induction l with
 |nil=>intro j f y x hj;simp at hj
 |cons a l ih=>
  intro j f y x hj d b
  cases j with
  |zero=>
   simp only[List.getElem_cons_zero]at b;rw[List.flatMap_cons,List.set_cons_zero,List.flatMap_cons,b,Nat.zero_mul,Nat.zero_add,List.set_append_left _ _ (by rw[c];exact d)]
  |succ j=>
   simp only[List.getElem_cons_succ]at b;rw[List.flatMap_cons,List.set_cons_succ,List.flatMap_cons,List.set_append_right _ _ (by rw[c,Nat.succ_mul];omega)]
   congr 1
   rw[show(j+1)*k+f-(enc a).length=j*k+f by rw[c,Nat.succ_mul];omega];exact ih j f y x (by simpa using hj) d b
theorem Wc {g:Nat}{T:TypeId}{fr:Nat×Nat}:∀ (vs:List Value) (o:Nat) (cs:Array Value) (w:World),w.heap[g]? =some (.cells cs T fr)→∃ cs':Array Value,(w.setCells g o vs).heap[g]? =some (.cells cs' T fr)∧cs'.size=cs.size∧∀ j,cs'[j]? =if o≤j∧j<o+vs.length∧j<cs.size then vs[j-o]? else cs[j]? :=by
 intro vs
 induction vs with
 |nil=>intro o cs w h;exact⟨cs,h,rfl,fun j=>by rw[if_neg (by simp;omega)]⟩
 |cons v vs ih=>
  intro o cs w h;obtain⟨cs',d,f,i⟩:=ih (o+1) _ _ (Bs o h v);refine⟨cs',d,by rw[f,Array.size_setIfInBounds],fun j=>?_⟩;rw[i,Array.size_setIfInBounds,Array.getElem?_setIfInBounds]
  by_cases b:j=o
  ·subst b
   rw[if_neg (by omega),if_pos rfl]
   by_cases a:j<cs.size
   ·rw[if_pos a,if_pos ⟨Nat.le_refl _,by simp,a⟩,Nat.sub_self];rfl
   ·rw[if_neg a,if_neg (by omega),Array.getElem?_eq_none (by omega)]
  ·by_cases c:o+1≤j∧j<o+1+vs.length∧j<cs.size
   ·rw[if_pos c,if_pos (by simp;omega)]
    obtain⟨m,rfl⟩:∃ m,j=o+1+m:=⟨j-(o+1),by omega⟩;rw[show o+1+m-(o+1)=m by omega,show o+1+m-o=m+1 by omega,List.getElem?_cons_succ]
   ·rw[if_neg c,if_neg (fun e=>b e.symm),if_neg (by simp;omega)]
theorem Ss {B g:Nat}(a:B≤g):∀ (vs:List Value) (o:Nat) (w:World),Below B w (w.setCells g o vs):=by
 intro vs
 induction vs with
 |nil=>intro o w;exact Below.refl _ _
 |cons v vs b=>
  intro o w;exact((Below.refl B w).setCell (p:=⟨g,o,none⟩) a v).trans (b (o+1) _)
theorem bZ (l:List Rc.Ci)(q:l.length≤1000000)(A:Option Addr)(c:Nat)(w:World)(a:lV w A c l):
 Cq 180 #[.slice A l.length c] w fun e w'=>∃ v,e= .returned v∧E7 Lb 4 134 w.heap.size w' v l∧Bw w w':=by
 obtain⟨i0,k,d,f,g⟩:=info_parts qI;have m:=Hq a
 cases A with
 |none=>
  have h:l=[]:=by
   rcases Nat.eq_zero_or_pos l.length with h0|h0
   ·exact List.eq_nil_of_length_eq_zero h0
   ·obtain⟨b,off,e,_⟩:=a h0
    cases e
  subst h;clear a m;have n:∀ w,(binOp .eql 34 (.slice none 0 c) (.slice none 0 0)).run Tryz.prog w= .ok (.bool true) w:=fun w=>Lib.run_eql_slice_nil w 34 134 none 0 c 0 0 nA;simp only[List.length_nil];go_enter Tryz.func180,Tryz.ntmps180;go_wp2_with fail;go_ret;exact⟨_,rfl,Rp _ _ _ _,Below.refl _ _⟩
 |some ad=>
  have i:=Hq (a.below (Ad w (.cells #[] 134)));have n:∀ w,(binOp .eql 34 (.slice (some ad) l.length c) (.slice none 0 0)).run Tryz.prog w= .ok (.bool false) w:=fun w=>Lib.run_eql_slice_nil w 34 134 (some ad) l.length c 0 0 nA;clear a;go_enter Tryz.func180,Tryz.ntmps180
  go_wp2_with(at_builtin;refine Bt Kr fun K o=>Ir (w.alloc (.cells #[] 134)) (.tmp 5) (.tmp 6) 34 134 i0 (.agg #[(),(),(),false]) 4 32 nA k d f g rfl (by omega) rfl w.heap.size _ 0 [] rfl (Ic w 134 4) (some ad) l.length c (l.flatMap Lb) rfl i.out (by rw[Di Fo]) (Wb l) (by omega) (by omega) (by simp) ?_;intro v2 r j s p;refine o _ _ ?_)
  go_ret;rw[List.nil_append,Nat.zero_add]at j;exact⟨_,rfl,j,(Ad w (.cells #[] 134)).trans p⟩
end Go.Proofs.YtmldoihahndcgaaGreatDoor
namespace Tx
open Rc
end Tx
namespace Go.Proofs.YtmldoihahndcgaaGreatDoor
open Go.RowKit
theorem L3 {w:World}{B g N c:Nat}{M:List Rc.Ci}(h:w.ownsRow B 134 4 (.slice (some ⟨g,0,none⟩) N c) N (M.flatMap Lb))(l:M.length=N)(k:Nat)(a:k<M.length)(f:Nat)(b:f<4)(x:Value)(y:Rc.Ci)(d:Lb y=(Lb M[k]).set f x):
 w.cell? ⟨g,k*4+f,none⟩=(Lb M[k])[f]?∧w.frozen? ⟨g,k*4+f,none⟩=false∧(w.setCell ⟨g,k*4+f,none⟩ x).ownsRow B 134 4 (.slice (some ⟨g,0,none⟩) N c) N ((M.set k y).flatMap Lb):=by
 obtain⟨e,i,j⟩:=mZ h (k*4+f) (by omega);refine⟨by rw[e,Hu Fo M k f a b],i,?_⟩;rw[← Yp Fo M k f y x a b d];exact j x
theorem Ol {w:World}{B size n:Nat}{e:TypeId}{v:Value}{xs:List Value}(h:w.ownsRow B e size v n xs)(d:0<n):∃ g c,v= .slice (some ⟨g,0,none⟩) n c∧B≤g:=by
 rcases h.2 with⟨_,f⟩|⟨g,cap,cur,a,b,_⟩
 ·omega
 ·exact⟨g,cap,a,b⟩
end Go.Proofs.YtmldoihahndcgaaGreatDoor
namespace Tx
end Tx
namespace Go.Proofs.YtmldoihahndcgaaGreatDoor
open Go.RowKit
theorem nB {P:Program}{ops:Array Oper}{rest:List Oper}{op:Oper}{a:Act}{w:World}{Q:Exit→Act→World→Prop}(e:Region.wanted op (yielded ops a.tmps)=true)(ty:TypeId)(x:Operand)(f:op.op= .load ty x)
 (b o:Nat) (g:a.eval x= .pointer (some ⟨b,o,none⟩)) (part cells:Array Value) (t:TypeId) (i:w.heap[b]? =some (.cells cells t (0,0))) (k:(cells.toList.drop o).take part.size=part.toList) (d:TypeDesc)
 (l:P.underlying ty=some d) (m:d.isRow=true) (hi:(P.info? ty).map (·.size)=some part.size)
 (h:wpList P ops Q rest (a.put op.dst (.agg part)) w):wpList P ops Q (op::rest) a w:=
 Bt e fun K n=>by
  refine wp_load_mid ty x f b o g part.toList d (fun j v c=>?_) l m (by simpa using hi) ?_
  ·rw[Aa i]
   have p:j<part.size:=(by have:=(List.getElem?_eq_some_iff.1 c).1;simpa using this);rw[← k,List.getElem?_take,if_pos p,List.getElem?_drop,Array.getElem?_toList]at c;exact c
  ·simpa using n _ _ h
theorem lP {P:Program}{ops:Array Oper}{rest:List Oper}{op:Oper}{a:Act}{w:World}{Q:Exit→Act→World→Prop}{ty:TypeId}{x:Operand}{b o:Nat}(part:Array Value){cells:Array Value}{t:TypeId}{d:TypeDesc}(c:w.heap[b]? =some (.cells cells t (0,0)))(e:P.underlying ty=some d)(h:wpList P ops Q rest (a.put op.dst (.agg part)) w)(f:op.op= .load ty x:=by exact rfl)(g:a.eval x= .pointer (some ⟨b,o,none⟩):=by with_unfolding_all exact rfl)(i:Region.wanted op (yielded ops a.tmps)=true:=by kernel_rfl)(j:(cells.toList.drop o).take part.size=part.toList:=by kernel_rfl)(k:d.isRow=true:=by kernel_rfl)(hi:(P.info? ty).map (·.size)=some part.size:=by kernel_rfl):wpList P ops Q (op::rest) a w:=nB i ty x f b o g part cells t c j d e k hi h
theorem qK {P:Program}{ops:Array Oper}{rest:List Oper}{op:Oper}{a:Act}{w:World}{Q:Exit→Act→World→Prop}(g:Region.wanted op (yielded ops a.tmps)=true)(ty:TypeId)(x y:Operand)(j:op.op= .store ty x y)
 (b o:Nat) (part cur res:Array Value) (t:TypeId) (k:a.eval x= .pointer (some ⟨b,o,none⟩)) (hy:a.eval y= .agg part) (l:w.heap[b]? =some (.cells cur t (0,0))) (m:res=(cur.toList.take o++part.toList++cur.toList.drop (o+part.toList.length)).toArray)
 (e:decide (o+part.toList.length≤cur.size)=true) (hi:(P.info? ty).map (·.size)=some part.size) (n:part.all (·.oneCell')=true) (h:wpList P ops Q rest (a.put op.dst undef) (w.setRow b res)):wpList P ops Q (op::rest) a w:=
 Bt g fun K p=>by
  have c:=run_storeCells_at P b o t part.toList 0 cur w l (by rw[Nat.add_zero];exact of_decide_eq_true e) (fun v q=>(Array.all_eq_true_iff_forall_mem.1 n) v (by simpa using q));rw[Nat.add_zero,← m]at c;have d:(storeVar ty ⟨b,o,none⟩ (.agg part)).run P w= .ok () (w.setRow b res):=by
   cases f:P.info? ty with
   |none=>simp[f]at hi
   |some i=>
    have r:part.size=i.size:=by simp[f]at hi;omega
    simp[storeVar,sizeOf,typeInfo,f,Value.cells,r,c]
  unfold Oper.wp execOp;simp only[j,k,hy,Instr.storeAt,Instr.sureAddr,Sem.run_bind,Sem.run_pure,Result.andThen_ok,d];exact p _ _ h
theorem lU {P:Program}{ops:Array Oper}{rest:List Oper}{op:Oper}{a:Act}{w:World}{Q:Exit→Act→World→Prop}{ty:TypeId}{x y:Operand}{b o:Nat}(part:Array Value){cur:Array Value}(res:Array Value){t:TypeId}(c:w.heap[b]? =some (.cells cur t (0,0)))(h:wpList P ops Q rest (a.put op.dst undef) (w.setRow b res))(d:op.op= .store ty x y:=by exact rfl)(e:a.eval x= .pointer (some ⟨b,o,none⟩):=by with_unfolding_all exact rfl)(hy:a.eval y= .agg part:=by with_unfolding_all exact rfl)(f:Region.wanted op (yielded ops a.tmps)=true:=by kernel_rfl)(g:res=(cur.toList.take o++part.toList++cur.toList.drop (o+part.toList.length)).toArray:=by kernel_rfl)(i:decide (o+part.toList.length≤cur.size)=true:=by kernel_rfl)(hi:(P.info? ty).map (·.size)=some part.size:=by kernel_rfl)(j:part.all (·.oneCell')=true:=by kernel_rfl):wpList P ops Q (op::rest) a w:=qK f ty x y d b o part cur res t e hy c g i hi j h
structure SP where
 A:Option Addr
 c:Nat
 F:Option Addr
 fn:Nat
 fc:Nat
 T:Option Addr
 tc:Nat
abbrev Af (s:Tx.St)(p:SP):Value:=.agg #[s.zlog,s.zpages,s.zframes,.slice p.A s.Am.sectors.length p.c,s.Am.left,s.Am.down,s.log.from_,s.log.n,s.log.end_,s.log.safe,s.log.tail,.slice p.F p.fn p.fc,s.hand,.slice p.T s.txns.length p.tc,s.next]
structure Hp (w:World) (s:Tx.St) (p:SP):Prop where
 dk:By w s.Am p.A p.c
 dt:C4 0 w 9 p.A
 tx:lV w p.T p.tc s.txns
 tt:C4 0 w 134 p.T
theorem Hp.below {w w':World}{s:Tx.St}{p:SP}(h:Hp w s p)(a:Bw w w'):Hp w' s p:=⟨h.dk.below a,h.dt.below a,h.tx.below a,h.tt.below a⟩
theorem Hp.other {w:World}{s:Tx.St}{p:SP}(h:Hp w s p){b:Nat}{cur:Array Value}{t:TypeId}{fr:Nat×Nat}(a:w.heap[b]? =some (.cells cur t fr))(c:t≠9)(d:t≠134)(cs:Array Value):Hp (w.setRow b cs) s p:=
 ⟨⟨h.dt.Dj h.dk.secs a c cs,h.dk.small⟩,h.dt.row b cs,h.tt.Dj h.tx a d cs,h.tt.row b cs⟩
theorem Hp.set {w:World}{s:Tx.St}{p:SP}(h:Hp w s p){b:Nat}{cur:Array Value}{t:TypeId}{fr:Nat×Nat}(a:w.heap[b]? =some (.cells cur t fr))(c:t≠9)(d:t≠134)(j:Nat)(v:Value):Hp (w.setCell ⟨b,j,none⟩ v) s p:=by
 rw[setCell_eq_setRow w b j cur t fr v a];exact h.other a c d _
theorem Su (r:Rc.Rec)(w:World)(a:r.txns=[])(b:r.dirty=[]):Iy w r none 0 none 0:=by
 refine⟨?_,?_,by rw[a,b];exact⟨Nat.zero_le _,Nat.zero_le _⟩⟩
 ·rw[a];exact Reads.none_ _ _ _ _
 ·rw[b];exact Reads.none_ _ _ _ _
end Go.Proofs.YtmldoihahndcgaaGreatDoor
namespace Lg
open Rc
structure Al (l:Lo):Prop where
 s0:0≤l.safe
 se:l.safe≤l.end_
 tl:l.end_-(l.tail.size:Int)=l.safe-l.safe%128
theorem Al.first {l:Lo}(h:Al l):Im l=l.safe/128:=by
 have b:=h.s0;have a:=h.tl;unfold Im;rw[a];omega
theorem nC (n:Nat):∀ l:List UInt8,l.length≤n→∀ k,k*128<l.length→(Tv l)[k]? =some (Fy ((l.drop (k*128)).take 128)):=by
 induction n with
 |zero=>intro l b k a;omega
 |succ n ih=>
  intro l b k a;have h:l≠[]:=fun e=>by rw[e]at a;simp at a
  rw[Mj h]
  cases k with
  |zero=>simp
  |succ k=>
   rw[List.getElem?_cons_succ,ih _ (by rw[List.length_drop];omega) k (by rw[List.length_drop];omega),List.drop_drop]
   congr 4
   omega
theorem nD (s:ByteArray)(k:Nat)(a:k*128<s.size):(Kc s)[k]? =some (Fy ((s.data.toList.drop (k*128)).take 128)):=nC _ _ (Nat.le_refl _) k (by simpa using a)
theorem nE:Fy []=Cs:=by unfold Fy Cs;simp
end Lg
namespace Tx
open Rc Lg
theorem iE {l:Lo}(r:Rec)(h:Al l):Al (Ay l r).1:=by
 have c:=h.s0;have f:=h.se;have g:=h.tl
 by_cases a:Cv {r with lsn:=l.end_+1}
 ·by_cases hF:l.n*128-((Ei {r with lsn:=l.end_+1}).length:Int)<l.end_
  ·unfold Ay
   simp only;rw[if_neg (fun b=>b a),if_pos hF];exact h
  ·have e:(Ay l r).1={l with end_:=l.end_+((Ei {r with lsn:=l.end_+1}).length:Int),tail:=l.tail++⟨(Ei {r with lsn:=l.end_+1}).toArray⟩}:=by
    unfold Ay;simp only;rw[if_neg (fun b=>b a),if_neg hF]
   rw[e];have d:(⟨(Ei {r with lsn:=l.end_+1}).toArray⟩:ByteArray).size=(Ei {r with lsn:=l.end_+1}).length:=(by show(Ei {r with lsn:=l.end_+1}).toArray.size=_;simp);refine⟨c,?_,?_⟩
   ·show l.safe≤l.end_+((Ei {r with lsn:=l.end_+1}).length:Int);omega
   ·show l.end_+((Ei {r with lsn:=l.end_+1}).length:Int)-((l.tail++⟨(Ei {r with lsn:=l.end_+1}).toArray⟩).size:Int)=l.safe-l.safe%128
    rw[ByteArray.size_append,d];omega
 ·unfold Ay
  simp only;rw[if_pos a];exact h
end Tx
namespace Go.Proofs.YtmldoihahndcgaaGreatDoor
open Go.RowKit
abbrev Ai (s:Tx.St)(p:SP):Array Value:=#[s.zlog,s.zpages,s.zframes,.slice p.A s.Am.sectors.length p.c,s.Am.left,s.Am.down,s.log.from_,s.log.n,s.log.end_,s.log.safe,s.log.tail,.slice p.F p.fn p.fc,s.hand,.slice p.T s.txns.length p.tc,s.next]
structure Fr where
 page:Int
 bytes:ByteArray
 pins:Int
 mark:Bool
 rc:Int
def F4 (f:Fr):List Value:=[.int .i64 f.page,.string f.bytes,.int .i64 f.pins,.bool f.mark,.int .i64 f.rc]
abbrev Cg (f:Fr):Array Value:=#[f.page,f.bytes,f.pins,f.mark,f.rc]
theorem Cc (f:Fr):(F4 f).length=5:=rfl
theorem qL (f:Fr):∀ u∈F4 f,u.oneCell'=true:=by
 intro u a;simp only[F4,List.mem_cons,List.not_mem_nil,or_false]at a;rcases a with rfl|rfl|rfl|rfl|rfl<;>rfl
theorem eT (l:List Fr):∀ u∈l.flatMap F4,u.oneCell'=true:=by
 intro u a;obtain⟨v,_,h⟩:=List.mem_flatMap.1 a;exact qL v u h
theorem Wd:(Tryz.prog.info? 116).map (fun i=>(i.zero,i.size,i.bytes))=some (some (.agg #[(),"",(),false,()]),5,48):=by kernel_rfl
theorem Mn:(⟨#[]⟩:ByteArray).toList=[]:=by rw[ByteArray.toList_eq]
theorem Pt {b:ByteArray}(h:b≠⟨#[]⟩):¬ b.toList=[]∧(b.toList==[])=false∧(b.toList==(⟨#[]⟩:ByteArray).toList)=false:=by
 have c:¬ b.toList=[]:=fun a=>h (by
  rw[ByteArray.toList_eq]at a;obtain⟨⟨l⟩⟩:=b;simp only at a;rw[a])
 have d:(b.toList==[])=false:=by simpa using c
 exact⟨c,d,by rw[Mn];exact d⟩
theorem Hp.tM {w:World}{s:Tx.St}{p:SP}(h:Hp w s p)(F:Option Addr)(n c:Nat):Hp w s {p with F:=F,fn:=n,fc:=c}:=⟨h.dk,h.dt,h.tx,h.tt⟩
structure An (w:World) (s:Tx.St) (p:SP) (fs:List Fr):Prop where
 st:Hp w s p
 fn:p.fn=fs.length
 fr:Reads w p.F p.fc fs.length (fs.flatMap F4)
 ft:C4 0 w 116 p.F
theorem An.below {w w':World}{s:Tx.St}{p:SP}{fs:List Fr}(h:An w s p fs)(a:Bw w w'):An w' s p fs:=⟨h.st.below a,h.fn,h.fr.below a,h.ft.below a⟩
theorem An.other {w:World}{s:Tx.St}{p:SP}{fs:List Fr}(h:An w s p fs){b:Nat}{cur:Array Value}{t:TypeId}{fr:Nat×Nat}(a:w.heap[b]? =some (.cells cur t fr))(c:t≠9)(d:t≠134)(e:t≠116)(cs:Array Value):An (w.setRow b cs) s p fs:=
 ⟨h.st.other a c d cs,h.fn,h.ft.Dj h.fr a e cs,h.ft.row b cs⟩
theorem Fj {B g:Nat}{w u:World}(c:B≤g)(a:Below B w u)(cs:Array Value):Below B w (u.setRow g cs):=
 ⟨a.os,a.tape,a.output,by show _≤(u.heap.modify _ _).size;have:=a.size;simpa using this,fun k b=>by show(u.heap.modify _ _)[k]? =_;rw[Array.getElem?_modify,if_neg (by omega)];exact a.block k b⟩
section
variable {α : Type} {enc : α → List Value} {k : Nat} {e : TypeId} {B g c : Nat} {w : World} {l : List α}
theorem Y3 (b:∀ x,(enc x).length=k)(l:List α)(i:Nat)(hi:i<l.length)(x:α)(t:Nat):((l.set i x).flatMap enc)[t]? =if i*k≤t∧t<i*k+k then(enc x)[t-i*k]? else(l.flatMap enc)[t]? :=by
 have g:i*k+k≤l.length*k:=by have:=Nat.mul_le_mul_right k (show i+1≤l.length from hi);rwa[Nat.add_mul,Nat.one_mul]at this
 by_cases a:i*k≤t∧t<i*k+k
 ·rw[if_pos a]
  obtain⟨j,rfl⟩:∃ j,t=i*k+j:=⟨t-i*k,by omega⟩;rw[Hu b (l.set i x) i j (by rw[List.length_set];exact hi) (by omega),List.getElem_set_self,Nat.add_sub_cancel_left]
 ·rw[if_neg a]
  by_cases m:t<l.length*k
  ·have c:0<k:=by rcases Nat.eq_zero_or_pos k with h|h;(· subst h;omega);(· exact h)
   have e:t/k<l.length:=(by rw[Nat.div_lt_iff_lt_mul c];exact m);have f:t%k<k:=Nat.mod_lt _ c;have n:t=t/k*k+t%k:=(by rw[Nat.mul_comm];exact(Nat.div_add_mod t k).symm);have d:i≠t/k:=fun h=>a (by rw[h];omega);rw[n,Hu b (l.set i x) (t/k) (t%k) (by rw[List.length_set];exact e) f,Hu b l (t/k) (t%k) e f,List.getElem_set_ne d]
  ·rw[List.getElem?_eq_none (by rw[Di b,List.length_set];omega),List.getElem?_eq_none (by rw[Di b];omega)]
theorem Ia (n:E7 enc k e B w (.slice (some ⟨g,0,none⟩) l.length c) l):∃ cur:Array Value,B≤g∧g<w.heap.size∧w.heap[g]? =some (.cells cur e (0,0))∧l.length≤c∧c≤maxLen∧cur.size=c*k∧∀ t,t<l.length*k→cur[t]? =(l.flatMap enc)[t]? :=by
 obtain⟨o,p⟩:=n;rcases p with⟨q,_⟩|⟨v,cap,cur,r,f,m,h,d,i,b⟩
 ·cases q
 injection r with a s j
 injection a with a
 injection a with a _ _
 subst a j;refine⟨cur,f,C0 m,m,h,d,i,fun t u=>?_⟩;rw[← b,List.getElem?_take,if_pos u,Array.getElem?_toList]
theorem cA {cur:Array Value}(b:∀ x,(enc x).length=k)(d:B≤g)(f:w.heap[g]? =some (.cells cur e (0,0)))(i:l.length≤c)(j:c≤maxLen)(m:cur.size=c*k)(h:∀ t,t<l.length*k→cur[t]? =(l.flatMap enc)[t]?):E7 enc k e B w (.slice (some ⟨g,0,none⟩) l.length c) l:=by
 refine⟨Di b l,.inr ⟨g,c,cur,rfl,d,f,i,j,m,?_⟩⟩;refine List.ext_getElem? fun t=>?_;rw[List.getElem?_take]
 by_cases a:t<l.length*k
 ·rw[if_pos a,Array.getElem?_toList,h t a]
 ·rw[if_neg a,List.getElem?_eq_none (by rw[Di b];omega)]
theorem eU (b:∀ x,(enc x).length=k)(o:E7 enc k e B w (.slice (some ⟨g,0,none⟩) l.length c) l)(i:Nat)(hi:i<l.length)(x:α):
 w.there g (i*k) k∧E7 enc k e B (w.setCells g (i*k) (enc x)) (.slice (some ⟨g,0,none⟩) (l.set i x).length c) (l.set i x)∧Below B w (w.setCells g (i*k) (enc x)):=by
 obtain⟨cur,f,A,d,m,p,q,r⟩:=Ia o;have s:i*k+k≤l.length*k:=by have:=Nat.mul_le_mul_right k (show i+1≤l.length from hi);rwa[Nat.add_mul,Nat.one_mul]at this
 have u:l.length*k≤c*k:=Nat.mul_le_mul_right _ m;obtain⟨n,v,y,z⟩:=Wc (enc x) (i*k) cur w d;refine⟨fun j C=>⟨by rw[Aa d,Array.getElem?_eq_getElem (by omega)];rfl,Ao d _⟩,cA b f v (by rw[List.length_set];exact m) p (by rw[y];exact q) (fun t h=>?_),Ss f _ _ _⟩;rw[List.length_set]at h;rw[z,Y3 b l i hi x t,b]
 by_cases a:i*k≤t∧t<i*k+k
 ·rw[if_pos ⟨a.1,a.2,by omega⟩,if_pos a]
 ·rw[if_neg (fun h=>a ⟨h.1,h.2.1⟩),if_neg a,r t h]
end
theorem L4 (s:Tx.St)(p:SP)(n:Int)(w:World):
 Cr 168 #[Af s p,n] w (.bool (decide (0≤n∧n<s.zpages))):=by
 by_cases e:0≤n
 ·have a:decide (0≤n∧n<s.zpages)=decide (n<s.zpages):=by simp[e]
  rw[a];clear a;go_enter Tryz.func168,Tryz.ntmps168;go_upto_region 1 with fail;have c:=Tq w (Ai s p) 36;obtain⟨d,b⟩:=Dr c;rw[← b]at c ⊢;clear b;have f:=show d.cell? ⟨w.heap.size,1,none⟩=some (.int .i64 s.zpages)from(by rw[Aa c.out.Ag];rfl);go_wp2_with fail;go_ret;exact⟨by simp,c.out.below⟩
 ·have a:decide (0≤n∧n<s.zpages)=false:=by simp[e]
  rw[a];clear a;go_enter Tryz.func168,Tryz.ntmps168;go_upto_region 1 with fail;have c:=Tq w (Ai s p) 36;obtain⟨d,b⟩:=Dr c;rw[← b]at c ⊢;clear b;have f:=show d.cell? ⟨w.heap.size,1,none⟩=some (.int .i64 s.zpages)from(by rw[Aa c.out.Ag];rfl);go_wp2_with fail;go_ret;exact⟨by simp,c.out.below⟩
theorem Sv (s:Tx.St)(p:SP)(n:Int)(g:0≤s.zlog∧s.zlog≤3000)(h:0≤n∧n≤1000)(w:World):
 Cr 221 #[Af s p,n] w (.int .i64 (1+s.zlog+4*n)):=by
 go_enter Tryz.func221,Tryz.ntmps221;go_upto_region 1 with fail;have b:=Tq w (Ai s p) 36;obtain⟨c,a⟩:=Dr b;rw[← a]at b ⊢;clear a;have i:=show c.cell? ⟨w.heap.size,0,none⟩=some (.int .i64 s.zlog)from by rw[Aa b.out.Ag];rfl
 have d:IntKind.i64.wrap (1+s.zlog)=1+s.zlog:=IntWalk.i64_in _ (by omega);have e:IntKind.i64.wrap (4*n)=4*n:=IntWalk.i64_in _ (by omega);have f:IntKind.i64.wrap (1+s.zlog+4*n)=1+s.zlog+4*n:=IntWalk.i64_in _ (by omega);go_wp2_with fail;go_ret;exact⟨rfl,b.out.below⟩
theorem We (s:Tx.St)(p:SP)(fs:List Fr)(r:p.fn=fs.length)(J:fs.length≤100)(n:Int)(w:World)(I:Reads w p.F p.fc fs.length (fs.flatMap F4)):
 Cq 51 #[Af s p,n] w fun e w'=>((e= .returned (.int .i64 (-1))∧∀ j (hj:j<fs.length),fs[j].bytes≠⟨#[]⟩→fs[j].page≠n)∨∃ (k:Nat) (hk:k<fs.length),e= .returned (.int .i64 k)∧fs[k].bytes≠⟨#[]⟩∧fs[k].page=n)∧Bw w w':=by
 have K:=Hq I;clear I;have A:=Hq r;clear r;go_enter Tryz.func51,Tryz.ntmps51;go_upto_region 1 with fail;have q:=Tq w (Ai s p) 36;obtain⟨B,t⟩:=Dr q;rw[← t]at q ⊢;clear t;have C:=show B.cell? ⟨w.heap.size,11,none⟩=some (.slice p.F fs.length p.fc)from by rw[Aa q.out.Ag,← A.out];rfl
 have v:=Hq q.out.below;have L:=Hq (fun u (M:Bw B u)=>show u.cell? ⟨w.heap.size,11,none⟩=some (.slice p.F fs.length p.fc)from by rw[M.cell (p:=⟨w.heap.size,11,none⟩) (q.out.lt (i:=0) (by simp))];exact C);clear q;go_wp2_with fail
 go_loopw [5] (fun i wr=>∃ k:Nat,k≤fs.length∧i= .int .i64 k∧(∀ j (hj:j<fs.length),j<k→fs[j].bytes≠⟨#[]⟩→fs[j].page≠n)∧Bw B wr) (fun i _=>fs.length-(intOf i).toNat)
 case atStart=>exact⟨0,Nat.zero_le _,rfl,fun _ _ h=>absurd h (by omega),Below.refl _ _⟩
 case round=>
  obtain⟨k,hk,rfl,c,d⟩:=hrel;have D:=v.out.trans (d.mono v.out.size);have C:=L.out wr d;have N:(0:Int)≤(k:Int):=by omega
  by_cases x:k<fs.length
  ·have O:(k:Int)<(fs.length:Int):=by omega
   have P:IntKind.i64.wrap ((k:Int)+1)=(k:Int)+1:=IntWalk.i64_in _ (by omega);obtain⟨b,off,E,Q,R,a⟩:=Bi Cc (K.out.below D) x;have l:=a 0 _ rfl;have y:=a 1 _ rfl;simp only[Nat.add_zero]at l;clear a;generalize g:fs[k]=f at l y;obtain⟨G,S,X,Y,Z⟩:=f;simp only at l y;rw[E]at C
   by_cases m:S=⟨#[]⟩
   ·subst m
    have T:=Mn;go_wp2_with fail;go_roundw
    case rel=>exact⟨k+1,by omega,by go_num,fun j hj o=>by rcases Nat.lt_or_eq_of_le (Nat.le_of_lt_succ o)with h5|h5;(· exact c j hj h5);(· subst h5;rw[g];exact fun h=>absurd rfl h),d⟩
    case measure=>simp[intOf];omega
   ·obtain⟨U,V,W⟩:=Pt m
    by_cases z:G=n
    ·have H:(G==n)=true:=beq_iff_eq.2 z
     go_wp2_with fail;go_ret;exact⟨.inr ⟨k,x,rfl,by rw[g];exact m,by rw[g];exact z⟩,D⟩
    ·have H:(G==n)=false:=beq_eq_false_iff_ne.2 z
     go_wp2_with fail;go_roundw
     case rel=>exact⟨k+1,by omega,by go_num,fun j hj o=>by rcases Nat.lt_or_eq_of_le (Nat.le_of_lt_succ o)with h5|h5;(· exact c j hj h5);(· subst h5;rw[g];exact fun _=>z),d⟩
     case measure=>simp[intOf];omega
  ·obtain rfl:k=fs.length:=by omega
   go_wp2_with fail;go_ret;exact⟨.inl ⟨rfl,fun j hj=>c j hj hj⟩,D⟩
theorem Fq (s:Tx.St)(p:SP)(fs:List Fr)(V:fs.length≤100)(k:Nat)(W:k<fs.length)(f:Fr)(w:World)(h:An w s p fs):
 Cq 169 #[Af s p,k,.agg (Cg f)] w fun e w'=>∃ q,e= .returned (Af s q)∧An w' s q (fs.set k f)∧Bw w w':=by
 obtain⟨i0,E,G,H,I⟩:=info_parts Wd;have Q:=Hq h;have J:=Hq h.fn;clear h;go_enter Tryz.func169,Tryz.ntmps169;go_upto_region 1 with fail;have j:=Jo w (Ai s p) 36 (Cg f) 116 #[(),(),(),'s',(),false,(),(),(),(),"",'s',(),'s',()] 36;obtain⟨b,o⟩:=Dr j;rw[← o]at j ⊢;clear o;have m:=Hq (Q.out.below j.out.below);have R:=show b.cell? ⟨w.heap.size,11,none⟩=some (.slice p.F fs.length p.fc)from by rw[Aa j.out.Ag,← J.out];rfl
 have a:=Ad b (.cells #[] 116);have L:(b.alloc (.cells #[] 116)).cell? ⟨w.heap.size,11,none⟩=some (.slice p.F fs.length p.fc):=by rw[a.cell (p:=⟨w.heap.size,11,none⟩) (j.out.lt (i:=0) (by simp))];exact R
 have r:=m.out.fr.below a
 go_upto_region 2 with(at_builtin;refine Bt Kr fun K X=>Ir (b.alloc (.cells #[] 116)) (.tmp 8) (.tmp 11) 31 116 i0 (.agg #[(),"",(),false,()]) 5 48 qM E G H I rfl (by omega) rfl b.heap.size _ 0 [] rfl (Ic b 116 5) p.F fs.length p.fc (fs.flatMap F4) rfl r (by rw[Di Cc]) (eT fs) (by omega) (by omega) a.size ?_;intro v2 M t Y S;refine X _ _ ?_)
 rw[List.nil_append,Nat.zero_add]at t;have n:=a.trans S;obtain⟨g,fc,rfl⟩:∃ g c,v2= .slice (some ⟨g,0,none⟩) fs.length c:=by
  rcases t.2 with⟨_,h0⟩|⟨g,cap,cur,Z,_⟩
  ·omega
  ·exact⟨g,cap,Z⟩
 have N:=Hq (j.out.step n);have O:=Hq (m.out.below n);have T:(0:Int)≤(k:Int):=by omega
 have a1:(k:Int)<(fs.length:Int):=by omega
 obtain⟨u,v,x⟩:=eU Cc t k W f;have l:M.there g (k*5) (Cg f).size:=u;have a6:b.heap.size≤g:=by obtain⟨cur,h1,_⟩:=Ia t;exact h1
 go_upto_region 3 with(first|with_reducible refine lL N.out.Ah Cw ?_|with_reducible refine wpList_store_mid rfl 116 (.tmp 16) (.tmp 15) rfl g (k*5) (Cg f) rfl rfl l Kr Kr ?_)
 have hM:w.heap.size+3≤b.heap.size:=j.out.lt (i:=2) (by simp);have D:=Hq (N.out.under hM x);have y:=show(M.setCells g (k*5) (F4 f)).cell? ⟨w.heap.size,11,none⟩=some (.slice p.F p.fn p.fc)from by rw[Aa D.out.Ag];rfl
 have z:=Ao D.out.Ag 11;have A:=Hq v;rw[show([.int .i64 f.page,.string f.bytes,.int .i64 f.pins,.bool f.mark,.int .i64 f.rc]:List Value)=F4 f from rfl];generalize M.setCells g (k*5) (F4 f)=w3 at D y z A ⊢
 try simp only[Act.put]
 clear u l v x R L a r t Y S n j m N O;go_upto_region 4 with fail;have B:=Hq (show Dm w.heap.size w [((Ai s {p with F:=some ⟨g,0,none⟩,fn:=fs.length,fc:=fc}),36),(Cg f,116),(#[(),(),(),'s',(),false,(),(),(),(),"",'s',(),'s',()],36)] (w3.setCell ⟨w.heap.size,11,none⟩ (.slice (some ⟨g,0,none⟩) fs.length fc))from D.out.set 0 11 (.slice (some ⟨g,0,none⟩) fs.length fc) _ rfl);have C:=Hq (Ja A.out ⟨w.heap.size,11,none⟩ (.slice (some ⟨g,0,none⟩) fs.length fc) (by show w.heap.size<b.heap.size;omega));generalize w3.setCell ⟨w.heap.size,11,none⟩ (.slice (some ⟨g,0,none⟩) fs.length fc)=w4 at B C ⊢;clear y z
 go_wp2_with(first|with_reducible refine lL B.out.Ag Ak ?_|with_reducible refine lS (Ai s {p with F:=some ⟨g,0,none⟩,fn:=fs.length,fc:=fc}) B.out.Ax ?_)
 have U:=Hq (B.out.row 2 (Ai s {p with F:=some ⟨g,0,none⟩,fn:=fs.length,fc:=fc}) _ rfl).below;refine rT1 B.out.Ax Ak ?_;have d:=I3 C.out (w.heap.size+2) (Ai s {p with F:=some ⟨g,0,none⟩,fn:=fs.length,fc:=fc}) (by omega);have P:(fs.set k f).length=fs.length:=List.length_set;refine⟨{p with F:=some ⟨g,0,none⟩,fn:=fs.length,fc:=fc},rfl,⟨(Q.out.st.below U.out).tM _ _ _,P.symm,?_,?_⟩,U.out⟩
 ·rw[P]at d ⊢
  exact Dq d
 ·rw[P]at d
  exact(C4.own d).mono (Nat.zero_le _)
structure nF (p:ByteArray):Prop where
 is:Bj p=true
 pl:J6 p=p
theorem nF.eq {p:ByteArray}(h:nF p):Gq (Ab p)=p:=(Nq h.is).symm.trans h.pl
theorem nF.size {p:ByteArray}(h:nF p):p.size=512:=Fa h.is
theorem nG {x:Pg.C7}(d:Pg.Small x)(e:Pg.Ba x.recs≤512)(f:∀ r∈x.recs,r.size≤400)(a:Pg.trim x.recs=x.recs):nF (Gq x)∧Ab (Gq x)=x:=by
 obtain⟨b,g⟩:=Oe d (by rw[a];exact e) f;have c:Ab (Gq x)=x:=by rw[g,a]
 exact⟨⟨b,by rw[Nq b,c]⟩,c⟩
theorem eV {p:ByteArray}(h:Bj p=true){l:Nat}(a:l<281474976710656):nF (Cj p (l:Int))∧Ab (Cj p (l:Int))=⟨l,(Ab p).kind,(Ab p).link,(Ab p).recs⟩:=by
 obtain⟨c,b,_⟩:=Ki h a;refine⟨⟨c,?_⟩,b⟩;unfold J6;rw[b];exact Re h a a
theorem tN {p:ByteArray}(h:Bj p=true):nF (J6 p)∧Ab (J6 p)=Ab p:=eV h (Ho p)
theorem qN {p:ByteArray}(h:nF p):J6 (Ea p)=p:=by
 obtain⟨a,b,_⟩:=Ke h.is;rw[Nq a,b,h.eq]
def Ij:ByteArray:=⟨(List.replicate 512 0).toArray⟩
theorem iF:Bj Ij=false:=by
 have h:Pg.right Ij.data.toList=none:=by
  have e:Ij.data.toList=List.replicate 512 0:=rfl;rw[e]
  decide+kernel
 unfold Bj;rw[h];rfl
theorem iG {p:ByteArray}(h:Bj p=true):Ea p≠Ij:=fun e=>by
 have a:=(Ke h).1;rw[e,iF]at a
 cases a
theorem Rf (k:Nat)(a:k≤4):nF (Gk k)∧Ab (Gk k)=⟨0,k,0,[]⟩:=by
 have e:Gk (k:Int)=Gq ⟨0,k,0,[]⟩:=by unfold Gk;rw[if_neg (by omega)];rfl
 rw[e];exact nG ⟨by show 0<281474976710656;omega,a,by show 0<16777216;omega⟩ (by show 19≤512;omega) (fun r h=>by cases h) (Pg.Fv fun r h=>by cases h)
end Go.Proofs.YtmldoihahndcgaaGreatDoor
namespace Ck
open Lg
open Rc
end Ck
namespace Sc
open Rc Lg Ck
structure Pw (N M:Nat) (d:Dk) (g:Lo):Prop where
 whole:Whole d.sectors
 len:d.sectors.length=M
 room:1+N≤M
 up:d.down=false
 left:d.left= -1
 inv:∃ r1 r2,Yz 1 N d g r1 r2
theorem tO (N M:Nat)(h:1+N≤M):Pw N M (Ky M) ⟨1,N,0,0,⟨#[]⟩⟩:=by
 have b:(Ky M).sectors.length=M:=by show(List.replicate M Cs).length=_;rw[List.length_replicate]
 have a:Whole (Ky M).sectors:=Y2 _;exact⟨a,b,h,rfl,rfl,[],[],Yz.new (F:=1) a (by omega)⟩
theorem Pw.put {N M:Nat}{d:Dk}{g:Lo}(h:Pw N M d g)(r:Rec)(c:Cv {r with lsn:=g.end_+1})(p:g.end_+((Ei {r with lsn:=g.end_+1}).length:Int)≤(N:Int)*128):
 ∃ g2,Ay g r=(g2,g.end_+1,0)∧Pw N M d g2∧g2.end_=g.end_+((Ei {r with lsn:=g.end_+1}).length:Int):=by
 obtain⟨f,i,j,k,l,q,s,b⟩:=h;have t:=b.hn;have m:=b.append r;have e:Ay g r=((Ay g r).1,g.end_+1,0)∧(Ay g r).1.end_=g.end_+((Ei {r with lsn:=g.end_+1}).length:Int):=by
  unfold Ay;simp only;rw[if_neg (fun n=>n c),if_neg (by omega)];exact⟨rfl,rfl⟩
 rcases m with e1|e1|⟨_,o⟩
 ·have a:=e.1;rw[e1]at a;have:=congrArg (fun x=>x.2.2) a;simp at this
 ·have a:=e.1;rw[e1]at a;have:=congrArg (fun x=>x.2.2) a;simp at this
 ·exact⟨_,e.1,⟨f,i,j,k,l,_,_,o⟩,e.2⟩
def Hg (d:Dk)(a:Nat):ByteArray:=⟨(flat ((d.sectors.drop a).take 4)).toArray⟩
def Kk (b:ByteArray)(i:Nat):ByteArray:=b.extract (i*128) (i*128+128)
theorem iH {b:ByteArray}(a:b.size=512){i:Nat}(hi:i<4):(Kk b i).size=128:=by
 unfold Kk;rw[ByteArray.size_extract];omega
theorem Ut {d:Dk}{a:Nat}(b:a+4≤d.sectors.length):Hg d a=((d.sectors[a]++d.sectors[a+1])++d.sectors[a+2])++d.sectors[a+3]:=by
 have e:(d.sectors.drop a).take 4=[d.sectors[a],d.sectors[a+1],d.sectors[a+2],d.sectors[a+3]]:=by
  apply List.ext_getElem?
  intro j;rw[List.getElem?_take]
  split
  ·rw[List.getElem?_drop]
   have:j=0∨j=1∨j=2∨j=3:=(by omega);rcases this with rfl|rfl|rfl|rfl<;>rw[List.getElem?_eq_getElem (by omega)]<;>rfl
  ·rw[List.getElem?_eq_none (by simp;omega)]
 unfold Hg;rw[e]
 apply ByteArray.ext
 apply Array.toList_inj.1
 unfold flat
 simp
end Sc
namespace Go.Proofs.YtmldoihahndcgaaGreatDoor
open Go.RowKit Sc
theorem wH:Rc.num 0:=⟨by decide,by decide⟩
abbrev Full (f:Fr):Prop:=f.bytes≠⟨#[]⟩
structure xL (n:Nat) (fs:List Fr) (C:Nat→ByteArray):Prop where
 at_:∀ i (hi:i<fs.length),Full fs[i]→∃ p:Nat,p<n∧fs[i].page=(p:Int)∧fs[i].bytes=C p
 ds:∀ i j (hi:i<fs.length) (hj:j<fs.length),i≠j→Full fs[i]→Full fs[j]→fs[i].page≠fs[j].page
 xI:∀ i (hi:i<fs.length),fs[i].pins=0
 rc:∀ i (hi:i<fs.length),Rc.num fs[i].rc
 sz:∀ i (hi:i<fs.length),fs[i].bytes.size≤512
def tP (fs:List Fr)(p:Nat):Prop:=∃ i,∃ h:i<fs.length,Full fs[i]∧fs[i].page=(p:Int)∧fs[i].rc≠0
theorem Pu (fs:List Fr)(k:Nat)(f:Fr)(i:Nat)(hi:i<(fs.set k f).length):(i=k∧(fs.set k f)[i]=f)∨(i≠k∧∃ hi':i<fs.length,(fs.set k f)[i]=fs[i]):=by
 rw[List.getElem_set]
 by_cases e:k=i
 ·rw[if_pos e];exact .inl ⟨e.symm,rfl⟩
 ·rw[if_neg e];exact .inr ⟨fun h=>e h.symm,by simpa using hi,rfl⟩
def Lay (N:Nat)(d:Lg.Dk)(p:Nat)(b:ByteArray):Prop:=Hg d (1+N+4*p)=Ea b∨(Hg d (1+N+4*p)=Ij∧b=Gk (0:Nat))
structure PI (N n:Nat) (s:Tx.St) (fs:List Fr) (C:Nat→ByteArray):Prop where
 zl:s.zlog=(N:Int)
 zp:s.zpages=(n:Int)
 n1:1≤n∧n≤60∧N≤3000
 pw:Pw N (1+N+4*n) s.Am s.log
 nf:1≤fs.length∧fs.length≤64
 hd:0≤s.hand∧s.hand≤64
 fr:xL n fs C
 nm:∀ p,p<n→nF (C p)
 dk:∀ p,p<n→¬ tP fs p→Lay N s.Am p (C p)
def Om (p:Prop)(w:World)(e:Ending)(w':World):Prop:=∃ b:Bool,e= .returned (.bool b)∧(b=true↔p)∧Bw w w'
def Ib {α:Type}(P:α→Prop)(l:List α)(w:World)(e:Ending)(w':World):Prop:=
 ∃ k:Int,e= .returned (.int .i64 k)∧((k= -1∧∀ x∈l,¬ P x)∨∃ (i:Nat) (h:i<l.length),k=(i:Int)∧P l[i]∧∀ j (hj:j<i),¬ P (l[j]'(by omega)))∧Bw w w'
theorem Y4 {α:Type}{P:α→Prop}{l:List α}{w w':World}(h:∀ j (hj:j<l.length),¬ P l[j])(a:Bw w w'):Ib P l w (.returned (.int .i64 (-1))) w':=
 ⟨-1,rfl,.inl ⟨rfl,fun x b=>by obtain⟨j,hj,rfl⟩:=List.getElem_of_mem b;exact h j hj⟩,a⟩
theorem Uu {α:Type}{P:α→Prop}{l:List α}{w w':World}{k:Nat}(a:k<l.length)(b:P l[k])(h:∀ j (hj:j<l.length),j<k→¬ P l[j])(c:Bw w w'):Ib P l w (.returned (.int .i64 (k:Int))) w':=
 ⟨(k:Int),rfl,.inr ⟨k,a,rfl,b,fun j hj=>h j (by omega) hj⟩,c⟩
theorem Sw (P:Fr→Prop)(g:Nat)(K:Array Value)(eg:∀ args w,(callFunc g args).run Tryz.prog w= .ok (.enter g args) w)(l:List Fr)(hl:l.length≤140737488355328)(A:Option Addr)(c:Nat)(w:World)(L:Reads w A c l.length (l.flatMap F4))
 (M:∀ x∈l,∀ W,Bw w W→Cq g (#[.agg (Cg x)]++K) W (Om (P x) W)):
 Cq 122 #[.slice A l.length c,.func (.func g) #[] K] w (Ib P l w):=by
 have S:=Hq L;have T:=Hq M;have u:=Hq (fun h w' I=>Y4 (P:=P) (l:=l) (w:=w) (w':=w') h I);have m:=Hq (fun k N n h w' I=>Uu (P:=P) (l:=l) (w:=w) (w':=w') (k:=k) N n h I);generalize Ib P l w=Q at u m ⊢;clear L M;go_enter Tryz.func122,Tryz.ntmps122;go_wp2_with fail
 go_loopw [8] (fun i wr=>∃ k:Nat,k≤l.length∧i= .int .i64 k∧(∀ j (v:j<l.length),j<k→¬ P l[j])∧Bw w wr) (fun i _=>l.length-(intOf i).toNat)
 case atStart=>exact⟨0,Nat.zero_le _,rfl,fun _ _ h=>absurd h (by omega),Below.refl _ _⟩
 case round=>
  obtain⟨k,N,rfl,o,d⟩:=hrel;have C:=Hq o;clear o
  by_cases p:k<l.length
  ·obtain⟨b,off,rfl,y,U,a⟩:=Bi Cc (S.out.below d) p
   have O:=Hq (fun n=>m.out k p n C.out);have R:=Hq (show ¬ P l[k]→∀ j (v:j<l.length),j<k+1→¬ P l[j]from fun h j v J=>by
    rcases Nat.lt_or_eq_of_le (Nat.le_of_lt_succ J)with h1|h1
    ·exact C.out j v h1
    ·subst h1;exact h)
   have r:=T.out l[k] (List.getElem_mem p) wr d;generalize l[k]=x at a O R r;obtain⟨D,E,F,G,H⟩:=x;have f:=Hq (show wr.rangeAt b (off+k*5) [.int .i64 D,.string E,.int .i64 F,.bool G,.int .i64 H]from a);have s:=Hq r;clear a C r;dsimp only[Cg]at s;have V:(0:Int)≤(k:Int):=(by omega);have X:(k:Int)<(l.length:Int):=(by omega);have Y:IntKind.i64.wrap ((k:Int)+1)=(k:Int)+1:=IntWalk.i64_in _ (by omega)
   by_cases n:P ⟨D,E,F,G,H⟩
   ·have z:=Hq n
    clear n y
    go_wp2_with(first
     |with_reducible refine wpList_load_mid rfl 116 (.tmp 14) rfl b (off+k*5) rfl [.int .i64 D,.string E,.int .i64 F,.bool G,.int .i64 H] _ f.out Cw Kr Kr ?_
     |(go_at_fn g;(with_reducible refine s.out.mono ?_);rintro e Z ⟨q,rfl,B,t⟩;obtain rfl:q=true:=B.2 z.out;clear B))
    exact O.out z.out _ (Ae d t)
   ·have z:=Hq n
    clear n y
    go_wp2_with(first
     |with_reducible refine wpList_load_mid rfl 116 (.tmp 14) rfl b (off+k*5) rfl [.int .i64 D,.string E,.int .i64 F,.bool G,.int .i64 H] _ f.out Cw Kr Kr ?_
     |(go_at_fn g;(with_reducible refine s.out.mono ?_);rintro e Z ⟨q,rfl,B,t⟩;obtain rfl:q=false:=(by cases q with|true=>exact absurd (B.1 rfl) z.out|false=>rfl);clear B))
    go_roundw
    case rel=>exact⟨k+1,by omega,by go_num,R.out z.out,Ae d t⟩
    case measure=>simp[intOf];omega
  ·have HF:=Hq (u.out (fun j v=>C.out j v (by omega)) _ d)
   go_wp2_with fail;exact HF.out
abbrev tQ (t:Rc.Ci):Array Value:=#[t.txn,t.last,t.next,t.done]
theorem cB (P:Rc.Ci→Prop)(g:Nat)(J:Array Value)(eg:∀ args w,(callFunc g args).run Tryz.prog w= .ok (.enter g args) w)(l:List Rc.Ci)(hl:l.length≤140737488355328)(A:Option Addr)(c:Nat)(w:World)(K:Reads w A c l.length (l.flatMap Lb))
 (L:∀ x∈l,∀ W,Bw w W→Cq g (#[.agg (tQ x)]++J) W (Om (P x) W)):
 Cq 176 #[.slice A l.length c,.func (.func g) #[] J] w (Ib P l w):=by
 have R:=Hq K;have S:=Hq L;have u:=Hq (fun h w' H=>Y4 (P:=P) (l:=l) (w:=w) (w':=w') h H);have m:=Hq (fun k M n h w' H=>Uu (P:=P) (l:=l) (w:=w) (w':=w') (k:=k) M n h H);generalize Ib P l w=Q at u m ⊢;clear K L;go_enter Tryz.func176,Tryz.ntmps176;go_wp2_with fail
 go_loopw [8] (fun i wr=>∃ k:Nat,k≤l.length∧i= .int .i64 k∧(∀ j (v:j<l.length),j<k→¬ P l[j])∧Bw w wr) (fun i _=>l.length-(intOf i).toNat)
 case atStart=>exact⟨0,Nat.zero_le _,rfl,fun _ _ h=>absurd h (by omega),Below.refl _ _⟩
 case round=>
  obtain⟨k,M,rfl,o,d⟩:=hrel;have C:=Hq o;clear o
  by_cases p:k<l.length
  ·obtain⟨b,off,rfl,y,T,a⟩:=Bi Fo (R.out.below d) p
   have N:=Hq (fun n=>m.out k p n C.out);have O:=Hq (show ¬ P l[k]→∀ j (v:j<l.length),j<k+1→¬ P l[j]from fun h j v I=>by
    rcases Nat.lt_or_eq_of_le (Nat.le_of_lt_succ I)with h1|h1
    ·exact C.out j v h1
    ·subst h1;exact h)
   have r:=S.out l[k] (List.getElem_mem p) wr d;generalize l[k]=x at a N O r;obtain⟨D,E,F,G⟩:=x;have f:=Hq (show wr.rangeAt b (off+k*4) [.int .i64 D,.int .i64 E,.int .i64 F,.bool G]from a);have s:=Hq r;clear a C r;dsimp only[tQ]at s;have U:(0:Int)≤(k:Int):=(by omega);have V:(k:Int)<(l.length:Int):=(by omega);have X:IntKind.i64.wrap ((k:Int)+1)=(k:Int)+1:=IntWalk.i64_in _ (by omega)
   by_cases n:P ⟨D,E,F,G⟩
   ·have z:=Hq n
    clear n y
    go_wp2_with(first
     |with_reducible refine wpList_load_mid rfl 134 (.tmp 14) rfl b (off+k*4) rfl [.int .i64 D,.int .i64 E,.int .i64 F,.bool G] _ f.out lX Kr Kr ?_
     |(go_at_fn g;(with_reducible refine s.out.mono ?_);rintro e Y ⟨q,rfl,B,t⟩;obtain rfl:q=true:=B.2 z.out;clear B))
    exact N.out z.out _ (Ae d t)
   ·have z:=Hq n
    clear n y
    go_wp2_with(first
     |with_reducible refine wpList_load_mid rfl 134 (.tmp 14) rfl b (off+k*4) rfl [.int .i64 D,.int .i64 E,.int .i64 F,.bool G] _ f.out lX Kr Kr ?_
     |(go_at_fn g;(with_reducible refine s.out.mono ?_);rintro e Y ⟨q,rfl,B,t⟩;obtain rfl:q=false:=(by cases q with|true=>exact absurd (B.1 rfl) z.out|false=>rfl);clear B))
    go_roundw
    case rel=>exact⟨k+1,by omega,by go_num,O.out z.out,Ae d t⟩
    case measure=>simp[intOf];omega
  ·have Z:=Hq (u.out (fun j v=>C.out j v (by omega)) _ d)
   go_wp2_with fail;exact Z.out
theorem Sx (l:List Fr)(q:l.length≤1000000)(A:Option Addr)(c:Nat)(w:World)(a:Reads w A c l.length (l.flatMap F4)):
 Cq 207 #[.slice A l.length c] w fun e w'=>∃ v,e= .returned v∧E7 F4 5 116 w.heap.size w' v l∧Bw w w':=by
 obtain⟨i0,k,d,f,g⟩:=info_parts Wd;have m:=Hq a
 cases A with
 |none=>
  have h:l=[]:=by
   rcases Nat.eq_zero_or_pos l.length with h0|h0
   ·exact List.eq_nil_of_length_eq_zero h0
   ·obtain⟨b,off,e,_⟩:=a h0
    cases e
  subst h;clear a m;have n:∀ w,(binOp .eql 31 (.slice none 0 c) (.slice none 0 0)).run Tryz.prog w= .ok (.bool true) w:=fun w=>Lib.run_eql_slice_nil w 31 116 none 0 c 0 0 qM;simp only[List.length_nil];go_enter Tryz.func207,Tryz.ntmps207;go_wp2_with fail;go_ret;exact⟨_,rfl,Rp _ _ _ _,Below.refl _ _⟩
 |some ad=>
  have i:=Hq (a.below (Ad w (.cells #[] 116)));have n:∀ w,(binOp .eql 31 (.slice (some ad) l.length c) (.slice none 0 0)).run Tryz.prog w= .ok (.bool false) w:=fun w=>Lib.run_eql_slice_nil w 31 116 (some ad) l.length c 0 0 qM;clear a;go_enter Tryz.func207,Tryz.ntmps207
  go_wp2_with(at_builtin;refine Bt Kr fun K o=>Ir (w.alloc (.cells #[] 116)) (.tmp 5) (.tmp 6) 31 116 i0 (.agg #[(),"",(),false,()]) 5 48 qM k d f g rfl (by omega) rfl w.heap.size _ 0 [] rfl (Ic w 116 5) (some ad) l.length c (l.flatMap F4) rfl i.out (by rw[Di Cc]) (eT l) (by omega) (by omega) (by simp) ?_;intro v2 r j s p;refine o _ _ ?_)
  go_ret;rw[List.nil_append,Nat.zero_add]at j;exact⟨_,rfl,j,(Ad w (.cells #[] 116)).trans p⟩
theorem Qi (s:Tx.St)(p:SP)(N n:Nat)(b:s.zlog=(N:Int))(j:N≤3000)(k:n≤1000)(w:World):
 Cr 209 #[Af s p,.int .i64 (n:Int)] w (.int .i64 ((1+N+4*n:Nat):Int)):=by
 have e:IntKind.i64.wrap (1+(N:Int))=1+(N:Int):=IntWalk.i64_in _ (by omega);have f:IntKind.i64.wrap (4*(n:Int))=4*(n:Int):=IntWalk.i64_in _ (by omega);have g:IntKind.i64.wrap (1+(N:Int)+4*(n:Int))=1+(N:Int)+4*(n:Int):=IntWalk.i64_in _ (by omega);have h:=Hq b;clear b;go_enter Tryz.func209,Tryz.ntmps209;go_upto_region 1 with fail;have c:=Hq (heap_alloc_new w (.cells (Ai s p) 36));have d:=Hq (Ad w (.cells (Ai s p) 36));obtain⟨i,a⟩:=ex (w.alloc (.cells (Ai s p) 36));rw[← a]at c d ⊢;clear a;have l:=show i.cell? ⟨w.heap.size,0,none⟩=some (.int .i64 (N:Int))from by rw[Aa c.out];show some (Value.int .i64 s.zlog)=_;rw[h.out]
 go_wp2_with fail;go_ret;exact⟨congrArg (fun x=>Ending.returned (.int .i64 x)) (by omega),d.out⟩
theorem L5 (s:Tx.St)(p:SP)(n:Nat)(d:s.zpages=(n:Int))(x:Int)(w:World):
 Cr 145 #[Af s p,x] w (.bool (decide (0≤x∧x<(n:Int)))):=by
 have f:=Hq d;clear d;have g:=Hq (heap_alloc_new w (.cells (Ai s p) 36));have c:=Hq (Ad w (.cells (Ai s p) 36));have e:=Hq (show(w.alloc (.cells (Ai s p) 36)).cell? ⟨w.heap.size,1,none⟩=some (.int .i64 (n:Int))from by rw[Aa g.out];show some (Value.int .i64 s.zpages)=_;rw[f.out])
 by_cases a:0≤x
 ·by_cases b:x<(n:Int)
  ·rw[decide_eq_true (show 0≤x∧x<(n:Int)from⟨a,b⟩)]
   go_enter Tryz.func145,Tryz.ntmps145;go_upto_region 1 with fail;have i:=e.out;go_wp2_with fail;go_ret;exact⟨by simp[a,b],c.out⟩
  ·rw[decide_eq_false (show ¬ (0≤x∧x<(n:Int))from fun h=>b h.2)]
   go_enter Tryz.func145,Tryz.ntmps145;go_upto_region 1 with fail;have i:=e.out;go_wp2_with fail;go_ret;exact⟨by simp[a,b],c.out⟩
 ·rw[decide_eq_false (show ¬ (0≤x∧x<(n:Int))from fun h=>a h.1)]
  go_enter Tryz.func145,Tryz.ntmps145;go_upto_region 1 with fail;go_wp2_with fail;go_ret;exact⟨by simp[a],c.out⟩
theorem Uv (b:ByteArray)(f:b.size≤140737488355328)(w:World):
 Cr 211 #[b] w (.string (J6 b)):=by
 have g:=Hq (fun W=>Vr b f W);have a:=Hq (fun W=>show Cr 20 #[b,.int .i64 ((Ab b).lsn:Nat)] W (.string (J6 b)) from Jg b ((Ab b).lsn:Nat) f W);generalize J6 b=q at a ⊢;generalize ((Ab b).lsn:Nat)=l at g a;go_enter Tryz.func211,Tryz.ntmps211
 go_wp2_with(first
  |(go_at_call 183;(with_reducible refine(g.out _).mono ?_);rintro e h ⟨rfl,c⟩)
  |(go_at_call 20;(with_reducible refine(a.out _).mono ?_);rintro e i ⟨rfl,d⟩))
 go_ret;exact⟨rfl,Ae c d⟩
theorem cC {p:Prop}{w w':World}(a:p)(b:Bw w w'):Om p w (.returned (.bool true)) w':=⟨true,rfl,⟨fun _=>a,fun _=>rfl⟩,b⟩
theorem cD {p:Prop}{w w':World}(a:¬ p)(b:Bw w w'):Om p w (.returned (.bool false)) w':=⟨false,rfl,⟨(fun h=>by cases h),fun h=>absurd h a⟩,b⟩
theorem Uw (f:Fr)(w:World):Cq 124 #[.agg (Cg f)] w (Om (¬ Full f) w):=by
 obtain⟨c,a,d,e,g⟩:=f
 by_cases h:a=⟨#[]⟩
 ·have b:=Hq (fun w' i=>cC (p:=¬ Full ⟨c,a,d,e,g⟩) (w:=w) (w':=w') (fun j=>j h) i)
  generalize Om (¬ Full ⟨c,a,d,e,g⟩) w=Q at b ⊢;subst h;dsimp only[Cg];have k:=Mn;go_enter Tryz.func124,Tryz.ntmps124;go_wp2_with fail;exact b.out _ (Ad _ _)
 ·have b:=Hq (fun w' i=>cD (p:=¬ Full ⟨c,a,d,e,g⟩) (w:=w) (w':=w') (fun j=>j h) i)
  generalize Om (¬ Full ⟨c,a,d,e,g⟩) w=Q at b ⊢;obtain⟨l,z2,z3⟩:=Pt h;clear h;dsimp only[Cg];go_enter Tryz.func124,Tryz.ntmps124;go_wp2_with fail;exact b.out _ (Ad _ _)
theorem qO (f:Fr)(x:Int)(b:Nat)(w:World)(B:w.cell? ⟨b,0,none⟩=some (.int .i64 x)):Cq 123 #[.agg (Cg f),.pointer (some ⟨b,0,none⟩)] w (Om (Full f∧f.page=x) w):=by
 have u:=Hq (fun W=>Uw f W);have C:=Hq B;clear B;have v:b<w.heap.size:=by
  rcases Nat.lt_or_ge b w.heap.size with h|h
  ·exact h
  ·have D:=C.out
   rw[World.cell?,Array.getElem?_eq_none h]at D
   cases D
 have r:=Hq (fun W (d:Bw w W)=>show W.cell? ⟨b,0,none⟩=some (.int .i64 x)from by rw[d.cell (p:=⟨b,0,none⟩) v];exact C.out);have t:=Hq (fun w' d h=>cC (p:=Full f∧f.page=x) (w:=w) (w':=w') h d);have s:=Hq (fun w' d h=>cD (p:=Full f∧f.page=x) (w:=w) (w':=w') h d)
 by_cases k:Full f
 ·by_cases n:f.page=x
  ·have l:=Hq (fun w' d=>t.out w' d ⟨k,n⟩)
   generalize Om (Full f∧f.page=x) w=Q at l ⊢;have y:(f.page==x)=true:=(by rw[n];exact beq_self_eq_true _);have g:=Hq k;clear k n t s;go_enter Tryz.func123,Tryz.ntmps123;go_upto_region 1 with fail;have i:=Hq (heap_alloc_new w (.cells (Cg f) 116));have j:=Hq (Ad w (.cells (Cg f) 116));obtain⟨E,c⟩:=ex (w.alloc (.cells (Cg f) 116));rw[← c]at i j ⊢;clear c
   go_wp2_with(first
    |with_reducible refine lL i.out Cw ?_
    |(go_at_call 124;refine(u.out _).mono ?_;rintro e o ⟨q,rfl,m,a⟩;obtain rfl:q=false:=(by cases q with|true=>exact absurd g.out (m.1 rfl)|false=>rfl);clear m;have z:=show o.cell? ⟨w.heap.size,0,none⟩=some (.int .i64 f.page)from(by rw[Aa (Ac i.out a)];rfl);have A:=r.out o (Ae j.out a)))
   exact l.out _ (Ae j.out a)
  ·have l:=Hq (fun w' d=>s.out w' d fun h=>n h.2)
   generalize Om (Full f∧f.page=x) w=Q at l ⊢;have y:(f.page==x)=false:=beq_eq_false_iff_ne.2 n;have g:=Hq k;clear k n t s;go_enter Tryz.func123,Tryz.ntmps123;go_upto_region 1 with fail;have i:=Hq (heap_alloc_new w (.cells (Cg f) 116));have j:=Hq (Ad w (.cells (Cg f) 116));obtain⟨E,c⟩:=ex (w.alloc (.cells (Cg f) 116));rw[← c]at i j ⊢;clear c
   go_wp2_with(first
    |with_reducible refine lL i.out Cw ?_
    |(go_at_call 124;refine(u.out _).mono ?_;rintro e o ⟨q,rfl,m,a⟩;obtain rfl:q=false:=(by cases q with|true=>exact absurd g.out (m.1 rfl)|false=>rfl);clear m;have z:=show o.cell? ⟨w.heap.size,0,none⟩=some (.int .i64 f.page)from(by rw[Aa (Ac i.out a)];rfl);have A:=r.out o (Ae j.out a)))
   exact l.out _ (Ae j.out a)
 ·have l:=Hq (fun w' d=>s.out w' d fun h=>k h.1)
  generalize Om (Full f∧f.page=x) w=Q at l ⊢;have g:=Hq k;clear k t s;go_enter Tryz.func123,Tryz.ntmps123;go_upto_region 1 with fail;have i:=Hq (heap_alloc_new w (.cells (Cg f) 116));have j:=Hq (Ad w (.cells (Cg f) 116));obtain⟨E,c⟩:=ex (w.alloc (.cells (Cg f) 116));rw[← c]at i j ⊢;clear c
  go_wp2_with(first
   |with_reducible refine lL i.out Cw ?_
   |(go_at_call 124;refine(u.out _).mono ?_;rintro e o ⟨q,rfl,m,a⟩;obtain rfl:q=true:=m.2 g.out;clear m))
  exact l.out _ (Ae j.out a)
theorem Mo (s:Tx.St)(p:SP)(fs:List Fr)(B:fs.length≤1000)(x:Int)(w:World)(h:An w s p fs):
 Cq 50 #[Af s p,x] w (Ib (fun f=>Full f∧f.page=x) fs w):=by
 have r:=Hq (fun(b:Nat) W (d:Bw w W) (o:W.cell? ⟨b,0,none⟩=some (.int .i64 x)) (g:b<W.heap.size)=>Sw (fun f=>Full f∧f.page=x) 123 #[.pointer (some ⟨b,0,none⟩)] (enters_of Tryz.func123 Kr rfl) fs (by omega) p.F p.fc W (h.fr.below d) (fun f _ V t=>qO f x b V (by rw[t.cell (p:=⟨b,0,none⟩) g];exact o)));have j:=Hq h.fn;have q:=Hq (fun W e w' (d:Bw w W) (u:Ib (fun f=>Full f∧f.page=x) fs W e w')=>show Ib (fun f=>Full f∧f.page=x) fs w e w' from by
  obtain⟨k,v,y,z⟩:=u;exact⟨k,v,y,Ae d z⟩)
 generalize Ib (fun f=>Full f∧f.page=x) fs w=Q at q ⊢;clear h;go_enter Tryz.func50,Tryz.ntmps50;go_upto_region 1 with fail;have a:=Il w (Ai s p) 36 #[x] 3;obtain⟨l,c⟩:=Dr a;rw[← c]at a ⊢;clear c;have o:=show l.cell? ⟨w.heap.size,11,none⟩=some (.slice p.F fs.length p.fc)from by rw[Aa a.out.Ag,← j.out];rfl
 have m:=Hq (r.out (w.heap.size+1) l a.out.below (by rw[Aa a.out.Ah];rfl) (a.out.lt (i:=1) (by simp)))
 go_wp2_with(go_at_call 122;(refine m.out.mono ?_);rintro e C ⟨k,rfl,A,n⟩)
 exact q.out l _ _ a.out.below ⟨k,rfl,A,n⟩
structure iI (fs fs':List Fr):Prop where
 len:fs'.length=fs.length
 at_:∀ i (h:i<fs.length) (h':i<fs'.length),fs'[i]={fs[i]with mark:=fs'[i].mark}
theorem iI.refl (fs:List Fr):iI fs fs:=⟨rfl,fun _ _ _=>rfl⟩
theorem iI.set {fs a:List Fr}(h:iI fs a){k:Nat}(f:k<a.length)(m:Bool):iI fs (a.set k {a[k]with mark:=m}):=by
 refine⟨by rw[List.length_set];exact h.len,fun i d b=>?_⟩;have j:=h.len;rcases Pu a k {a[k]with mark:=m} i b with⟨e,c⟩|⟨_,g,c⟩
 ·subst e
  rw[c,h.at_ i d f]
 ·rw[c];exact h.at_ i d g
structure Mp (M:Nat) (d:Lg.Dk):Prop where
 sz:∀ x∈d.sectors,x.size=128
 lb: -9223372036854775808≤d.left∧d.left≤9223372036854775807
 len:d.sectors.length=M
theorem Mp.write {M:Nat}{d:Lg.Dk}(h:Mp M d)(a:Int)(b:ByteArray):Mp M (Lg.Cl d a b).1:=by
 unfold Lg.Cl
 split
 ·exact h
 ·split
  ·exact h
  ·rename_i e
   split
   ·exact⟨h.sz,h.lb,h.len⟩
   ·refine⟨fun x f=>?_,?_,by show(d.sectors.set _ _).length=M;rw[List.length_set];exact h.len⟩
    ·rcases List.mem_or_eq_of_mem_set f with h1|h1
     ·exact h.sz x h1
     ·rw[h1]
      by_cases c:b.size=128
      ·exact c
      ·exact absurd (fun g=>c g.2) e
    ·have:=h.lb
     show _≤(if 0<d.left then d.left-1 else d.left)∧(if 0<d.left then d.left-1 else d.left)≤_
     split<;>omega
theorem Mp.Ej {M:Nat}(base:Int)(all:List ByteArray):∀ (i:Nat) (d:Lg.Dk),Mp M d→Mp M (Lg.Ej base all i d).1
 |0,_,h=>h
 |i+1,d,h=>by
  have h1:=h.write (base+(i:Int)) (all[i]?.getD ⟨#[]⟩);unfold Lg.Ej
  split
  ·exact Mp.Ej base all i _ h1
  ·exact h1
theorem Mp.force {M:Nat}{d:Lg.Dk}(h:Mp M d)(l:Lg.Lo):Mp M (Lg.Bo d l).1:=by
 unfold Lg.Bo
 split
 ·exact h
 ·simp only
  split
  ·exact Mp.Ej _ _ _ _ h
  ·exact Mp.Ej _ _ _ _ h
def E0 (d:Lg.Dk)(a:Nat)(b:ByteArray):Nat→Lg.Dk×Int
 |0=>(d,0)
 |k+1=>if(E0 d a b k).2=0 then Lg.Cl (E0 d a b k).1 ((a:Int)+(k:Int)) (Kk b k)else E0 d a b k
theorem Hr {d:Lg.Dk}{a:Nat}{b:ByteArray}{k:Nat}(h:¬ (E0 d a b k).2=0):∀ j,E0 d a b (k+j)=E0 d a b k
 |0=>rfl
 |j+1=>by
  have ih:=Hr h j
  show(if(E0 d a b (k+j)).2=0 then _ else E0 d a b (k+j))=_
  rw[ih,if_neg h]
theorem Kl {d:Lg.Dk}{a:Nat}{b:ByteArray}{k:Nat}(h:(E0 d a b k).2=0):E0 d a b (k+1)=Lg.Cl (E0 d a b k).1 ((a:Int)+(k:Int)) (Kk b k):=by
 show(if(E0 d a b k).2=0 then _ else _)=_
 rw[if_pos h]
theorem Mp.E0 {M:Nat}{d:Lg.Dk}(h:Mp M d)(a:Nat)(b:ByteArray):∀ k,Mp M (E0 d a b k).1
 |0=>h
 |k+1=>by
  have ih:=Mp.E0 h a b k
  by_cases h0:(Go.Proofs.YtmldoihahndcgaaGreatDoor.E0 d a b k).2=0
  ·rw[Kl h0];exact ih.write _ _
  ·rw[Hr h0 1];exact ih
theorem eW {b:ByteArray}(k:Nat):b.extract (k*128) ((k+1)*128)=Kk b k:=by unfold Kk;rw[show(k+1)*128=k*128+128 by omega]
theorem eX {M:Nat}{d:Lg.Dk}(h:Mp M d){a:Int}{b:ByteArray}(c:0≤a)(g:a<(M:Int))(e:b.size=128):(Lg.Cl d a b).2=0∨(Lg.Cl d a b).2=20:=by
 have i:=h.len;unfold Lg.Cl
 split
 ·exact .inr rfl
 ·rw[if_neg (fun f=>f ⟨⟨c,by omega⟩,e⟩)]
  split
  ·exact .inr rfl
  ·exact .inl rfl
theorem sS {M:Nat}{d:Lg.Dk}(h:Mp M d){a:Nat}{b:ByteArray}(ha:a+4≤M)(hb:b.size=512):∀ k,k≤4→(E0 d a b k).2=0∨(E0 d a b k).2=20
 |0,_=>.inl rfl
 |k+1,hk=>by
  rcases sS h ha hb k (by omega)with h0|h0
  ·rw[Kl h0]
   exact eX (h.E0 a b k) (by omega) (by omega) (iH hb (by omega))
  ·have hn:¬ (E0 d a b k).2=0:=by rw[h0];decide
   rw[Hr hn 1];exact .inr h0
structure Px where
 s:Tx.St
 fs:List Fr
 e:Int
def Vi:Fr:=⟨0,⟨#[]⟩,0,false,0⟩
def Cp (fs:List Fr)(k:Nat):Fr:=fs[k]?.getD Vi
theorem Br {fs:List Fr}{k:Nat}(h:k<fs.length):Cp fs k=fs[k]:=by unfold Cp;rw[List.getElem?_eq_getElem h];rfl
def Ec (s:Tx.St)(p:Int):Nat:=(1+s.zlog+4*p).toNat
def Db (s:Tx.St)(p:Int):ByteArray×Int:=
 if s.Am.down=true then(⟨#[]⟩,20)else
 if Hg s.Am (Ec s p)=Ij then(Gk 0,0)else
 if Gs (Hg s.Am (Ec s p))=true then(J6 (Hg s.Am (Ec s p)),0)else(⟨#[]⟩,19)
def E2 (n:Nat):Nat→Nat→List Fr→Option (Nat×List Fr)
 |0,_,_=>none
 |j+1,a,fs=>if 0<(Cp fs a).pins then E2 n j ((a+1)%n) fs else if(Cp fs a).mark=true then E2 n j ((a+1)%n) (fs.set a {Cp fs a with mark:=false})else some (a,fs)
def Cy (s:Tx.St)(fs:List Fr)(k:Nat):Px:=
 if(Cp fs k).rc=0 then⟨s,fs,0⟩else
 if ¬ (Lg.Bo s.Am s.log).2.2=0 then⟨{s with Am:=(Lg.Bo s.Am s.log).1,log:=(Lg.Bo s.Am s.log).2.1},fs,(Lg.Bo s.Am s.log).2.2⟩else
 if ¬ (E0 (Lg.Bo s.Am s.log).1 (Ec s (Cp fs k).page) (Ea (Cp fs k).bytes) 4).2=0 then
  ⟨{s with Am:=(E0 (Lg.Bo s.Am s.log).1 (Ec s (Cp fs k).page) (Ea (Cp fs k).bytes) 4).1,log:=(Lg.Bo s.Am s.log).2.1},fs,(E0 (Lg.Bo s.Am s.log).1 (Ec s (Cp fs k).page) (Ea (Cp fs k).bytes) 4).2⟩
 else⟨{s with Am:=(E0 (Lg.Bo s.Am s.log).1 (Ec s (Cp fs k).page) (Ea (Cp fs k).bytes) 4).1,log:=(Lg.Bo s.Am s.log).2.1},fs.set k {Cp fs k with rc:=0},0⟩
noncomputable def Jl (fs:List Fr) (p:Int):Option Nat:=by
 classical exact fs.findIdx? fun f=>decide (Full f∧f.page=p)
noncomputable def Hb (fs:List Fr):Option Nat:=by
 classical exact fs.findIdx? fun f=>decide (¬ Full f)
theorem On {α:Type}{P:α→Bool}{l:List α}(h:∀ x∈l,P x=false):l.findIdx? P=none:=List.findIdx?_eq_none_iff.2 h
theorem Oo {α:Type}{P:α→Bool}{l:List α}{k:Nat}(a:k<l.length)(b:P l[k]=true)(c:∀ j (hj:j<l.length),j<k→P l[j]=false):l.findIdx? P=some k:=by
 rw[List.findIdx?_eq_some_iff_getElem];refine⟨a,b,fun j hj=>?_⟩;rw[c j (by omega) hj]
 decide
theorem Ik {fs:List Fr}{p:Int}(h:∀ x∈fs,¬ (Full x∧x.page=p)):Jl fs p=none:=by
 unfold Jl;exact On fun x a=>by simpa using h x a
theorem Hc {fs:List Fr}{p:Int}{k:Nat}(b:k<fs.length)(c:Full fs[k]∧fs[k].page=p)(d:∀ j (hj:j<fs.length),j<k→¬ (Full fs[j]∧fs[j].page=p)):Jl fs p=some k:=by
 unfold Jl;exact Oo b (by simpa using c) fun j hj a=>by simpa using d j hj a
theorem Nr {fs:List Fr}(h:∀ x∈fs,¬ ¬ Full x):Hb fs=none:=by
 unfold Hb;exact On fun x a=>by simpa using h x a
theorem K2 {fs:List Fr}{k:Nat}(b:k<fs.length)(c:¬ Full fs[k])(d:∀ j (hj:j<fs.length),j<k→¬ ¬ Full fs[j]):Hb fs=some k:=by
 unfold Hb;exact Oo b (by simpa using c) fun j hj a=>by simpa using d j hj a
noncomputable def A9 (s:Tx.St) (fs:List Fr):Px×Nat:=
 match Hb fs with
 |some k=>(⟨s,fs,0⟩,k)
 |none=>match E2 fs.length (2*fs.length) (s.hand.toNat%fs.length) fs with
  |none=>(⟨s,fs,18⟩,0)
  |some (k,fs')=>(Cy {s with hand:=(((k+1)%fs.length:Nat):Int)} fs' k,k)
def De (s:Tx.St)(fs:List Fr)(x:Px):Px:=if x.e=0∨x.e=20 then x else⟨s,fs,x.e⟩
def Gh (s:Tx.St)(p:Int):Prop:=0≤p∧p<s.zpages
instance (s:Tx.St) (p:Int):Decidable (Gh s p):=by unfold Gh;exact inferInstance
noncomputable def Aq (s:Tx.St) (fs:List Fr) (p:Int):Px×Nat:=
 if ¬ Gh s p then(⟨s,fs,1⟩,0)else
 match Jl fs p with
 |some k=>(⟨s,fs.set k {Cp fs k with mark:=true},0⟩,k)
 |none=>if ¬ (Db s p).2=0 then(⟨s,fs,(Db s p).2⟩,0)else
  if(A9 s fs).1.e=0 then(⟨(A9 s fs).1.s,(A9 s fs).1.fs.set (A9 s fs).2 ⟨p,(Db s p).1,0,true,0⟩,0⟩,(A9 s fs).2)
  else(De s fs (A9 s fs).1,0)
noncomputable def Jm (s:Tx.St) (fs:List Fr) (p:Int):Px×ByteArray:=
 ((Aq s fs p).1,if(Aq s fs p).1.e=0 then(Cp (Aq s fs p).1.fs (Aq s fs p).2).bytes else⟨#[]⟩)
noncomputable def My (s:Tx.St) (fs:List Fr) (p:Int):Px:=
 if(Aq s fs p).1.e=0 then⟨(Aq s fs p).1.s,(Aq s fs p).1.fs.set (Aq s fs p).2 {Cp (Aq s fs p).1.fs (Aq s fs p).2 with pins:=(Cp (Aq s fs p).1.fs (Aq s fs p).2).pins+1},0⟩else(Aq s fs p).1
noncomputable def Ff (s:Tx.St) (fs:List Fr) (p:Int):Px:=
 if ¬ Gh s p then⟨s,fs,1⟩else
 match Jl fs p with
 |none=>⟨s,fs,21⟩
 |some k=>if(Cp fs k).pins≤0 then⟨s,fs,21⟩else⟨s,fs.set k {Cp fs k with pins:=(Cp fs k).pins-1},0⟩
noncomputable def Df (s:Tx.St) (fs:List Fr) (p:Int):Px:=
 if ¬ Gh s p then⟨s,fs,1⟩else
 match Jl fs p with
 |none=>⟨s,fs,0⟩
 |some k=>De s fs (Cy s fs k)
def Qy (p:Int)(b:ByteArray):Rc.Rec:=⟨0,0,0,8,p,0,0,⟨7,0,⟨#[]⟩,b⟩,0,0,Rc.Ey,[],[]⟩
noncomputable def E3 (s:Tx.St) (f:Fr) (p:Int):Lg.Lo×Int×Int:=if f.rc=0 then Lg.Ay s.log (Qy p f.bytes)else(s.log,f.rc,0)
def F9 (ts:List Rc.Ci)(i:Nat):Rc.Ci:=ts[i]?.getD ⟨0,0,0,false⟩
noncomputable def Ty (x:Px) (k i:Nat) (s:Tx.St) (fs:List Fr) (r:Rc.Rec) (b:ByteArray):Px:=
 let m:=E3 x.s (Cp x.fs k) r.page
 if ¬ m.2.2=0 then⟨s,fs,m.2.2⟩else
 let a:=Lg.Ay m.1 {r with prev:=(F9 x.s.txns i).last}
 if ¬ a.2.2=0 then⟨s,fs,a.2.2⟩else
 ⟨{x.s with log:=a.1,txns:=x.s.txns.set i {F9 x.s.txns i with last:=a.2.1,next:=if r.kind=3 then r.next else a.2.1}},x.fs.set k ⟨(Cp x.fs k).page,Cj b a.2.1,(Cp x.fs k).pins,true,m.2.1⟩,0⟩
noncomputable def D5 (s:Tx.St) (fs:List Fr) (r:Rc.Rec) (D:ByteArray→ByteArray×Int):Px:=
 if ¬ ((r.kind=2∨r.kind=3)∧Gh s r.page)then⟨s,fs,1⟩else
 match s.txns.findIdx? fun a=>decide (a.txn=r.txn)with
 |none=>⟨s,fs,21⟩
 |some i=>if ¬ (Aq s fs r.page).1.e=0 then(Aq s fs r.page).1 else
  if ¬ (D (Cp (Aq s fs r.page).1.fs (Aq s fs r.page).2).bytes).2=0 then⟨s,fs,(D (Cp (Aq s fs r.page).1.fs (Aq s fs r.page).2).bytes).2⟩else
  Ty (Aq s fs r.page).1 (Aq s fs r.page).2 i s fs r (D (Cp (Aq s fs r.page).1.fs (Aq s fs r.page).2).bytes).1
end Go.Proofs.YtmldoihahndcgaaGreatDoor
namespace Rc
theorem vP:num 0:=⟨by decide,by decide⟩
theorem iJ {r:Rec}(h:Cv r)(s:r.kind≠9):(Lg.Ei r).length≤1262:=by
 rw[Lg.Lt];unfold Eu;rw[List.length_append,Ul]
 cases h with
 |small kind a prev b t f g i=>
  have l:G7 (bare kind a prev b)=[]:=by
   unfold G7 bare;simp only;rw[if_neg (by omega),if_neg (by omega),if_neg (by omega),if_neg (by omega),if_neg (by omega)]
  rw[l];simp
 |change a prev b c op j root e f g i m d o=>
  rw[Oa rfl];have q:=Mh d;have v:(M4 ⟨a,prev,b,2,c,0,0,op,j,root,e,[],[]⟩).length≤200:=by
   unfold M4;rcases o with⟨k,_⟩|⟨k,w,x,u,p⟩
   ·simp only at k;subst k;simp
   ·simp only at k p
    rw[if_neg (show ¬ j=1 by omega)];simp only[List.length_append,Bf,R8];omega
  simp only[List.length_append,Bf];omega
 |clr a prev b c op next f g i m d o=>
  rw[Q8 rfl];have q:=Mh d;simp only[List.length_append,Bf];omega
 |nest a prev b next f g i o=>
  rw[eF rfl];simp only[Bf];omega
 |image a prev b c op f g i m d=>
  rw[Q9 rfl];have q:=Mh d;simp only[List.length_append,Bf];omega
 |check a prev b n ts ds f g i m d=>exact absurd rfl s
end Rc
namespace Go.Proofs.YtmldoihahndcgaaGreatDoor
open Go.RowKit Sc
theorem PI.log {N n:Nat}{s:Tx.St}{fs:List Fr}{C:Nat→ByteArray}(h:PI N n s fs C)(r:Rc.Rec)(a:Rc.Cv {r with lsn:=s.log.end_+1})(b:r.kind≠9)(d:s.log.end_+1262≤(N:Int)*128):
 ∃ g2,Lg.Ay s.log r=(g2,s.log.end_+1,0)∧PI N n {s with log:=g2} fs C∧s.log.end_<g2.end_∧g2.end_≤s.log.end_+1262:=by
 have f:=Rc.iJ a b;have g:8≤(Lg.Ei {r with lsn:=s.log.end_+1}).length:=by rw[Lg.Lt];omega
 obtain⟨g2,e,c,i⟩:=h.pw.put r a (by omega);exact⟨g2,e,⟨h.zl,h.zp,h.n1,c,h.nf,h.hd,h.fr,h.nm,h.dk⟩,by omega,by omega⟩
def Tz (fs fs':List Fr):Prop:=∀ j (h:j<fs.length) (h':j<fs'.length),fs'[j].page=fs[j].page∧fs'[j].bytes=fs[j].bytes
theorem Tz.refl (fs:List Fr):Tz fs fs:=fun _ _ _=>⟨rfl,rfl⟩
theorem Tz.trans {fs a fs2:List Fr}(h:Tz fs a)(k:Tz a fs2)(e:a.length=fs.length):Tz fs fs2:=fun j b c=>
 ⟨(k j (by omega) c).1.trans (h j b (by omega)).1,(k j (by omega) c).2.trans (h j b (by omega)).2⟩
theorem Tz.marks {fs fs':List Fr}(h:iI fs fs'):Tz fs fs':=fun j a b=>by rw[h.at_ j a b];exact⟨rfl,rfl⟩
theorem Tz.set (fs:List Fr)(k:Nat)(g:k<fs.length)(f:Fr)(c:f.page=fs[k].page)(d:f.bytes=fs[k].bytes):Tz fs (fs.set k f):=fun j h a=>by
 rcases Pu fs k f j a with⟨e,b⟩|⟨_,_,b⟩
 ·subst e;rw[b];exact⟨c,d⟩
 ·rw[b];exact⟨rfl,rfl⟩
theorem Tz.none_ {fs a:List Fr}(h:Tz fs a)(e:a.length=fs.length){p:Int}(d:∀ j (hj:j<fs.length),Full fs[j]→fs[j].page≠p):∀ j (hj:j<a.length),Full a[j]→a[j].page≠p:=fun j hj b=>by
 have c:=h j (by omega) hj;rw[c.1];refine d j (by omega) ?_;unfold Full at b ⊢;rw[← c.2];exact b
end Go.Proofs.YtmldoihahndcgaaGreatDoor
