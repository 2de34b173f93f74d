import Derived.Test.YtdfkambdagoojaaGreatDoorHd00
import Derived.Test.YtdfkambdagoojaaGreatDoorHd03
import Derived.Lib.AtoiAll
import Derived.Lib.ItoaMem
import Derived.Lib.ItoaLen
import Derived.Test.YtdfkambdagoojaaGreatDoorHd06
import Derived.Test.YtdfkambdagoojaaGreatDoorHd04
import Derived.Test.YtdfkambdagoojaaGreatDoorHd01
import Derived.Lib.SliceRun
import Derived.Deep.RegionLaw
import Derived.Deep.MidRow
import Derived.Test.YtdfkambdagoojaaGreatDoorHd02
set_option maxRecDepth 100000
set_option maxHeartbeats 16000000
set_option linter.unusedSimpArgs false
namespace Go.Proofs.YtdfkambdagoojaaGreatDoor
open Go.RowKit
theorem Xb (p:ByteArray)(i:Int)(r:ByteArray)(N:p.size≤140737488355328)(w:World):
 Cr 108 #[p,i,r] w (G7 (Iv p i r)):=by
 have j:=Hq (fun W=>Em p N W);have l:=Hq (fun W=>Ds p i N W);have v:=Hq (fun W=>P1 r W);change Hid (∀ W,Calls _ _ _ _ fun e w'=>e= .returned (.bool (G9 r))∧_)at v;have d:=Cl p;unfold Iv
 cases E:Bo p with
 |false=>
  rw[if_pos rfl];rw[E]at j;generalize Pg.Ay (Ac p).recs i=q at l;generalize (!decide (q.size=0))=b at l;generalize Ac p=x at j;clear d E v;go_enter Tryz.func108,Tryz.ntmps108
  go_wp2_with(first|(go_at_call 61;refine(j.out _).mono ?_;rintro e t ⟨z,A,c,rfl,f,g⟩)|(go_at_call 107;refine(l.out _).mono ?_;rintro e u ⟨rfl,a⟩))
  go_ret2;exact⟨rfl,andThen g (Bd a)⟩
 |true=>
  rw[E]at j;rw[if_neg (by simp)];clear E
  by_cases F:i<0
  ·rw[if_pos F]
   generalize Pg.Ay (Ac p).recs i=q at l;generalize (!decide (q.size=0))=b at l;generalize Ac p=x at j;clear d v;go_enter Tryz.func108,Tryz.ntmps108
   go_wp2_with(first|(go_at_call 61;refine(j.out _).mono ?_;rintro e t ⟨z,A,c,rfl,f,g⟩;obtain⟨h,m⟩:=f rfl;clear f;subst h)|(go_at_call 107;refine(l.out _).mono ?_;rintro e u ⟨rfl,a⟩;obtain⟨c0,c1,c2,c3,f0,f1,f2,f3⟩:=Dw (Cm a);have s:t.heap.size<u.heap.size:=(by have:=a.size;simp at this;omega)))
   go_ret2;exact⟨rfl,andThen g (Bd a)⟩
  ·rw[if_neg F]
   obtain⟨k,rfl⟩:=Int.eq_ofNat_of_zero_le (show 0≤i by omega);have P:(0:Int)≤(k:Int):=(by omega);clear F;rw[show((k:Int)).toNat=k from rfl]
   by_cases y:(Pg.Ay (Ac p).recs (k:Int)).size≠0
   ·rw[if_pos y]
    rw[decide_eq_false y]at l;clear y;generalize Pg.Ay (Ac p).recs (k:Int)=q at l;generalize Ac p=x at j;clear d v;go_enter Tryz.func108,Tryz.ntmps108
    go_wp2_with(first|(go_at_call 61;refine(j.out _).mono ?_;rintro e t ⟨z,A,c,rfl,f,g⟩;obtain⟨h,m⟩:=f rfl;clear f;subst h)|(go_at_call 107;refine(l.out _).mono ?_;rintro e u ⟨rfl,a⟩;obtain⟨c0,c1,c2,c3,f0,f1,f2,f3⟩:=Dw (Cm a);have s:t.heap.size<u.heap.size:=(by have:=a.size;simp at this;omega)))
    go_ret2;exact⟨rfl,andThen g (Bd a)⟩
   ·rw[if_neg y]
    rw[decide_eq_true (Decidable.not_not.1 y)]at l;clear y;generalize Pg.Ay (Ac p).recs (k:Int)=q at l
    cases h:G9 r with
    |false=>
     rw[if_pos rfl];rw[h]at v;generalize Ac p=x at j;clear d h;go_enter Tryz.func108,Tryz.ntmps108
     go_wp2_with(first|(go_at_call 61;refine(j.out _).mono ?_;rintro e t ⟨z,A,c,rfl,f,g⟩;obtain⟨h,m⟩:=f rfl;clear f;subst h)|(go_at_call 107;refine(l.out _).mono ?_;rintro e u ⟨rfl,a⟩;obtain⟨c0,c1,c2,c3,f0,f1,f2,f3⟩:=Dw (Cm a);have s:t.heap.size<u.heap.size:=(by have:=a.size;simp at this;omega))|(go_at_call 162;refine(v.out _).mono ?_;rintro e O ⟨rfl,rfl⟩))
     go_ret2;exact⟨rfl,andThen g (Bd a)⟩
    |true=>
     rw[if_neg (by simp)];rw[h]at v;obtain⟨Q,R⟩:=Eb h;clear h
     by_cases G:(512:Int)<(k:Int)
     ·rw[if_pos G]
      have B:=Hq (fun A c n W=>lM A c n (k:Int) r G W);generalize Ac p=x at j;clear d;go_enter Tryz.func108,Tryz.ntmps108
      go_wp2_with(first|(go_at_call 61;refine(j.out _).mono ?_;rintro e t ⟨z,A,c,rfl,f,g⟩;obtain⟨h,m⟩:=f rfl;clear f;subst h)|(go_at_call 107;refine(l.out _).mono ?_;rintro e u ⟨rfl,a⟩;obtain⟨c0,c1,c2,c3,f0,f1,f2,f3⟩:=Dw (Cm a);have s:t.heap.size<u.heap.size:=(by have:=a.size;simp at this;omega))|(go_at_call 162;refine(v.out _).mono ?_;rintro e O ⟨rfl,rfl⟩)|(go_at_call 163;refine(B.out _ _ _ _).mono ?_;rintro e S ⟨rfl,rfl⟩))
      go_ret2;exact⟨rfl,andThen g (Bd a)⟩
     ·rw[if_neg G]
      have H:=d.fine.len;have I:=d.fine.sum;have J:=Pg.Gk (Ac p).recs k r;have B:=Hq (fun A c W K=>O6 (Ac p).recs A c k r (by omega) (by omega) W K);have C:=Hq (fun A c W K=>Nn (A9 p (Pg.putAt (Ac p).recs k r)) A c (Ct p _) (by show Pg.Bb (Pg.putAt _ _ _)≤_;omega) (.inr ((Pg.Kh _).2 (Pg.No d.tight k (by omega)))) W K);generalize Pg.Ea (A9 p (Pg.putAt (Ac p).recs k r))=o at C ⊢;change Hid (∀ A c W,Cells W A c (Pg.putAt (Ac p).recs k r)→Calls _ _ #[.agg #[.int .i64 (Ac p).lsn,.int .i64 (Ac p).kind,.int .i64 (Ac p).link,.slice A (Pg.putAt (Ac p).recs k r).length c]] _ _)at C;clear J H I d;generalize Pg.putAt (Ac p).recs k r=rs at B C;generalize Ac p=x at j B C;go_enter Tryz.func108,Tryz.ntmps108
      go_wp2_with(first|(go_at_call 61;refine(j.out _).mono ?_;rintro e t ⟨z,A,c,rfl,f,g⟩;obtain⟨h,m⟩:=f rfl;clear f;subst h)|(go_at_call 107;refine(l.out _).mono ?_;rintro e u ⟨rfl,a⟩;obtain⟨c0,c1,c2,c3,f0,f1,f2,f3⟩:=Dw (Cm a);have s:t.heap.size<u.heap.size:=(by have:=a.size;simp at this;omega))|(go_at_call 162;refine(v.out _).mono ?_;rintro e O ⟨rfl,rfl⟩)|(go_at_call 163;refine(B.out _ _ _ (m.cells.below (Bd a))).mono ?_;rintro e S ⟨T,U,rfl,L,D⟩;obtain⟨d0,d1,d2,d3,g0,g1,g2,g3⟩:=Dw (Fk (Cm a) D))|(go_at_call 164;refine(C.out _ _ _ (Bi.set L _ s _).cells).mono ?_;rintro e V ⟨rfl,M⟩))
      go_ret2;exact⟨rfl,andThen ((andThen (andThen g (Bd a)) D).setCell g.size _) M⟩
theorem mL (p:ByteArray)(i:Int)(H:p.size≤140737488355328)(w:World):
 Cr 109 #[p,i] w (G7 (K8 p i)):=by
 have g:=Hq (fun W=>Em p H W);have h:=Hq (fun W=>Ds p i H W);have a:=Cl p;unfold K8
 cases s:Bo p with
 |false=>
  rw[if_pos rfl];rw[s]at g;generalize Ac p=x at g;clear a s h;go_enter Tryz.func109,Tryz.ntmps109
  go_wp2_with(first|(go_at_call 61;refine(g.out _).mono ?_;rintro e t ⟨I,A,c,rfl,d,f⟩))
  go_ret2;exact⟨rfl,An f⟩
 |true=>
  rw[s]at g;rw[if_neg (by simp)];clear s
  by_cases j:(Pg.Ay (Ac p).recs i).size=0
  ·rw[if_pos j]
   rw[decide_eq_true j]at h;generalize Pg.Ay (Ac p).recs i=q at h;generalize Ac p=x at g;clear a j;go_enter Tryz.func109,Tryz.ntmps109
   go_wp2_with(first|(go_at_call 61;refine(g.out _).mono ?_;rintro e t ⟨I,A,c,rfl,d,f⟩;obtain⟨u,l⟩:=d rfl;clear d;subst u)|(go_at_call 107;refine(h.out _).mono ?_;rintro e v ⟨rfl,b⟩;obtain⟨c0,c1,c2,c3,f0,f1,f2,f3⟩:=Dw (Cm b);have m:t.heap.size<v.heap.size:=(by have:=b.size;simp at this;omega)))
   go_ret2;exact⟨rfl,andThen f (Bd b)⟩
  ·rw[if_neg j]
   obtain⟨y,J⟩:=Pg.Gs j;rw[decide_eq_false j]at h;clear j;generalize Pg.Ay (Ac p).recs i=q at h;obtain⟨k,rfl⟩:=Int.eq_ofNat_of_zero_le y;rw[show((k:Int)).toNat=k from rfl];have K:(⟨#[]⟩:ByteArray).size=0:=rfl;have z:=a.fine.len;have B:=a.fine.sum;have C:=Pg.Gk (Ac p).recs k ⟨#[]⟩;have D:=Hq (fun A c W E=>O6 (Ac p).recs A c k ⟨#[]⟩ (by omega) (by omega) W E);have n:=Hq (fun A c W E=>Nn (A9 p (Pg.putAt (Ac p).recs k ⟨#[]⟩)) A c (Ct p _) (by show Pg.Bb (Pg.putAt _ _ _)≤_;omega) (.inl (Nat.le_trans (Pg.eW (by omega)) a.fits)) W E);generalize Pg.Ea (A9 p (Pg.putAt (Ac p).recs k ⟨#[]⟩))=o at n ⊢;change Hid (∀ A c W,Cells W A c (Pg.putAt (Ac p).recs k ⟨#[]⟩)→Calls _ _ #[.agg #[.int .i64 (Ac p).lsn,.int .i64 (Ac p).kind,.int .i64 (Ac p).link,.slice A (Pg.putAt (Ac p).recs k ⟨#[]⟩).length c]] _ _)at n;clear C z B a;generalize Pg.putAt (Ac p).recs k ⟨#[]⟩=rs at D n;generalize Ac p=x at g D n;go_enter Tryz.func109,Tryz.ntmps109
   go_wp2_with(first|(go_at_call 61;refine(g.out _).mono ?_;rintro e t ⟨I,A,c,rfl,d,f⟩;obtain⟨u,l⟩:=d rfl;clear d;subst u)|(go_at_call 107;refine(h.out _).mono ?_;rintro e v ⟨rfl,b⟩;obtain⟨c0,c1,c2,c3,f0,f1,f2,f3⟩:=Dw (Cm b);have m:t.heap.size<v.heap.size:=(by have:=b.size;simp at this;omega))|(go_at_call 163;refine(D.out _ _ _ (l.cells.below (Bd b))).mono ?_;rintro e L ⟨M,N,rfl,F,r⟩;obtain⟨d0,d1,d2,d3,g0,g1,g2,g3⟩:=Dw (Fk (Cm b) r))|(go_at_call 164;refine(n.out _ _ _ (Bi.set F _ m _).cells).mono ?_;rintro e O ⟨rfl,G⟩))
   go_ret2;exact⟨rfl,andThen ((andThen (andThen f (Bd b)) r).setCell f.size _) G⟩
theorem mM (p:ByteArray)(i:Int)(r:ByteArray)(K:p.size≤140737488355328)(w:World):
 Cr 110 #[p,i,r] w (G7 (Jy p i r)):=by
 have h:=Hq (fun W=>Em p K W);have j:=Hq (fun W=>Ds p i K W);have l:=Hq (fun W=>P1 r W);change Hid (∀ W,Calls _ _ _ _ fun e w'=>e= .returned (.bool (G9 r))∧_)at l;have a:=Cl p;unfold Jy
 cases y:Bo p with
 |false=>
  rw[if_pos rfl];rw[y]at h;generalize Ac p=x at h;clear a y j l;go_enter Tryz.func110,Tryz.ntmps110
  go_wp2_with(first|(go_at_call 61;refine(h.out _).mono ?_;rintro e s ⟨z,A,c,rfl,b,f⟩))
  go_ret2;exact⟨rfl,An f⟩
 |true=>
  rw[y]at h;rw[if_neg (by simp)];clear y
  cases g:G9 r with
  |false=>
   rw[if_pos rfl];rw[g]at l;generalize Ac p=x at h;clear a g j;go_enter Tryz.func110,Tryz.ntmps110
   go_wp2_with(first|(go_at_call 61;refine(h.out _).mono ?_;rintro e s ⟨z,A,c,rfl,b,f⟩;obtain⟨g,m⟩:=b rfl;clear b;subst g)|(go_at_call 162;refine(l.out _).mono ?_;rintro e L ⟨rfl,rfl⟩))
   go_ret2;exact⟨rfl,An f⟩
  |true=>
   rw[if_neg (by simp)];rw[g]at l;obtain⟨M,N⟩:=Eb g;clear g
   by_cases n:(Pg.Ay (Ac p).recs i).size=0
   ·rw[if_pos n]
    rw[decide_eq_true n]at j;generalize Pg.Ay (Ac p).recs i=q at j;generalize Ac p=x at h;clear a n;go_enter Tryz.func110,Tryz.ntmps110
    go_wp2_with(first|(go_at_call 61;refine(h.out _).mono ?_;rintro e s ⟨z,A,c,rfl,b,f⟩;obtain⟨g,m⟩:=b rfl;clear b;subst g)|(go_at_call 162;refine(l.out _).mono ?_;rintro e L ⟨rfl,rfl⟩)|(go_at_call 107;refine(j.out _).mono ?_;rintro e B ⟨rfl,d⟩;obtain⟨c0,c1,c2,c3,f0,f1,f2,f3⟩:=Dw (Cm d);have t:s.heap.size<B.heap.size:=(by have:=d.size;simp at this;omega)))
    go_ret2;exact⟨rfl,andThen f (Bd d)⟩
   ·rw[if_neg n]
    obtain⟨C,O⟩:=Pg.Gs n;rw[decide_eq_false n]at j;clear n;generalize Pg.Ay (Ac p).recs i=q at j;obtain⟨k,rfl⟩:=Int.eq_ofNat_of_zero_le C;rw[show((k:Int)).toNat=k from rfl];have D:=a.fine.len;have E:=a.fine.sum;have F:=Pg.Gk (Ac p).recs k r;have G:=Hq (fun A c W H=>O6 (Ac p).recs A c k r (by omega) (by omega) W H);have u:=Hq (fun A c W H=>Nn (A9 p (Pg.putAt (Ac p).recs k r)) A c (Ct p _) (by show Pg.Bb (Pg.putAt _ _ _)≤_;omega) (.inr ((Pg.Kh _).2 (Pg.No a.tight k (by omega)))) W H);generalize Pg.Ea (A9 p (Pg.putAt (Ac p).recs k r))=o at u ⊢;change Hid (∀ A c W,Cells W A c (Pg.putAt (Ac p).recs k r)→Calls _ _ #[.agg #[.int .i64 (Ac p).lsn,.int .i64 (Ac p).kind,.int .i64 (Ac p).link,.slice A (Pg.putAt (Ac p).recs k r).length c]] _ _)at u;clear F D E a;generalize Pg.putAt (Ac p).recs k r=rs at G u;generalize Ac p=x at h G u;go_enter Tryz.func110,Tryz.ntmps110
    go_wp2_with(first|(go_at_call 61;refine(h.out _).mono ?_;rintro e s ⟨z,A,c,rfl,b,f⟩;obtain⟨g,m⟩:=b rfl;clear b;subst g)|(go_at_call 162;refine(l.out _).mono ?_;rintro e L ⟨rfl,rfl⟩)|(go_at_call 107;refine(j.out _).mono ?_;rintro e B ⟨rfl,d⟩;obtain⟨c0,c1,c2,c3,f0,f1,f2,f3⟩:=Dw (Cm d);have t:s.heap.size<B.heap.size:=(by have:=d.size;simp at this;omega))|(go_at_call 163;refine(G.out _ _ _ (m.cells.below (Bd d))).mono ?_;rintro e P ⟨Q,R,rfl,I,v⟩;obtain⟨d0,d1,d2,d3,g0,g1,g2,g3⟩:=Dw (Fk (Cm d) v))|(go_at_call 164;refine(u.out _ _ _ (Bi.set I _ t _).cells).mono ?_;rintro e S ⟨rfl,J⟩))
    go_ret2;exact⟨rfl,andThen ((andThen (andThen f (Bd d)) v).setCell f.size _) J⟩
theorem Cells.jS {w w':World}{B b off c:Nat}{rs:List ByteArray}(h:Cells w (some ⟨b,off,none⟩) c rs)(d:b<B)(i:Below B w w'):Cells w' (some ⟨b,off,none⟩) c rs:=fun l=>by
 obtain⟨q,k,e,m,n,a⟩:=h l
 injection e with e
 injection e with f g
 subst f;subst g;refine⟨b,off,rfl,m,Nat.lt_of_lt_of_le n i.size,fun j o=>?_⟩;rw[i.cell (p:=⟨b,off+j,none⟩) d];exact a j o
theorem vB (p:ByteArray)(k:Nat)(r:ByteArray)(hm:p.size≤140737488355328)(Y:Bo p=true)(Z:k<(Ac p).recs.length)(F:G9 r=true)(w:World):
 Cr 176 #[p,.int .i64 (k:Int),r] w (G7 (Pg.Ea (A9 p ((Ac p).recs.take k++[r]++(Ac p).recs.drop k)))):=by
 have G:=Hq (fun W=>Ey p hm W);rw[Y]at G;have a:=Cl p;have H:=a.fine.len;have I:=a.fine.sum;have J:=Hq (fun W=>Tl r W);change Hid (∀ W,Calls _ _ _ _ fun e w'=>e= .returned (.bool (G9 r))∧_)at J;rw[F]at J;obtain⟨K,M⟩:=Eb F;have z:Pg.Bb ((Ac p).recs.take k++[r]++(Ac p).recs.drop k)≤1099511627776:=by
  have N:=Pg.Ws (Ac p).recs k r;have h2:=Pg.P4 (Ac p).recs k r;unfold Pg.G8 at N h2;rw[if_neg (by omega)]at N h2;unfold Pg.Bb;omega
 have B:=Hq (fun A c W l=>L5 (A9 p ((Ac p).recs.take k++[r]++(Ac p).recs.drop k)) A c (Ct p _) z W l);generalize Pg.Ea (A9 p ((Ac p).recs.take k++[r]++(Ac p).recs.drop k))=o at B ⊢;change Hid (∀ A c W,Cells W A c ((Ac p).recs.take k++[r]++(Ac p).recs.drop k)→Calls _ _ #[.agg #[.int .i64 (Ac p).lsn,.int .i64 (Ac p).kind,.int .i64 (Ac p).link,.slice A ((Ac p).recs.take k++[r]++(Ac p).recs.drop k).length c]] _ _)at B;clear z I a Y F K M;generalize Ac p=x at G B H Z;obtain⟨L,O⟩:=ex (x.recs.take k++[r]++x.recs.drop k);rw[← O]at B;have HL:=Hq O;clear O;have a7:(k:Int)≤512:=by omega
 have a8:(0:Int)≤(k:Int):=by omega
 have aa:(k:Int)<(x.recs.length:Int):=by omega
 have a1:decide (x.recs.length≤k)=false:=decide_eq_false (by omega);go_enter Tryz.func176,Tryz.ntmps176
 go_upto_region 8 with(first|(go_at_call 122;refine(G.out _).mono ?_;rintro e y ⟨A,c,rfl,m,n⟩)|(go_at_call 206;refine(J.out _).mono ?_;rintro e w3 ⟨rfl,rfl⟩))
 obtain⟨b,off,rfl,hc,ad,q⟩:=m.cells.at_ Z;clear q;have ae:k<c:=by omega
 have a6:(k:Int)≤(c:Int):=by omega
 obtain⟨W,l⟩:=ex (y.alloc (.cells #[x.lsn,x.kind,x.link,.slice (some ⟨b,off,none⟩) x.recs.length c] 147 (0,0)));have s:Bw y W:=by rw[l];exact(Below.refl _ _).alloc (Nat.le_refl _) _
 have t:W.heap[y.heap.size]? =some (.cells #[x.lsn,x.kind,x.link,.slice (some ⟨b,off,none⟩) x.recs.length c] 147 (0,0)):=by rw[l];exact heap_alloc_new y _
 have d:y.heap.size<W.heap.size:=by rw[l];simp
 rw[← l];clear l;obtain⟨c0,c1,c2,c3,f0,f1,f2,f3⟩:=Dw t;have P:=Hq t;have C:=Hq (m.cells.below s);clear m t;have D:b<W.heap.size:=by omega
 have u:=Hq (show(x.recs.take k).length=k by rw[List.length_take];omega);have Q:=Hq (show(x.recs.drop k).length=x.recs.length-k by rw[List.length_drop])
 go_wp2_with(first|(at_builtin;refine Du _ rfl (.const (.slice none 0 0)) _ rfl W.heap.size (.slice none 0 0) [] rfl (G6.nil _ _) _ k _ (x.recs.take k) u.out rfl (C.out.Wn k) (by simp;omega) (Nat.le_refl _) ?_;intro v2 w2 g R i;rw[List.nil_append]at g;clear R;obtain⟨d0,d1,d2,d3,g0,g1,g2,g3⟩:=Dw ((i.block _ d).trans P.out))|(at_builtin;refine Du _ rfl (.tmp 46) _ rfl W.heap.size v2 (x.recs.take k) rfl (g.below ((Below.refl _ _).alloc (Nat.le_refl _) _)) _ 1 _ [r] rfl rfl (cells_one w2 _) (by rw[u.out];omega) (by have N:=i.size;simp;omega) ?_;intro v4 w4 v S T;clear S;have f:=(i.trans (((Below.refl _ _).alloc i.size (.cells #[r] 9)).trans T));obtain⟨x0,x1,x2,x3,m0,m1,m2,m3⟩:=Dw ((f.block _ d).trans P.out))|(at_builtin;refine Du _ rfl (.tmp 50) _ rfl W.heap.size v4 (x.recs.take k++[r]) rfl v _ (x.recs.length-k) _ (x.recs.drop k) Q.out rfl ((C.out.jS D f).jK k) (by rw[List.length_append,u.out,List.length_singleton];omega) f.size ?_;intro v6 w6 h U V;clear U;have j:=f.trans V;rw[← HL.out]at h;obtain⟨A6,c6,rfl,E,-⟩:=h.form;obtain⟨z0,z1,z2,z3,k0,k1,k2,k3⟩:=Dw ((j.block _ d).trans P.out))|(go_at_call 207;refine(B.out _ _ _ (Bi.set E ⟨y.heap.size,3,none⟩ d _).cells).mono ?_;rintro e w7 ⟨rfl,X⟩))
 go_ret2;exact⟨rfl,andThen (Below.setCell (n.trans ((s.trans (j.mono s.size)).mono n.size)) n.size _) X⟩
theorem vC (p:ByteArray)(k:Nat)(hm:p.size≤140737488355328)(X:Bo p=true)(K:k<(Ac p).recs.length)(Y:¬ (Pg.Ay (Ac p).recs (k:Int)).size=0)(w:World):
 Cr 177 #[p,.int .i64 (k:Int)] w (G7 (Pg.Ea (A9 p (Pg.Fx (Ac p).recs k)))):=by
 have M:=Hq (fun W=>Ey p hm W);rw[X]at M;have h:=Cl p;have N:=h.fine.len;have O:=h.fine.sum;have G:Pg.Bb (Pg.Fx (Ac p).recs k)≤1099511627776:=Nat.le_trans (Pg.O9 K) (Nat.le_trans h.fits (by omega));have F:=Hq (fun A c W r=>L5 (A9 p (Pg.Fx (Ac p).recs k)) A c (Ct p _) G W r);generalize Pg.Ea (A9 p (Pg.Fx (Ac p).recs k))=o at F ⊢;change Hid (∀ A c W,Cells W A c (Pg.Fx (Ac p).recs k)→Calls _ _ #[.agg #[.int .i64 (Ac p).lsn,.int .i64 (Ac p).kind,.int .i64 (Ac p).link,.slice A (Pg.Fx (Ac p).recs k).length c]] _ _)at F;have P:=Hq (fun A c W r=>Rb (Ac p) A c (k:Int) W r);obtain⟨Q,R⟩:=P5 Y;generalize Pg.Ay (Ac p).recs (k:Int)=q at P Q R;clear G O h X Y;generalize Ac p=x at M F N K P;obtain⟨L,S⟩:=ex (Pg.Fx x.recs k);rw[← S]at F;have Z:=Hq S;clear S;have a7:(k:Int)≤512:=by omega
 have a8:(0:Int)≤(k:Int):=by omega
 have aa:(k:Int)<(x.recs.length:Int):=by omega
 have a1:decide (x.recs.length≤k)=false:=decide_eq_false (by omega);go_enter Tryz.func177,Tryz.ntmps177
 go_upto_region 6 with(first|(go_at_call 122;refine(M.out _).mono ?_;rintro e H ⟨A,c,rfl,s,l⟩)|(go_at_call 205;refine(P.out _ _ _ (s.cells.below ((Below.refl _ _).alloc (Nat.le_refl _) _))).mono ?_;rintro e T ⟨rfl,a⟩))
 obtain⟨b,off,rfl,hc,ad,u⟩:=s.cells.at_ K;clear u;have ae:k<c:=by omega
 have a6:(k:Int)≤(c:Int):=by omega
 obtain⟨W,r⟩:=ex T;have m:Bw H W:=by rw[r];exact Bd a
 have v:W.heap[H.heap.size]? =some (.cells #[x.lsn,x.kind,x.link,.slice (some ⟨b,off,none⟩) x.recs.length c] 147 (0,0)):=by rw[r];exact Cm a
 have g:H.heap.size<W.heap.size:=by rw[r];have:=a.size;simp at this;omega
 rw[← r];clear r a;obtain⟨c0,c1,c2,c3,f0,f1,f2,f3⟩:=Dw v;have J:=Hq v;have y:=Hq (s.cells.below m);clear s v;have I:b<W.heap.size:=by omega
 have t:=Hq (show(x.recs.take k).length=k by rw[List.length_take];omega);have z:=Hq (show(x.recs.drop (k+1)).length=x.recs.length-(k+1) by rw[List.length_drop]);have af:((k:Int)+1).toNat=k+1:=by omega
 have ag:(k:Int)+1≤(c:Int):=by omega
 have ah:(k:Int)+1≤(x.recs.length:Int):=by omega
 by_cases U:c=k+1
 ·subst U
  go_wp2_with(first|(at_builtin;refine Du _ rfl (.const (.slice none 0 0)) _ rfl W.heap.size (.slice none 0 0) [] rfl (G6.nil _ _) _ k _ (x.recs.take k) t.out rfl (y.out.Wn k) (by simp;omega) (Nat.le_refl _) ?_;intro v2 T d B a;rw[List.nil_append]at d;clear B;obtain⟨d0,d1,d2,d3,g0,g1,g2,g3⟩:=Dw ((a.block _ g).trans J.out))|(at_builtin;refine Du _ rfl (.tmp 25) _ rfl W.heap.size v2 (x.recs.take k) rfl d _ 0 _ (x.recs.drop (k+1)) (by rw[z.out];omega) rfl (Cells.Aak _ _ _ (by rw[z.out];omega)) (by rw[t.out];omega) a.size ?_;intro v6 V f C D;clear C;have i:=a.trans D;have j:G6 W.heap.size V v6 L:=(by rw[Z.out];exact f);clear f;obtain⟨A6,c6,rfl,n,-⟩:=j.form;obtain⟨z0,z1,z2,z3,k0,k1,k2,k3⟩:=Dw ((i.block _ g).trans J.out))|(go_at_call 207;refine(F.out _ _ _ (Bi.set n ⟨H.heap.size,3,none⟩ g _).cells).mono ?_;rintro e w7 ⟨rfl,E⟩))
  go_ret2;exact⟨rfl,andThen (Below.setCell (l.trans ((m.trans (i.mono m.size)).mono l.size)) l.size _) E⟩
 ·go_wp2_with(first|(at_builtin;refine Du _ rfl (.const (.slice none 0 0)) _ rfl W.heap.size (.slice none 0 0) [] rfl (G6.nil _ _) _ k _ (x.recs.take k) t.out rfl (y.out.Wn k) (by simp;omega) (Nat.le_refl _) ?_;intro v2 T d B a;rw[List.nil_append]at d;clear B;obtain⟨d0,d1,d2,d3,g0,g1,g2,g3⟩:=Dw ((a.block _ g).trans J.out))|(at_builtin;refine Du _ rfl (.tmp 25) _ rfl W.heap.size v2 (x.recs.take k) rfl d _ (x.recs.length-(k+1)) _ (x.recs.drop (k+1)) z.out rfl ((y.out.jS I a).jK (k+1)) (by rw[t.out];omega) a.size ?_;intro v6 V f C D;clear C;have i:=a.trans D;have j:G6 W.heap.size V v6 L:=(by rw[Z.out];exact f);clear f;obtain⟨A6,c6,rfl,n,-⟩:=j.form;obtain⟨z0,z1,z2,z3,k0,k1,k2,k3⟩:=Dw ((i.block _ g).trans J.out))|(go_at_call 207;refine(F.out _ _ _ (Bi.set n ⟨H.heap.size,3,none⟩ g _).cells).mono ?_;rintro e w7 ⟨rfl,E⟩))
  go_ret2;exact⟨rfl,andThen (Below.setCell (l.trans ((m.trans (i.mono m.size)).mono l.size)) l.size _) E⟩
def J3 (p:ByteArray)(i:Int)(r:ByteArray):ByteArray×Int:=
 if Bo p=false then(⟨#[]⟩,1)else if i<0 then(⟨#[]⟩,1)else if G9 r=false then(⟨#[]⟩,1)else if 512<i then(⟨#[]⟩,18)else Pg.Ea (A9 p (Pg.G8 (Ac p).recs i.toNat r))
def Lb (p:ByteArray)(i:Int):ByteArray×Int:=
 if Bo p=false then(⟨#[]⟩,1)else if(Pg.Ay (Ac p).recs i).size=0 then(⟨#[]⟩,21)else Pg.Ea (A9 p (Pg.Fx (Ac p).recs i.toNat))
theorem rI (p:ByteArray)(i:Int)(r:ByteArray)(I:p.size≤140737488355328)(w:World):
 Cr 176 #[p,i,r] w (G7 (J3 p i r)):=by
 have d:=Hq (fun W=>Ey p I W);have h:=Hq (fun W=>Tl r W);change Hid (∀ W,Calls _ _ _ _ fun e w'=>e= .returned (.bool (G9 r))∧_)at h;have a:=Cl p;unfold J3
 cases f:Bo p with
 |false=>
  rw[if_pos rfl];rw[f]at d;generalize Ac p=x at d;clear a f h;go_enter Tryz.func176,Tryz.ntmps176
  go_wp2_with(first|(go_at_call 122;refine(d.out _).mono ?_;rintro e m ⟨A,c,rfl,g,b⟩))
  go_ret2;exact⟨rfl,An b⟩
 |true=>
  rw[if_neg (by simp)]
  by_cases q:i<0
  ·rw[if_pos q]
   rw[f]at d;generalize Ac p=x at d;clear a f h;go_enter Tryz.func176,Tryz.ntmps176
   go_wp2_with(first|(go_at_call 122;refine(d.out _).mono ?_;rintro e m ⟨A,c,rfl,g,b⟩))
   go_ret2;exact⟨rfl,An b⟩
  ·rw[if_neg q]
   obtain⟨k,rfl⟩:=Int.eq_ofNat_of_zero_le (show 0≤i by omega);have L:(0:Int)≤(k:Int):=(by omega);clear q;rw[show((k:Int)).toNat=k from rfl]
   cases j:G9 r with
   |false=>
    rw[if_pos rfl];rw[j]at h;rw[f]at d;generalize Ac p=x at d;clear a f j;go_enter Tryz.func176,Tryz.ntmps176
    go_wp2_with(first|(go_at_call 122;refine(d.out _).mono ?_;rintro e m ⟨A,c,rfl,g,b⟩)|(go_at_call 206;refine(h.out _).mono ?_;rintro e J ⟨rfl,rfl⟩))
    go_ret2;exact⟨rfl,An b⟩
   |true=>
    rw[if_neg (by simp)]
    by_cases s:k<(Ac p).recs.length
    ·have l:=a.fine.len
     rw[if_neg (by omega)];unfold Pg.G8;rw[if_neg (by omega)];exact vB p k r I f s j w
    ·by_cases K:(512:Int)<(k:Int)
     ·rw[if_pos K]
      rw[f]at d;rw[j]at h;generalize Ac p=x at d;clear a f j s;go_enter Tryz.func176,Tryz.ntmps176
      go_wp2_with(first|(go_at_call 122;refine(d.out _).mono ?_;rintro e m ⟨A,c,rfl,g,b⟩)|(go_at_call 206;refine(h.out _).mono ?_;rintro e J ⟨rfl,rfl⟩))
      go_ret2;exact⟨rfl,An b⟩
     ·rw[if_neg K]
      rw[show Pg.G8 (Ac p).recs k r=Pg.putAt (Ac p).recs k r from if_pos (by omega)];obtain⟨t,u⟩:=Eb j;have l:=a.fine.len;have v:=a.fine.sum;have z:=Pg.Gk (Ac p).recs k r;have n:=Hq (fun A c W B=>P2 (Ac p) A c k r (by omega) (by omega) W B);have C:=Hq (fun A c W B=>L5 (A9 p (Pg.putAt (Ac p).recs k r)) A c (Ct p _) (by show Pg.Bb (Pg.putAt _ _ _)≤_;omega) W B);change Hid (∀ A c W,Cells W A c (Ac p).recs→Calls _ _ _ _ fun e w'=>∃ D E,e= .returned (Gi (A9 p (Pg.putAt (Ac p).recs k r)) D E)∧Bi _ w' D E (A9 p (Pg.putAt (Ac p).recs k r)).recs∧_)at n;rw[f]at d;rw[j]at h;clear z l v t u a f j;generalize A9 p (Pg.putAt (Ac p).recs k r)=y at n C ⊢;generalize Pg.Ea y=o at C ⊢;generalize Ac p=x at d n s;have M:(x.recs.length:Int)≤(k:Int):=(by omega);go_enter Tryz.func176,Tryz.ntmps176
      go_wp2_with(first|(go_at_call 122;refine(d.out _).mono ?_;rintro e m ⟨A,c,rfl,g,b⟩)|(go_at_call 206;refine(h.out _).mono ?_;rintro e J ⟨rfl,rfl⟩)|(go_at_call 208;refine(n.out _ _ _ (g.cells.below ((Below.refl _ _).alloc (Nat.le_refl _) _))).mono ?_;rintro e N ⟨D,E,rfl,F,G⟩)|(go_at_call 207;refine(C.out _ _ _ F.cells).mono ?_;rintro e O ⟨rfl,H⟩))
      go_ret2;exact⟨rfl,andThen (andThen (An b) G) H⟩
theorem rJ (p:ByteArray)(i:Int)(m:p.size≤140737488355328)(w:World):
 Cr 177 #[p,i] w (G7 (Lb p i)):=by
 have b:=Hq (fun W=>Ey p m W);have j:=Hq (fun A c W n=>Rb (Ac p) A c i W n);unfold Lb
 cases f:Bo p with
 |false=>
  rw[if_pos rfl];rw[f]at b;generalize Ac p=x at b;clear f j;go_enter Tryz.func177,Tryz.ntmps177
  go_wp2_with(first|(go_at_call 122;refine(b.out _).mono ?_;rintro e o ⟨A,c,rfl,g,a⟩))
  go_ret2;exact⟨rfl,An a⟩
 |true=>
  rw[if_neg (by simp)]
  by_cases d:(Pg.Ay (Ac p).recs i).size=0
  ·rw[if_pos d]
   rw[f]at b;clear f;rw[Oa d]at j;generalize Ac p=x at b j;clear d;go_enter Tryz.func177,Tryz.ntmps177
   go_wp2_with(first|(go_at_call 122;refine(b.out _).mono ?_;rintro e o ⟨A,c,rfl,g,a⟩)|(go_at_call 205;refine(j.out _ _ _ (g.cells.below ((Below.refl _ _).alloc (Nat.le_refl _) _))).mono ?_;rintro e r ⟨rfl,h⟩;obtain⟨c0,c1,c2,c3,f0,f1,f2,f3⟩:=Dw (Cm h)))
   go_ret2;exact⟨rfl,andThen a (Bd h)⟩
  ·rw[if_neg d]
   obtain⟨l,q⟩:=Pg.Gs d;obtain⟨k,rfl⟩:=Int.eq_ofNat_of_zero_le l;rw[show((k:Int)).toNat=k from rfl];exact vC p k m f (by omega) d w
theorem rK (p:ByteArray)(k:Nat)(r:ByteArray)(hm:p.size≤140737488355328)(hb:Bo p=true)(hk:k<(Ac p).recs.length)(G:G9 r=true)(w:World):
 Cr 111 #[p,.int .i64 (k:Int),r] w (G7 (Pg.Ea (A9 p ((Ac p).recs.take k++[r]++(Ac p).recs.drop k)))):=by
 have H:=Hq (fun W=>Em p hm W);rw[hb]at H;have a:=Cl p;have I:=a.fine.len;have J:=a.fine.sum;have K:=Hq (fun W=>P1 r W);change Hid (∀ W,Calls _ _ _ _ fun e w'=>e= .returned (.bool (G9 r))∧_)at K;rw[G]at K;obtain⟨M,N⟩:=Eb G;have B:Pg.Bb ((Ac p).recs.take k++[r]++(Ac p).recs.drop k)≤1099511627776:=by
  have O:=Pg.Ws (Ac p).recs k r;have h2:=Pg.P4 (Ac p).recs k r;unfold Pg.G8 at O h2;rw[if_neg (by omega)]at O h2;unfold Pg.Bb;omega
 have C:=Hq (fun A c W m=>Nn (A9 p ((Ac p).recs.take k++[r]++(Ac p).recs.drop k)) A c (Ct p _) B (.inr ((Pg.Kh _).2 (by have P:=Pg.aW a.tight k (r:=r) (by omega);unfold Pg.G8 at P;rw[if_neg (by omega)]at P;exact P))) W m);generalize Pg.Ea (A9 p ((Ac p).recs.take k++[r]++(Ac p).recs.drop k))=o at C ⊢;change Hid (∀ A c W,Cells W A c ((Ac p).recs.take k++[r]++(Ac p).recs.drop k)→Calls _ _ #[.agg #[.int .i64 (Ac p).lsn,.int .i64 (Ac p).kind,.int .i64 (Ac p).link,.slice A ((Ac p).recs.take k++[r]++(Ac p).recs.drop k).length c]] _ _)at C;clear B J a hb G M N;generalize Ac p=x at H C I hk;obtain⟨L,Q⟩:=ex (x.recs.take k++[r]++x.recs.drop k);rw[← Q]at C;have HL:=Hq Q;clear Q;have a7:(k:Int)≤512:=by omega
 have a8:(0:Int)≤(k:Int):=by omega
 have aa:(k:Int)<(x.recs.length:Int):=by omega
 have a1:decide (x.recs.length≤k)=false:=decide_eq_false (by omega);go_enter Tryz.func111,Tryz.ntmps111
 go_upto_region 7 with(first|(go_at_call 61;refine(H.out _).mono ?_;rintro e z ⟨d,A,c,rfl,hcl0,n⟩;obtain⟨hy,q⟩:=hcl0 rfl;clear hcl0;subst hy)|(go_at_call 162;refine(K.out _).mono ?_;rintro e w3 ⟨rfl,rfl⟩))
 obtain⟨b,off,rfl,hc,ad,s⟩:=q.cells.at_ hk;clear s;have ae:k<c:=by omega
 have a6:(k:Int)≤(c:Int):=by omega
 obtain⟨W,m⟩:=ex (z.alloc (.cells #[d.lsn,d.kind,d.link,.slice (some ⟨b,off,none⟩) d.recs.length c] 90 (0,0)));have t:Bw z W:=by rw[m];exact(Below.refl _ _).alloc (Nat.le_refl _) _
 have u:W.heap[z.heap.size]? =some (.cells #[d.lsn,d.kind,d.link,.slice (some ⟨b,off,none⟩) d.recs.length c] 90 (0,0)):=by rw[m];exact heap_alloc_new z _
 have f:z.heap.size<W.heap.size:=by rw[m];simp
 rw[← m];clear m;obtain⟨c0,c1,c2,c3,f0,f1,f2,f3⟩:=Dw u;have R:=Hq u;have D:=Hq (q.cells.below t);clear q u;have E:b<W.heap.size:=by omega
 have v:=Hq (show(d.recs.take k).length=k by rw[List.length_take];omega);have S:=Hq (show(d.recs.drop k).length=d.recs.length-k by rw[List.length_drop])
 go_wp2_with(first|(at_builtin;refine Du _ rfl (.tmp 38) _ rfl W.heap.size (.slice none 0 0) [] rfl (G6.nil _ _) _ k _ (d.recs.take k) v.out rfl (D.out.Wn k) (by simp;omega) (Nat.le_refl _) ?_;intro v2 w2 h T j;rw[List.nil_append]at h;clear T;obtain⟨d0,d1,d2,d3,g0,g1,g2,g3⟩:=Dw ((j.block _ f).trans R.out))|(at_builtin;refine Du _ rfl (.tmp 44) _ rfl W.heap.size v2 (d.recs.take k) rfl (h.below ((Below.refl _ _).alloc (Nat.le_refl _) _)) _ 1 _ [r] rfl rfl (cells_one w2 _) (by rw[v.out];omega) (by have O:=j.size;simp;omega) ?_;intro v4 w4 y U V;clear U;have g:=(j.trans (((Below.refl _ _).alloc j.size (.cells #[r] 9)).trans V));obtain⟨x0,x1,x2,x3,m0,m1,m2,m3⟩:=Dw ((g.block _ f).trans R.out))|(at_builtin;refine Du _ rfl (.tmp 48) _ rfl W.heap.size v4 (d.recs.take k++[r]) rfl y _ (d.recs.length-k) _ (d.recs.drop k) S.out rfl ((D.out.jS E g).jK k) (by rw[List.length_append,v.out,List.length_singleton];omega) g.size ?_;intro v6 w6 i X Y;clear X;have l:=g.trans Y;rw[← HL.out]at i;obtain⟨A6,c6,rfl,F,-⟩:=i.form;obtain⟨z0,z1,z2,z3,k0,k1,k2,k3⟩:=Dw ((l.block _ f).trans R.out))|(go_at_call 164;refine(C.out _ _ _ (Bi.set F ⟨z.heap.size,3,none⟩ f _).cells).mono ?_;rintro e w7 ⟨rfl,Z⟩))
 go_ret2;exact⟨rfl,andThen (Below.setCell (n.trans ((t.trans (l.mono t.size)).mono n.size)) n.size _) Z⟩
theorem rL (p:ByteArray)(k:Nat)(V:p.size≤140737488355328)(X:Bo p=true)(K:k<(Ac p).recs.length)(Y:¬ (Pg.Ay (Ac p).recs (k:Int)).size=0)(w:World):
 Cr 112 #[p,.int .i64 (k:Int)] w (G7 (Pg.Ea (A9 p (Pg.Fx (Ac p).recs k)))):=by
 have N:=Hq (fun W=>Em p V W);rw[X]at N;have d:=Cl p;have O:=d.fine.len;have P:=d.fine.sum;have H:Pg.Bb (Pg.Fx (Ac p).recs k)≤1099511627776:=Nat.le_trans (Pg.O9 K) (Nat.le_trans d.fits (by omega));have G:=Hq (fun A c W t=>Nn (A9 p (Pg.Fx (Ac p).recs k)) A c (Ct p _) H (.inl (Nat.le_trans (Pg.O9 K) d.fits)) W t);generalize Pg.Ea (A9 p (Pg.Fx (Ac p).recs k))=o at G ⊢;change Hid (∀ A c W,Cells W A c (Pg.Fx (Ac p).recs k)→Calls _ _ #[.agg #[.int .i64 (Ac p).lsn,.int .i64 (Ac p).kind,.int .i64 (Ac p).link,.slice A (Pg.Fx (Ac p).recs k).length c]] _ _)at G;have Q:=Hq (fun W=>Ds p (k:Int) V W);rw[decide_eq_false Y]at Q;generalize Pg.Ay (Ac p).recs (k:Int)=q at Q;clear H P d X Y;generalize Ac p=x at N G O K;obtain⟨L,R⟩:=ex (Pg.Fx x.recs k);rw[← R]at G;have Z:=Hq R;clear R;have a7:(k:Int)≤512:=by omega
 have a8:(0:Int)≤(k:Int):=by omega
 have aa:(k:Int)<(x.recs.length:Int):=by omega
 have a1:decide (x.recs.length≤k)=false:=decide_eq_false (by omega);go_enter Tryz.func112,Tryz.ntmps112
 go_upto_region 8 with(first|(go_at_call 61;refine(N.out _).mono ?_;rintro e I ⟨j,A,c,rfl,hcl0,m⟩;obtain⟨hy,u⟩:=hcl0 rfl;clear hcl0;subst hy)|(go_at_call 107;refine(Q.out _).mono ?_;rintro e S ⟨rfl,a⟩))
 obtain⟨b,off,rfl,hc,ad,v⟩:=u.cells.at_ K;clear v;have ae:k<c:=by omega
 have a6:(k:Int)≤(c:Int):=by omega
 obtain⟨W,t⟩:=ex S;have n:Bw I W:=by rw[t];exact Bd a
 have y:W.heap[I.heap.size]? =some (.cells #[j.lsn,j.kind,j.link,.slice (some ⟨b,off,none⟩) j.recs.length c] 90 (0,0)):=by rw[t];exact Cm a
 have h:I.heap.size<W.heap.size:=by rw[t];have:=a.size;simp at this;omega
 rw[← t];clear t a;obtain⟨c0,c1,c2,c3,f0,f1,f2,f3⟩:=Dw y;have M:=Hq y;have z:=Hq (u.cells.below n);clear u y;have J:b<W.heap.size:=by omega
 have s:=Hq (show(j.recs.take k).length=k by rw[List.length_take];omega);have B:=Hq (show(j.recs.drop (k+1)).length=j.recs.length-(k+1) by rw[List.length_drop]);have af:((k:Int)+1).toNat=k+1:=by omega
 have ag:(k:Int)+1≤(c:Int):=by omega
 have ah:(k:Int)+1≤(j.recs.length:Int):=by omega
 by_cases T:c=k+1
 ·subst T
  go_wp2_with(first|(at_builtin;refine Du _ rfl (.tmp 26) _ rfl W.heap.size (.slice none 0 0) [] rfl (G6.nil _ _) _ k _ (j.recs.take k) s.out rfl (z.out.Wn k) (by simp;omega) (Nat.le_refl _) ?_;intro v2 S f C a;rw[List.nil_append]at f;clear C;obtain⟨d0,d1,d2,d3,g0,g1,g2,g3⟩:=Dw ((a.block _ h).trans M.out))|(at_builtin;refine Du _ rfl (.tmp 32) _ rfl W.heap.size v2 (j.recs.take k) rfl f _ 0 _ (j.recs.drop (k+1)) (by rw[B.out];omega) rfl (Cells.Aak _ _ _ (by rw[B.out];omega)) (by rw[s.out];omega) a.size ?_;intro v6 U g D E;clear D;have i:=a.trans E;have l:G6 W.heap.size U v6 L:=(by rw[Z.out];exact g);clear g;obtain⟨A6,c6,rfl,r,-⟩:=l.form;obtain⟨z0,z1,z2,z3,k0,k1,k2,k3⟩:=Dw ((i.block _ h).trans M.out))|(go_at_call 164;refine(G.out _ _ _ (Bi.set r ⟨I.heap.size,3,none⟩ h _).cells).mono ?_;rintro e w7 ⟨rfl,F⟩))
  go_ret2;exact⟨rfl,andThen (Below.setCell (m.trans ((n.trans (i.mono n.size)).mono m.size)) m.size _) F⟩
 ·go_wp2_with(first|(at_builtin;refine Du _ rfl (.tmp 26) _ rfl W.heap.size (.slice none 0 0) [] rfl (G6.nil _ _) _ k _ (j.recs.take k) s.out rfl (z.out.Wn k) (by simp;omega) (Nat.le_refl _) ?_;intro v2 S f C a;rw[List.nil_append]at f;clear C;obtain⟨d0,d1,d2,d3,g0,g1,g2,g3⟩:=Dw ((a.block _ h).trans M.out))|(at_builtin;refine Du _ rfl (.tmp 32) _ rfl W.heap.size v2 (j.recs.take k) rfl f _ (j.recs.length-(k+1)) _ (j.recs.drop (k+1)) B.out rfl ((z.out.jS J a).jK (k+1)) (by rw[s.out];omega) a.size ?_;intro v6 U g D E;clear D;have i:=a.trans E;have l:G6 W.heap.size U v6 L:=(by rw[Z.out];exact g);clear g;obtain⟨A6,c6,rfl,r,-⟩:=l.form;obtain⟨z0,z1,z2,z3,k0,k1,k2,k3⟩:=Dw ((i.block _ h).trans M.out))|(go_at_call 164;refine(G.out _ _ _ (Bi.set r ⟨I.heap.size,3,none⟩ h _).cells).mono ?_;rintro e w7 ⟨rfl,F⟩))
  go_ret2;exact⟨rfl,andThen (Below.setCell (m.trans ((n.trans (i.mono n.size)).mono m.size)) m.size _) F⟩
theorem mN (p:ByteArray)(i:Int)(r:ByteArray)(s:p.size≤140737488355328)(w:World):
 Cr 111 #[p,i,r] w (G7 (J3 p i r)):=by
 have f:=Hq (fun W=>Em p s W);have n:=Hq (fun W=>P1 r W);change Hid (∀ W,Calls _ _ _ _ fun e w'=>e= .returned (.bool (G9 r))∧_)at n;have a:=Cl p;unfold J3
 cases l:Bo p with
 |false=>
  rw[if_pos rfl];rw[l]at f;generalize Ac p=x at f;clear a l n;go_enter Tryz.func111,Tryz.ntmps111
  go_wp2_with(first|(go_at_call 61;refine(f.out _).mono ?_;rintro e t ⟨u,A,c,rfl,b,d⟩))
  go_ret2;exact⟨rfl,An d⟩
 |true=>
  rw[if_neg (by simp)]
  by_cases v:i<0
  ·rw[if_pos v]
   rw[l]at f;generalize Ac p=x at f;clear a l n;go_enter Tryz.func111,Tryz.ntmps111
   go_wp2_with(first|(go_at_call 61;refine(f.out _).mono ?_;rintro e t ⟨u,A,c,rfl,b,d⟩;obtain⟨g,q⟩:=b rfl;clear b;subst g))
   go_ret2;exact⟨rfl,An d⟩
  ·rw[if_neg v]
   obtain⟨k,rfl⟩:=Int.eq_ofNat_of_zero_le (show 0≤i by omega);have C:(0:Int)≤(k:Int):=(by omega);clear v;rw[show((k:Int)).toNat=k from rfl]
   cases g:G9 r with
   |false=>
    rw[if_pos rfl];rw[g]at n;rw[l]at f;generalize Ac p=x at f;clear a l g;go_enter Tryz.func111,Tryz.ntmps111
    go_wp2_with(first|(go_at_call 61;refine(f.out _).mono ?_;rintro e t ⟨u,A,c,rfl,b,d⟩;obtain⟨g,q⟩:=b rfl;clear b;subst g)|(go_at_call 162;refine(n.out _).mono ?_;rintro e D ⟨rfl,rfl⟩))
    go_ret2;exact⟨rfl,An d⟩
   |true=>
    rw[if_neg (by simp)]
    by_cases z:k<(Ac p).recs.length
    ·have E:=a.fine.len
     rw[if_neg (by omega)];unfold Pg.G8;rw[if_neg (by omega)];exact rK p k r s l z g w
    ·have j:Pg.Ay (Ac p).recs (k:Int)=⟨#[]⟩:=Pg.Li (by omega)
     have m:Pg.G8 (Ac p).recs k r=Pg.putAt (Ac p).recs k r:=if_pos (by omega);have B:=Hq (fun W=>Xb p (k:Int) r s W);have hO:Iv p (k:Int) r=(if(512:Int)<(k:Int)then(⟨#[]⟩,18)else Pg.Ea (A9 p (Pg.G8 (Ac p).recs k r))):=by
      unfold Iv;rw[if_neg (by rw[l];simp),if_neg (by omega),if_neg (by rw[j];exact fun h=>h rfl),if_neg (by rw[g];simp),m];rfl
     rw[← hO];generalize Iv p (k:Int) r=o at B ⊢;rw[l]at f;rw[g]at n;generalize Ac p=x at f z;have F:(x.recs.length:Int)≤(k:Int):=(by omega);clear a l g j m hO;go_enter Tryz.func111,Tryz.ntmps111
     go_wp2_with(first|(go_at_call 61;refine(f.out _).mono ?_;rintro e t ⟨u,A,c,rfl,b,d⟩;obtain⟨g,q⟩:=b rfl;clear b;subst g)|(go_at_call 162;refine(n.out _).mono ?_;rintro e D ⟨rfl,rfl⟩)|(go_at_call 108;refine(B.out _).mono ?_;rintro e G ⟨rfl,y⟩))
     go_ret2;exact⟨rfl,andThen (An d) y⟩
theorem mO (p:ByteArray)(i:Int)(l:p.size≤140737488355328)(w:World):
 Cr 112 #[p,i] w (G7 (Lb p i)):=by
 have d:=Hq (fun W=>Em p l W);have j:=Hq (fun W=>Ds p i l W);unfold Lb
 cases g:Bo p with
 |false=>
  rw[if_pos rfl];rw[g]at d;generalize Ac p=x at d;clear g j;go_enter Tryz.func112,Tryz.ntmps112
  go_wp2_with(first|(go_at_call 61;refine(d.out _).mono ?_;rintro e n ⟨o,A,c,rfl,a,b⟩))
  go_ret2;exact⟨rfl,An b⟩
 |true=>
  rw[if_neg (by simp)]
  by_cases f:(Pg.Ay (Ac p).recs i).size=0
  ·rw[if_pos f]
   rw[g]at d;clear g;rw[decide_eq_true f]at j;generalize Pg.Ay (Ac p).recs i=q at j;generalize Ac p=x at d;clear f;go_enter Tryz.func112,Tryz.ntmps112
   go_wp2_with(first|(go_at_call 61;refine(d.out _).mono ?_;rintro e n ⟨o,A,c,rfl,a,b⟩;obtain⟨r,s⟩:=a rfl;clear a;subst r)|(go_at_call 107;refine(j.out _).mono ?_;rintro e u ⟨rfl,h⟩;obtain⟨c0,c1,c2,c3,f0,f1,f2,f3⟩:=Dw (Cm h)))
   go_ret2;exact⟨rfl,andThen b (Bd h)⟩
  ·rw[if_neg f]
   obtain⟨m,t⟩:=Pg.Gs f;obtain⟨k,rfl⟩:=Int.eq_ofNat_of_zero_le m;rw[show((k:Int)).toNat=k from rfl];exact rL p k l g (by omega) f w
theorem rM {p q:ByteArray}(h:p.data.toList=q.data.toList):p=q:=ByteArray.ext (Array.toList_inj.1 h)
theorem jT {p:ByteArray}{x:Pg.Dg}(h:Pg.right p.data.toList=some x):Bo p=true∧Ac p=x:=by
 unfold Bo Ac Pg.Ls;rw[h];exact⟨rfl,rfl⟩
theorem Ow {p:ByteArray}(h:Bo p=true):Pg.right p.data.toList=some (Ac p):=by
 unfold Bo at h;unfold Ac Pg.Ls
 cases a:Pg.right p.data.toList with
 |none=>rw[a]at h;cases h
 |some x=>rfl
theorem Ke (p:ByteArray):p.data.toList.length=p.size:=by simp
def Hd (x:Pg.Dg):ByteArray:=⟨(Pg.Dh x).toArray⟩
theorem U3 (x:Pg.Dg):(Hd x).data.toList=Pg.Dh x:=rfl
theorem U4 {x:Pg.Dg}(a:Pg.Bb (Pg.trim x.recs)≤512):(Hd x).size=512:=by
 rw[← Ke,U3];exact Pg.Nl a
theorem Qe {x:Pg.Dg}(a:Pg.Small x)(b:Pg.Bb (Pg.trim x.recs)≤512)(c:∀ r∈x.recs,r.size≤400):Bo (Hd x)=true∧Ac (Hd x)={x with recs:=Pg.trim x.recs}:=
 jT (by rw[U3];exact Pg.eP a b c)
theorem cH {x:Pg.Dg}(a:Pg.Bb (Pg.trim x.recs)≤512):Pg.Ea x=(Hd x,0):=Pg.Re a
theorem Sm (x:Pg.Dg):(Pg.Bb (Pg.trim x.recs)≤512∧Pg.Ea x=(Hd x,0))∨(512<Pg.Bb (Pg.trim x.recs)∧Pg.Ea x=(⟨#[]⟩,18)):=by
 rcases Nat.lt_or_ge 512 (Pg.Bb (Pg.trim x.recs))with h|h
 ·exact .inr ⟨h,Pg.aV h⟩
 ·exact .inl ⟨h,Pg.Re h⟩
theorem Aao (n:Nat):(Oct.Bj (n:Int) 4).data.toList=Oct.Bp (Oct.word n) 4:=Oct.Ch _ 4 (by omega)
theorem U5 (t:ByteArray):(Se t).data.toList=Oct.Bp (Oct.word (Oct.Fg t.data.toList)) 4++t.data.toList:=by
 unfold Se;rw[ByteArray.data_append,Array.toList_append,Aao]
theorem Nv (p:ByteArray)(h:p.size=512):(p.extract 4 512).data.toList=p.data.toList.drop 4:=by
 rw[show 512=4+508 from rfl,extract_eq]
 show(p.data.toList.drop 4).take 508=_
 exact List.take_of_length_le (by rw[List.length_drop,Ke];omega)
theorem Ig {p:ByteArray}(h:Bo p=true):Bo (E5 p)=true∧Ac (E5 p)=Ac p∧Jx (E5 p)=true∧(E5 p).size=512:=by
 have e:=Hl h;have a:(E5 p).data.toList=Oct.Bp (Oct.word (Oct.Fg (p.data.toList.drop 4))) 4++p.data.toList.drop 4:=by
  unfold E5;rw[if_pos h,U5,Nv p e]
 have b:(E5 p).size=512:=by
  rw[← Ke,a,List.length_append,Oct.A0,List.length_drop,Ke];omega
 have c:(E5 p).data.toList.drop 4=p.data.toList.drop 4:=by rw[a];exact List.drop_left' (Oct.A0 _ 4)
 have f:=Pg.lF (q:=(E5 p).data.toList) (Ow h) (by rw[Ke];exact b) c;obtain⟨d,g⟩:=jT f;refine⟨d,g,?_,b⟩;unfold Jx;rw[d,Bool.true_and]
 apply decide_eq_true
 apply rM
 rw[U5,Nv _ b,c];exact a.symm
end Go.Proofs.YtdfkambdagoojaaGreatDoor
namespace Pg
def D8 (rs:List ByteArray)(j:Nat):ByteArray:=(rs[j]?).getD ⟨#[]⟩
theorem L9 {rs:List ByteArray}{j:Nat}(h:rs.length≤j):D8 rs j=⟨#[]⟩:=by
 unfold D8;rw[List.getElem?_eq_none h];rfl
theorem fX {rs:List ByteArray}{j:Nat}(h:j<rs.length):D8 rs j=rs[j]:=by
 unfold D8;rw[List.getElem?_eq_getElem h];rfl
theorem D0 (rs:List ByteArray)(k:Nat):Ay rs (k:Int)=D8 rs k:=by
 unfold Ay D8;rw[if_neg (by omega)];rfl
theorem nil_of_size {r:ByteArray}(h:r.size=0):r=⟨#[]⟩:=by
 apply ByteArray.ext
 exact Array.eq_empty_of_size_eq_zero h
theorem fY (rs:List ByteArray):∀ m j,Ev rs m≤j→j<m→(D8 rs j).size=0:=by
 intro m
 induction m with
 |zero=>intro j _ h;omega
 |succ m ih=>
  intro j a d;unfold Ev at a
  split at a
  ·rename_i b
   by_cases c:j=m
   ·rw[c];exact b
   ·exact ih j a (by omega)
  ·omega
theorem Qf (rs:List ByteArray)(j:Nat):D8 (trim rs) j=D8 rs j:=by
 have a:=Pv rs rs.length
 by_cases h:j<Ev rs rs.length
 ·unfold D8 trim
  rw[List.getElem?_take_of_lt h]
 ·have b:D8 (trim rs) j=⟨#[]⟩:=L9 (by unfold trim;rw[List.length_take];omega)
  rw[b]
  by_cases c:j<rs.length
  ·exact(nil_of_size (fY rs rs.length j (by omega) c)).symm
  ·exact(L9 (by omega)).symm
theorem mP {rs c:List ByteArray}(l:Jg rs)(m:Jg c)(h:∀ j,D8 rs j=D8 c j):rs=c:=by
 have key:∀ {a b:List ByteArray},Jg a→(∀ j,D8 a j=D8 b j)→a.length≤b.length:=by
  intro a b n d;rcases Ui n with k|k
  ·omega
  ·rcases Nat.lt_or_ge b.length a.length with o|e
   ·exfalso
    apply k
    have f:=d (a.length-1);have p:D8 b (a.length-1)=⟨#[]⟩:=L9 (by omega);rw[p]at f;unfold D8 at f;rw[f];rfl
   ·exact e
 have q:rs.length=c.length:=Nat.le_antisymm (key l h) (key m fun j=>(h j).symm)
 apply List.ext_getElem q
 intro j g i;have:=h j
 rwa[fX g,fX i]at this
theorem cI {rs a:List ByteArray}(h:∀ j,D8 rs j=D8 a j):trim rs=trim a:=
 mP (Q7 rs) (Q7 a) fun j=>by rw[Qf,Qf,h]
theorem Fa (rs:List ByteArray)(k:Nat)(r:ByteArray)(j:Nat):D8 (putAt rs k r) j=if j=k then r else D8 rs j:=Wq rs k r j
theorem Ma (rs:List ByteArray)(k:Nat)(r:ByteArray)(j:Nat):D8 (G8 rs k r) j=if j<k then D8 rs j else if j=k then r else D8 rs (j-1):=by
 unfold G8
 split
 ·rename_i h
  rw[Fa]
  by_cases a:j=k
  ·rw[if_pos a,if_neg (by omega),if_pos a]
  ·rw[if_neg a]
   by_cases b:j<k
   ·rw[if_pos b]
   ·rw[if_neg b,if_neg a,L9 (by omega),L9 (by omega)]
 ·rename_i h
  unfold D8;rw[List.append_assoc,List.getElem?_append];have c:(rs.take k).length=k:=by rw[List.length_take];omega
  rw[c]
  by_cases b:j<k
  ·rw[if_pos b,if_pos b,List.getElem?_take_of_lt b]
  ·rw[if_neg b,if_neg b,List.singleton_append]
   by_cases a:j=k
   ·rw[if_pos a,a,Nat.sub_self];rfl
   ·rw[if_neg a]
    obtain⟨m,rfl⟩:∃ m,j=k+1+m:=⟨j-(k+1),by omega⟩;rw[show k+1+m-k=m+1 by omega,List.getElem?_cons_succ,List.getElem?_drop,show k+1+m-1=k+m by omega]
theorem Rs (rs:List ByteArray)(k:Nat)(h:k<rs.length)(j:Nat):D8 (Fx rs k) j=if j<k then D8 rs j else D8 rs (j+1):=by
 unfold Fx D8;rw[List.getElem?_append];have b:(rs.take k).length=k:=by rw[List.length_take];omega
 rw[b]
 by_cases a:j<k
 ·rw[if_pos a,if_pos a,List.getElem?_take_of_lt a]
 ·rw[if_neg a,if_neg a,List.getElem?_drop,show k+1+(j-k)=j+1 by omega]
end Pg
namespace Go.Proofs.YtdfkambdagoojaaGreatDoor
open Go.RowKit
structure Made (p q:ByteArray) (rs:List ByteArray):Prop where
 Bo:Bo q=true
 size:q.size=512
 lsn:(Ac q).lsn=(Ac p).lsn
 kind:(Ac q).kind=(Ac p).kind
 link:(Ac q).link=(Ac p).link
 D8:∀ j,Pg.D8 (Ac q).recs j=Pg.D8 rs j
theorem Kf {p q:ByteArray}{rs:List ByteArray}{e:Int}(g:∀ r∈rs,r.size≤400)(h:Pg.Ea (A9 p rs)=(q,e))(i:e=0):Made p q rs∧q=Hd (A9 p rs):=by
 rcases Sm (A9 p rs)with⟨b,c⟩|⟨b,c⟩
 ·rw[c]at h
  injection h with d _
  obtain⟨f,a⟩:=Qe (Ct p rs) b g;rw[d]at f a;refine⟨⟨f,by rw[← d];exact U4 b,by rw[a];rfl,by rw[a];rfl,by rw[a];rfl,fun j=>?_⟩,d.symm⟩;rw[a];exact Pg.Qf rs j
 ·rw[c]at h
  injection h with _ k
  omega
theorem U6 {p:ByteArray}(h:Bo p=true):Cj p ((Ac p).lsn:Nat)=Hd (Ac p):=by
 have a:=(Cl p).fine.small.1;unfold Cj;rw[if_neg (by rw[h];simp;omega)]
 rfl
theorem Mb {p q:ByteArray}{rs:List ByteArray}(c:Bo p=true)(d:(Ac q).lsn=(Ac p).lsn)(f:(Ac q).kind=(Ac p).kind)(g:(Ac q).link=(Ac p).link)(h:∀ j,Pg.D8 rs j=Pg.D8 (Ac p).recs j):
 Pg.Ea (A9 q rs)=(Cj p ((Ac p).lsn:Nat),0):=by
 have a:=Cl p;have b:Pg.trim rs=(Ac p).recs:=by rw[Pg.cI h];exact Pg.Ga a.tight
 have i:Pg.Bb (Pg.trim (A9 q rs).recs)≤512:=by show Pg.Bb (Pg.trim rs)≤512;rw[b];exact a.fits
 rw[U6 c,cH i];have e:Pg.Dh (A9 q rs)=Pg.Dh (Ac p):=by
  unfold Pg.Dh;have k:(A9 q rs).recs=rs:=rfl;rw[k,b,Pg.Ga a.tight];unfold Pg.Nh Pg.M4;rw[show(A9 q rs).lsn=(Ac p).lsn from d,show(A9 q rs).kind=(Ac p).kind from f,show(A9 q rs).link=(Ac p).link from g]
 unfold Hd;rw[e]
theorem Gy {a b:ByteArray}{x y:Int}(h:(a,x)=(b,y)):a=b∧x=y:=by injection h with c d;exact⟨c,d⟩
theorem Gl {b:Bool}(h:¬ b=false):b=true:=by cases b;exact absurd rfl h;rfl
theorem Fq (p:ByteArray):∀ r∈(Ac p).recs,r.size≤400:=(Cl p).fine.each
theorem Yy {p q r:ByteArray}{i:Int}(h:Iv p i r=(q,0)):∃ k:Nat,i=k∧Bo p=true∧(Pg.D8 (Ac p).recs k).size=0∧G9 r=true∧k≤512∧Made p q (Pg.putAt (Ac p).recs k r):=by
 unfold Iv at h
 split at h
 ·have:=(Gy h).2;omega
 ·rename_i b
  split at h
  ·have:=(Gy h).2;omega
  ·rename_i e
   obtain⟨k,rfl⟩:=Int.eq_ofNat_of_zero_le (show 0≤i by omega);rw[Pg.D0]at h
   split at h
   ·have:=(Gy h).2;omega
   ·rename_i c
    split at h
    ·have:=(Gy h).2;omega
    ·rename_i d
     split at h
     ·have:=(Gy h).2;omega
     ·rename_i f
      have a:G9 r=true:=(by simpa using d);refine⟨k,rfl,Gl b,by simpa using c,a,by omega,(Kf (Pg.Iu (Fq p) (Eb a).2) h rfl).1⟩
theorem Yz {p q:ByteArray}{i:Int}(h:K8 p i=(q,0)):∃ k:Nat,i=k∧Bo p=true∧(Pg.D8 (Ac p).recs k).size≠0∧k<(Ac p).recs.length∧Made p q (Pg.putAt (Ac p).recs k ⟨#[]⟩):=by
 unfold K8 at h
 split at h
 ·have:=(Gy h).2;omega
 ·rename_i b
  split at h
  ·have:=(Gy h).2;omega
  ·rename_i a
   obtain⟨c,d⟩:=Pg.Gs a;obtain⟨k,rfl⟩:=Int.eq_ofNat_of_zero_le c;rw[Pg.D0]at a;exact⟨k,rfl,Gl b,a,by omega,(Kf (Pg.Iu (Fq p) (by show(0:Nat)≤400;omega)) h rfl).1⟩
theorem Y0 {p q r:ByteArray}{i:Int}(h:Jy p i r=(q,0)):∃ k:Nat,i=k∧Bo p=true∧G9 r=true∧(Pg.D8 (Ac p).recs k).size≠0∧k<(Ac p).recs.length∧Made p q (Pg.putAt (Ac p).recs k r):=by
 unfold Jy at h
 split at h
 ·have:=(Gy h).2;omega
 ·rename_i c
  split at h
  ·have:=(Gy h).2;omega
  ·rename_i d
   split at h
   ·have:=(Gy h).2;omega
   ·rename_i a
    have b:G9 r=true:=(by simpa using d);obtain⟨e,f⟩:=Pg.Gs a;obtain⟨k,rfl⟩:=Int.eq_ofNat_of_zero_le e;rw[Pg.D0]at a;exact⟨k,rfl,Gl c,b,a,by omega,(Kf (Pg.Iu (Fq p) (Eb b).2) h rfl).1⟩
theorem Y1 {p q r:ByteArray}{i:Int}(h:J3 p i r=(q,0)):∃ k:Nat,i=k∧Bo p=true∧G9 r=true∧k≤512∧Made p q (Pg.G8 (Ac p).recs k r):=by
 unfold J3 at h
 split at h
 ·have:=(Gy h).2;omega
 ·rename_i b
  split at h
  ·have:=(Gy h).2;omega
  ·rename_i d
   obtain⟨k,rfl⟩:=Int.eq_ofNat_of_zero_le (show 0≤i by omega)
   split at h
   ·have:=(Gy h).2;omega
   ·rename_i c
    split at h
    ·have:=(Gy h).2;omega
    ·have a:G9 r=true:=by simpa using c
     exact⟨k,rfl,Gl b,a,by omega,(Kf (Pg.Wt (Fq p) (Eb a).2) h rfl).1⟩
theorem Y2 {p q:ByteArray}{i:Int}(h:Lb p i=(q,0)):∃ k:Nat,i=k∧Bo p=true∧(Pg.D8 (Ac p).recs k).size≠0∧k<(Ac p).recs.length∧Made p q (Pg.Fx (Ac p).recs k):=by
 unfold Lb at h
 split at h
 ·have:=(Gy h).2;omega
 ·rename_i b
  split at h
  ·have:=(Gy h).2;omega
  ·rename_i a
   obtain⟨c,d⟩:=Pg.Gs a;obtain⟨k,rfl⟩:=Int.eq_ofNat_of_zero_le c;rw[Pg.D0]at a;exact⟨k,rfl,Gl b,a,by omega,(Kf (Pg.Wu (Fq p)) h rfl).1⟩
theorem rN {rs:List ByteArray}{k:Nat}(h:(Pg.D8 rs k).size≠0):k<rs.length:=by
 rcases Nat.lt_or_ge k rs.length with a|a
 ·exact a
 ·rw[Pg.L9 a]at h;exact absurd rfl h
theorem Y4 {p:ByteArray}{k:Nat}(h:(Pg.D8 (Ac p).recs k).size≠0):G9 (Pg.D8 (Ac p).recs k)=true:=by
 unfold G9
 apply decide_eq_true
 have a:=rN h;refine⟨by omega,?_⟩;rw[Pg.fX a];exact Fq p _ (List.getElem_mem a)
theorem jU {p r:ByteArray}{k:Nat}(a:Bo p=true)(c:(Pg.D8 (Ac p).recs k).size=0)(b:G9 r=true)(d:k≤512):Iv p k r=Pg.Ea (A9 p (Pg.putAt (Ac p).recs k r)):=by
 unfold Iv;rw[if_neg (by rw[a];simp),if_neg (by omega),if_neg (by rw[Pg.D0];omega),if_neg (by rw[b];simp),if_neg (by omega)];rfl
theorem jV {p:ByteArray}{k:Nat}(a:Bo p=true)(b:(Pg.D8 (Ac p).recs k).size≠0):K8 p k=Pg.Ea (A9 p (Pg.putAt (Ac p).recs k ⟨#[]⟩)):=by
 unfold K8;rw[if_neg (by rw[a];simp),if_neg (by rw[Pg.D0];exact b)];rfl
theorem jW {p r:ByteArray}{k:Nat}(a:Bo p=true)(b:G9 r=true)(c:(Pg.D8 (Ac p).recs k).size≠0):Jy p k r=Pg.Ea (A9 p (Pg.putAt (Ac p).recs k r)):=by
 unfold Jy;rw[if_neg (by rw[a];simp),if_neg (by rw[b];simp),if_neg (by rw[Pg.D0];exact c)];rfl
theorem jX {p r:ByteArray}{k:Nat}(a:Bo p=true)(b:G9 r=true)(c:k≤512):J3 p k r=Pg.Ea (A9 p (Pg.G8 (Ac p).recs k r)):=by
 unfold J3;rw[if_neg (by rw[a];simp),if_neg (by omega),if_neg (by rw[b];simp),if_neg (by omega)];rfl
theorem jY {p:ByteArray}{k:Nat}(a:Bo p=true)(b:(Pg.D8 (Ac p).recs k).size≠0):Lb p k=Pg.Ea (A9 p (Pg.Fx (Ac p).recs k)):=by
 unfold Lb;rw[if_neg (by rw[a];simp),if_neg (by rw[Pg.D0];exact b)];rfl
def Lw (p:ByteArray):ByteArray:=Cj p ((Ac p).lsn:Nat)
theorem Aap {p q r:ByteArray}{i:Int}(h:Iv p i r=(q,0)):(Pg.Ay (Ac p).recs i).size=0∧q.size=512∧K8 q i=(Lw p,0):=by
 obtain⟨k,rfl,c,b,d,e,M⟩:=Yy h;have f:=Eb d;refine⟨by rw[Pg.D0];exact b,M.size,?_⟩;rw[jV M.Bo (by rw[M.D8,Pg.Fa,if_pos rfl];omega)];refine Mb c M.lsn M.kind M.link fun j=>?_;rw[Pg.Fa,M.D8,Pg.Fa]
 by_cases a:j=k
 ·rw[if_pos a,a,Pg.nil_of_size b]
 ·rw[if_neg a,if_neg a]
theorem Aaq {p q:ByteArray}{i:Int}(h:K8 p i=(q,0)):(Pg.Ay (Ac p).recs i).size≠0∧q.size=512∧Iv q i (Pg.Ay (Ac p).recs i)=(Lw p,0):=by
 obtain⟨k,rfl,c,b,d,M⟩:=Yz h;have e:=(Cl p).fine.len;rw[Pg.D0];refine⟨b,M.size,?_⟩;rw[jU M.Bo (by rw[M.D8,Pg.Fa,if_pos rfl];rfl) (Y4 b) (by omega)];refine Mb c M.lsn M.kind M.link fun j=>?_;rw[Pg.Fa,M.D8,Pg.Fa]
 by_cases a:j=k
 ·rw[if_pos a,a]
 ·rw[if_neg a,if_neg a]
theorem Aar {p q r:ByteArray}{i:Int}(h:Jy p i r=(q,0)):(Pg.Ay (Ac p).recs i).size≠0∧q.size=512∧Jy q i (Pg.Ay (Ac p).recs i)=(Lw p,0)∧(Ac q).lsn=(Ac p).lsn∧(Ac q).kind=(Ac p).kind∧(Ac q).link=(Ac p).link:=by
 obtain⟨k,rfl,c,d,b,e,M⟩:=Y0 h;have f:=Eb d;rw[Pg.D0];refine⟨b,M.size,?_,M.lsn,M.kind,M.link⟩;rw[jW M.Bo (Y4 b) (by rw[M.D8,Pg.Fa,if_pos rfl];omega)];refine Mb c M.lsn M.kind M.link fun j=>?_;rw[Pg.Fa,M.D8,Pg.Fa]
 by_cases a:j=k
 ·rw[if_pos a,a]
 ·rw[if_neg a,if_neg a]
theorem Aas {p q r:ByteArray}{i:Int}(h:J3 p i r=(q,0)):q.size=512∧Lb q i=(Lw p,0):=by
 obtain⟨k,rfl,c,d,e,M⟩:=Y1 h;have f:=Eb d;refine⟨M.size,?_⟩;have b:(Pg.D8 (Ac q).recs k).size≠0:=by rw[M.D8,Pg.Ma,if_neg (by omega),if_pos rfl];omega
 rw[jY M.Bo b];refine Mb c M.lsn M.kind M.link fun j=>?_;rw[Pg.Rs _ _ (rN b)]
 by_cases a:j<k
 ·rw[if_pos a,M.D8,Pg.Ma,if_pos a]
 ·rw[if_neg a,M.D8,Pg.Ma,if_neg (by omega),if_neg (by omega),Nat.add_sub_cancel]
theorem Aat {p q:ByteArray}{i:Int}(h:Lb p i=(q,0)):q.size=512∧J3 q i (Pg.Ay (Ac p).recs i)=(Lw p,0):=by
 obtain⟨k,rfl,d,e,c,M⟩:=Y2 h;have f:=(Cl p).fine.len;rw[Pg.D0];refine⟨M.size,?_⟩;rw[jX M.Bo (Y4 e) (by omega)];refine Mb d M.lsn M.kind M.link fun j=>?_;rw[Pg.Ma,M.D8,M.D8,Pg.Rs _ _ c,Pg.Rs _ _ c]
 by_cases b:j<k
 ·rw[if_pos b,if_pos b]
 ·rw[if_neg b]
  by_cases a:j=k
  ·rw[if_pos a,a]
  ·rw[if_neg a,if_neg (by omega),show j-1+1=j by omega]
end Go.Proofs.YtdfkambdagoojaaGreatDoor
namespace NumPlain
def Xc (n:Int):Bool:=decide (-1000000000000000≤n)&&decide (n≤1000000000000000)
theorem cJ {n:Int}(h:Xc n=true): -1000000000000000≤n∧n≤1000000000000000:=by
 simpa[Xc]using h
theorem rO {n:Int}(a: -1000000000000000≤n)(b:n≤1000000000000000):Xc n=true:=by
 simp[Xc,a,b]
def Bb (a:Int):Int:=if a<0 then -a else a
open Go.Lib
theorem Hp {d:Nat}(h:d<10):(UInt8.ofNat (48+d)).toNat=48+d:=by
 rw[UInt8.toNat_ofNat'];omega
theorem Qg:∀ (u:Nat),u≤1000000000000000→parseUint10 0 (decDigits u)= .ok u:=by
 have key:∀ (u:Nat),u≤1000000000000000→∀ r,parseUint10 0 (decDigits u++r)=parseUint10 u r:=by
  intro u
  induction u using Nat.strongRecOn with
  |_ u b=>
   intro a r;rw[decDigits]
   by_cases h:u<10
   ·rw[dif_pos h]
    simp only[List.cons_append,List.nil_append,parseUint10,Hp h];rw[if_pos (by omega),if_neg (by omega),if_neg (by omega)]
    congr 1;omega
   ·rw[dif_neg h,List.append_assoc,b (u/10) (by omega) (by omega)]
    simp only[List.cons_append,List.nil_append,parseUint10,Hp (show u%10<10 by omega)];rw[if_pos (by omega),if_neg (by omega),if_neg (by omega)]
    congr 1;omega
 intro u a;have:=key u a []
 simpa[parseUint10]using this
theorem Y5 (u:Nat):decDigits u≠[]:=by
 rw[decDigits];split<;>simp
theorem Nw (u:Nat):∃ c r,decDigits u=c::r∧48≤c.toNat∧c.toNat≤57:=by
 induction u using Nat.strongRecOn with
 |_ u a=>
  rw[decDigits]
  by_cases h:u<10
  ·rw[dif_pos h]
   exact⟨_,_,rfl,by rw[Hp h];omega,by rw[Hp h];omega⟩
  ·rw[dif_neg h]
   obtain⟨c,r,e,b,d⟩:=a (u/10) (by omega);exact⟨c,r++[UInt8.ofNat (48+u%10)],by rw[e];rfl,b,d⟩
theorem Mx {v:Int}(b:Xc v=true):atoiAll (itoa v)= .ok v:=by
 obtain⟨g,h⟩:=cJ b
 by_cases i:v<0
 ·obtain⟨u,rfl⟩:∃ u:Nat,v= -(u:Int):=⟨v.natAbs,by omega⟩
  rw[itoa_neg u (by omega)];have a:parseMag (decDigits u)= .ok u:=by rw[parseMag,if_neg (Y5 u),Qg u (by omega)]
  simp only[atoiAll];rw[if_pos (by decide),a];simp only[];rw[if_neg (by simp),if_neg (by omega),if_pos (by decide)]
 ·obtain⟨u,rfl⟩:∃ u:Nat,v=(u:Int):=⟨v.natAbs,by omega⟩
  rw[itoa_nonneg u];obtain⟨c,r,e,d,f⟩:=Nw u;have a:=Qg u (by omega);rw[e]at a;simp only[e,atoiAll];rw[if_neg (by omega)];simp only[parseMag,if_neg (List.cons_ne_nil c r),a];rw[if_neg (by omega),if_neg (by omega),if_neg (by omega)]
def D2 (l:List UInt8):Int×Bool:=
 match atoiAll l with
 | .ok v=>if Xc v&&decide (itoa v=l)then(v,true)else(0,false)
 |_=>(0,false)
theorem Sn {v:Int}(a:Xc v=true):D2 (itoa v)=(v,true):=by
 simp[D2,Mx a,a]
theorem cK {l:List UInt8}(h:∀ v,Xc v=true→itoa v≠l):D2 l=(0,false):=by
 unfold D2
 split
 ·rename_i v b
  rw[if_neg];intro a;simp only[Bool.and_eq_true,decide_eq_true_eq]at a;exact h v a.1 a.2
 ·rfl
def Ef (n:Int):List UInt8→Int
 |[]=>n
 |c::r=>Ef (if 48≤c.toNat∧c.toNat≤57 then 10*n+c.toNat-48 else n) r
theorem Ox (n:Int):∀ (l r:List UInt8),Ef n (l++r)=Ef (Ef n l) r:=by
 intro l
 induction l generalizing n with
 |nil=>intro r;rfl
 |cons c l ih=>intro r;simp only[List.cons_append,Ef];exact ih _ r
theorem Y6:∀ (l:List UInt8) (n:Int),0≤n→0≤Ef n l∧Ef n l<(n+1)*10^l.length:=by
 intro l
 induction l with
 |nil=>intro n h;simp[Ef];omega
 |cons c l ih=>
  intro n h;simp only[Ef];have d:(0:Int)<10^l.length:=Int.pow_pos (by omega)
  split
  ·rename_i e
   obtain⟨a,b⟩:=ih (10*n+c.toNat-48) (by omega);refine⟨a,Int.lt_of_lt_of_le b ?_⟩;rw[List.length_cons,Int.pow_succ,Int.mul_comm (10^l.length) 10,← Int.mul_assoc];exact Int.mul_le_mul_of_nonneg_right (by omega) (Int.le_of_lt d)
  ·obtain⟨a,b⟩:=ih n h
   refine⟨a,Int.lt_of_lt_of_le b ?_⟩;rw[List.length_cons,Int.pow_succ,Int.mul_comm (10^l.length) 10,← Int.mul_assoc];exact Int.mul_le_mul_of_nonneg_right (by omega) (Int.le_of_lt d)
theorem Oy (u:Nat):Ef 0 (decDigits u)=u:=by
 induction u using Nat.strongRecOn with
 |_ u a=>
  rw[decDigits]
  by_cases h:u<10
  ·rw[dif_pos h]
   simp only[Ef,Hp h];rw[if_pos (by omega)];omega
  ·rw[dif_neg h,Ox,a (u/10) (by omega)]
   simp only[Ef,Hp (show u%10<10 by omega)];rw[if_pos (by omega)];omega
def signed (l:List UInt8):Int:=if l.head? =some 45 then - Ef 0 l else Ef 0 l
def U7 (l:List UInt8):Int×Bool:=
 if 17<l.length then(0,false)else if Xc (signed l)&&decide (itoa (signed l)=l)then(signed l,true)else(0,false)
theorem cL (v:Int):signed (itoa v)=v:=by
 by_cases d:v<0
 ·obtain⟨u,rfl⟩:∃ u:Nat,v= -(u:Int):=⟨v.natAbs,by omega⟩
  rw[itoa_neg u (by omega)];simp only[signed,List.head?_cons,if_true];rw[show Ef 0 (45::decDigits u)=Ef 0 (decDigits u)from rfl,Oy]
 ·obtain⟨u,rfl⟩:∃ u:Nat,v=(u:Int):=⟨v.natAbs,by omega⟩
  rw[itoa_nonneg u];obtain⟨c,r,e,a,b⟩:=Nw u;rw[signed,if_neg,Oy];rw[e];simp only[List.head?_cons,Option.some.injEq];rintro rfl
  simp at a
theorem U8 (u:Nat)(h:u≤1000000000000000):nDigits u≤16:=by
 have key:∀ (k u:Nat),u<10^(k+1)→nDigits u≤k+1:=by
  intro k
  induction k with
  |zero=>intro u a;rw[nDigits_small (by simpa using a)];exact Nat.le_refl _
  |succ k ih=>
   intro u a
   by_cases h:u<10
   ·rw[nDigits_small h];omega
   ·rw[nDigits_big h]
    have:=ih (u/10) (by rw[Nat.div_lt_iff_lt_mul (by omega)];rw[Nat.pow_succ]at a;exact a);omega
 exact key 15 u (by omega)
theorem fZ {v:Int}(a:Xc v=true):(itoa v).length≤17:=by
 obtain⟨b,c⟩:=cJ a
 by_cases d:v<0
 ·obtain⟨u,rfl⟩:∃ u:Nat,v= -(u:Int):=⟨v.natAbs,by omega⟩
  rw[itoa_neg u (by omega),List.length_cons,decDigits_length];have:=U8 u (by omega);omega
 ·obtain⟨u,rfl⟩:∃ u:Nat,v=(u:Int):=⟨v.natAbs,by omega⟩
  rw[itoa_nonneg u,decDigits_length];have:=U8 u (by omega);omega
theorem Xd (l:List UInt8):U7 l=D2 l:=by
 by_cases h:∃ v,Xc v=true∧itoa v=l
 ·obtain⟨v,a,rfl⟩:=h
  rw[Sn a,U7,if_neg (by have:=fZ a;omega)];simp only[cL,a]
  simp
 ·have c:∀ v,Xc v=true→itoa v≠l:=fun v a e=>h ⟨v,a,e⟩
  rw[cK c,U7]
  split
  ·rfl
  ·rw[if_neg]
   intro b;simp only[Bool.and_eq_true,decide_eq_true_eq]at b;exact c _ b.1 b.2
theorem mQ {l:List UInt8}{v:Int}(h:D2 l=(v,true)):Xc v=true∧itoa v=l:=by
 unfold D2 at h
 split at h
 ·split at h
  ·rename_i a
   simp only[Bool.and_eq_true,decide_eq_true_eq]at a;simp only[Prod.mk.injEq,and_true]at h;subst h;exact a
  ·simp at h
 ·simp at h
theorem gA {l:List UInt8}(h:(D2 l).2=true):Xc (D2 l).1=true∧itoa (D2 l).1=l:=
 mQ (v:=(D2 l).1) (by rw[← h])
theorem mR {n:Int}(h:10≤n.natAbs):itoa n=itoa (n.tdiv 10)++[UInt8.ofNat (48+n.natAbs%10)]:=by
 by_cases a:n<0
 ·obtain⟨u,rfl⟩:∃ u:Nat,n= -(u:Int):=⟨n.natAbs,by omega⟩
  have e:(-(u:Int)).tdiv 10= -((u/10:Nat):Int):=by
   rw[Int.neg_tdiv];congr 1
  rw[e,itoa_neg u (by omega),itoa_neg (u/10) (by omega),decDigits,dif_neg (by omega)]
  simp
 ·obtain⟨u,rfl⟩:∃ u:Nat,n=(u:Int):=⟨n.natAbs,by omega⟩
  have e:(u:Int).tdiv 10=((u/10:Nat):Int):=by
   rw[Int.tdiv_eq_ediv_of_nonneg (by omega)];rfl
  rw[e,itoa_nonneg,itoa_nonneg,decDigits,dif_neg (by omega)]
  simp
theorem rP {d:Nat}(h:d<10):itoa (d:Int)=[UInt8.ofNat (48+d)]:=by
 rw[itoa_nonneg,decDigits,dif_pos h]
theorem gB {d:Nat}(a:1≤d)(h:d<10):itoa (-(d:Int))=[45,UInt8.ofNat (48+d)]:=by
 rw[itoa_neg d a,decDigits,dif_pos h]
def digits:ByteArray:=⟨#[48,49,50,51,52,53,54,55,56,57]⟩
theorem My (d:Nat)(h:d<10):digits.extract d (d+1)=⟨#[UInt8.ofNat (48+d)]⟩:=by
 have:∀ d:Fin 10,(digits.extract d.val (d.val+1)).data=#[UInt8.ofNat (48+d.val)]:=by decide+kernel
 exact congrArg ByteArray.mk (this ⟨d,h⟩)
theorem gC {n:Int}(h:n<0):n.tdiv 10= -((n.natAbs/10:Nat):Int)∧n.tmod 10= -((n.natAbs%10:Nat):Int):=by
 obtain⟨u,rfl⟩:∃ u:Nat,n= -(u:Int):=⟨n.natAbs,by omega⟩;rw[Int.neg_tdiv,Int.neg_tmod]
 constructor
 ·rw[Int.tdiv_eq_ediv_of_nonneg (by omega)];omega
 ·rw[Int.tmod_eq_emod_of_nonneg (by omega)];omega
end NumPlain
namespace Go.Proofs.YtdfkambdagoojaaGreatDoor
open Go.RowKit
structure Il where
 kind:Int
 slot:Int
 A5:ByteArray
 new:ByteArray
def Js (n:Int):ByteArray:=⟨(Lib.itoa n).toArray⟩
def Dm:ByteArray×Bool:=(⟨#[]⟩,false)
def okB (x:ByteArray×Int):ByteArray×Bool:=(x.1,decide (x.2=0))
def Er (p:ByteArray)(o:Il):Bool:= !decide ((Pg.Ay (Ac p).recs o.slot).size=0)&&decide (o.A5=Pg.Ay (Ac p).recs o.slot)
def Ek (p:ByteArray)(o:Il):ByteArray×Bool:=
 match Lib.atoiAll o.new.data.toList with
 | .ok n=>if Js n=o.new∧o.A5=Js ((Ac p).link:Nat)∧o.slot=0 then(D9 p n,!decide ((D9 p n).size=0))else Dm
 |_=>Dm
def Ih (p:ByteArray)(o:Il):ByteArray×Bool:=
 if o.slot=0∧o.A5=Cj p 0∧¬ o.new.size=0∧Cj o.new 0=o.new then(Cj o.new ((Ac p).lsn:Nat),!decide ((Cj o.new ((Ac p).lsn:Nat)).size=0))else Dm
def Cg (p:ByteArray)(o:Il):ByteArray×Bool:=
 if o.kind=1 then(if o.A5.size=0 then okB (Iv p o.slot o.new)else Dm)
 else if o.kind=2 then(if Er p o&&decide (o.new.size=0)then okB (K8 p o.slot)else Dm)
 else if o.kind=3 then(if Er p o then okB (Jy p o.slot o.new)else Dm)
 else if o.kind=4 then(if o.A5.size=0 then okB (J3 p o.slot o.new)else Dm)
 else if o.kind=5 then(if Er p o&&decide (o.new.size=0)then okB (Lb p o.slot)else Dm)
 else if o.kind=6 then Ek p o
 else if o.kind=7 then Ih p o
 else Dm
def Fs (p:ByteArray)(o:Il):Bool:=Bo p&&(Cg p o).2
def jZ (p:ByteArray)(o:Il):ByteArray×Int:=if Fs p o then((Cg p o).1,0)else(⟨#[]⟩,1)
def Aau (k:Int):Int:=if k=1 then 2 else if k=2 then 1 else if k=4 then 5 else if k=5 then 4 else k
def kA (o:Il):Il:=⟨Aau o.kind,o.slot,o.new,o.A5⟩
theorem Qh {x:ByteArray×Int}(h:(okB x).2=true):x=(x.1,0):=by
 obtain⟨a,e⟩:=x;have:e=0:=of_decide_eq_true h;rw[this]
theorem kB {p:ByteArray}{n:Int}(h:¬ (Cj p n).size=0):Bo p=true∧0≤n∧n<281474976710656:=by
 unfold Cj at h
 split at h
 ·exact absurd rfl h
 ·rename_i a
  cases b:Bo p with
  |false=>exact absurd (.inl b) a
  |true=>exact⟨rfl,by omega,by omega⟩
theorem Qi {p:ByteArray}{n:Int}(h:¬ (D9 p n).size=0):Bo p=true∧0≤n∧n<16777216:=by
 unfold D9 at h
 split at h
 ·exact absurd rfl h
 ·rename_i a
  cases b:Bo p with
  |false=>exact absurd (.inl b) a
  |true=>exact⟨rfl,by omega,by omega⟩
theorem kC (p:ByteArray){l k:Nat}(d:l<281474976710656)(e:k<16777216):Bo (Hd ⟨l,(Ac p).kind,k,(Ac p).recs⟩)=true∧Ac (Hd ⟨l,(Ac p).kind,k,(Ac p).recs⟩)=⟨l,(Ac p).kind,k,(Ac p).recs⟩∧(Hd ⟨l,(Ac p).kind,k,(Ac p).recs⟩).size=512:=by
 have a:=Cl p;have b:=Pg.Ga a.tight;have c:Pg.Bb (Pg.trim (Ac p).recs)≤512:=by rw[b];exact a.fits
 obtain⟨f,g⟩:=Qe (x:=⟨l,(Ac p).kind,k,(Ac p).recs⟩) ⟨d,a.fine.small.2.1,e⟩ c a.fine.each;refine⟨f,?_,U4 c⟩;rw[g];simp only[b]
theorem Qj {p:ByteArray}(h:Bo p=true){l:Nat}(a:l<281474976710656):Cj p (l:Int)=Hd ⟨l,(Ac p).kind,(Ac p).link,(Ac p).recs⟩:=by
 unfold Cj;rw[if_neg (by rw[h];simp;omega)]
 rfl
theorem Rt {p:ByteArray}(h:Bo p=true){k:Nat}(a:k<16777216):D9 p (k:Int)=Hd ⟨(Ac p).lsn,(Ac p).kind,k,(Ac p).recs⟩:=by
 unfold D9;rw[if_neg (by rw[h];simp;omega)]
 rfl
theorem I4 (p:ByteArray):(Ac p).lsn<281474976710656:=(Cl p).fine.small.1
theorem Kt (p:ByteArray):(Ac p).link<16777216:=(Cl p).fine.small.2.2
theorem Mc {p:ByteArray}(h:Bo p=true){l:Nat}(a:l<281474976710656):Bo (Cj p (l:Int))=true∧Ac (Cj p (l:Int))=⟨l,(Ac p).kind,(Ac p).link,(Ac p).recs⟩∧(Cj p (l:Int)).size=512:=by
 rw[Qj h a];exact kC p a (Kt p)
theorem mS {p:ByteArray}(h:Bo p=true){k:Nat}(a:k<16777216):Bo (D9 p (k:Int))=true∧Ac (D9 p (k:Int))=⟨(Ac p).lsn,(Ac p).kind,k,(Ac p).recs⟩∧(D9 p (k:Int)).size=512:=by
 rw[Rt h a];exact kC p (I4 p) a
theorem Tp {p:ByteArray}(h:Bo p=true){l m:Nat}(b:l<281474976710656)(a:m<281474976710656):Cj (Cj p (l:Int)) (m:Int)=Cj p (m:Int):=by
 obtain⟨c,d,_⟩:=Mc h b;rw[Qj c a,Qj h a,d]
theorem Pk {p:ByteArray}(h:Bo p=true):Lw p=Hd (Ac p):=U6 h
theorem cM {p:ByteArray}(h:Bo p=true):Bo (Lw p)=true∧Ac (Lw p)=Ac p∧(Lw p).size=512:=Mc h (I4 p)
theorem mT (n:Nat)(h:n<16777216):Lib.atoiAll (Js (n:Int)).data.toList= .ok (n:Int):=by
 show Lib.atoiAll (Lib.itoa (n:Int))=_
 exact NumPlain.Mx (NumPlain.rO (by omega) (by omega))
structure yU (p q:ByteArray) (o:Il):Prop where
 Ab:Bo q=true
 size:q.size=512
 lsn:(Ac q).lsn=(Ac p).lsn
 norm:Lw q=q
 back:Cg q (kA o)=(Lw p,true)
theorem Md {p q:ByteArray}{rs:List ByteArray}(b:∀ r∈rs,r.size≤400)(h:Pg.Ea (A9 p rs)=(q,0)):Lw q=q:=by
 obtain⟨M,c⟩:=Kf b h rfl;rw[Pk M.Bo];have a:Pg.Bb (Pg.trim rs)≤512:=by
  rcases Sm (A9 p rs)with⟨a,_⟩|⟨_,f⟩
  ·exact a
  ·rw[f]at h;injection h with _ h;omega
 obtain⟨_,d⟩:=Qe (Ct p rs) a b;rw[← c]at d;rw[d];have g:Pg.trim (Pg.trim rs)=Pg.trim rs:=Pg.cI fun j=>Pg.Qf rs j;have e:Pg.Dh {A9 p rs with recs:=Pg.trim (A9 p rs).recs}=Pg.Dh (A9 p rs):=by
  unfold Pg.Dh
  show Pg.Nh _ (Pg.trim (Pg.trim rs))=Pg.Nh _ (Pg.trim rs)
  rw[g]
  rfl
 rw[c];unfold Hd;rw[e]
theorem mU {p q r:ByteArray}{i:Int}(h:Iv p i r=(q,0)):Lw q=q:=by
 obtain⟨k,rfl,b,c,a,d,_⟩:=Yy h;rw[jU b c a d]at h;exact Md (Pg.Iu (Fq p) (Eb a).2) h
theorem mV {p q:ByteArray}{i:Int}(h:K8 p i=(q,0)):Lw q=q:=by
 obtain⟨k,rfl,a,b,c,_⟩:=Yz h;rw[jV a b]at h;exact Md (Pg.Iu (Fq p) (by show 0≤400;omega)) h
theorem mW {p q r:ByteArray}{i:Int}(h:Jy p i r=(q,0)):Lw q=q:=by
 obtain⟨k,rfl,b,a,c,d,_⟩:=Y0 h;rw[jW b a c]at h;exact Md (Pg.Iu (Fq p) (Eb a).2) h
theorem mX {p q r:ByteArray}{i:Int}(h:J3 p i r=(q,0)):Lw q=q:=by
 obtain⟨k,rfl,b,a,c,_⟩:=Y1 h;rw[jX b a c]at h;exact Md (Pg.Wt (Fq p) (Eb a).2) h
theorem mY {p q:ByteArray}{i:Int}(h:Lb p i=(q,0)):Lw q=q:=by
 obtain⟨k,rfl,a,b,c,_⟩:=Y2 h;rw[jY a b]at h;exact Md (Pg.Wu (Fq p)) h
theorem Ru {p:ByteArray}{o:Il}(h:Er p o=true):(Pg.Ay (Ac p).recs o.slot).size≠0∧o.A5=Pg.Ay (Ac p).recs o.slot:=by
 unfold Er at h;rw[Bool.and_eq_true]at h;exact⟨by simpa using h.1,of_decide_eq_true h.2⟩
theorem U9 {p:ByteArray}{o:Il}(h:o.A5.size≠0)(a:Pg.Ay (Ac p).recs o.slot=o.A5):Er p o=true:=by
 unfold Er;rw[a]
 simp[h]
theorem yV {p:ByteArray}{o:Il}(h:Fs p o=true):yU p (Cg p o).1 o:=by
 unfold Fs at h;rw[Bool.and_eq_true]at h;obtain⟨q,a⟩:=h;obtain⟨kind,slot,A5,new⟩:=o
 by_cases w:kind=1
 ·subst w
  have e:Cg p ⟨1,slot,A5,new⟩=if A5.size=0 then okB (Iv p slot new)else Dm:=if_pos rfl
  rw[e]at a ⊢
  split at a
  ·rename_i d
   rw[if_pos d];have b:=Qh a;obtain⟨k,r,_,s,f,_,M⟩:=Yy b;obtain⟨_,c,g⟩:=Aap b;have x:=Eb f;have hold:Pg.Ay (Ac (Iv p slot new).1).recs slot=new:=(by subst r;rw[Pg.D0,M.D8,Pg.Fa,if_pos rfl]);refine⟨M.Bo,c,M.lsn,mU b,?_⟩
   show(if Er (Iv p slot new).1 ⟨2,slot,new,A5⟩&&decide (A5.size=0)then okB (K8 (Iv p slot new).1 slot)else Dm)=_
   rw[U9 (by show new.size≠0;omega) hold,decide_eq_true d,g]
   rfl
  ·cases a
 by_cases y:kind=2
 ·subst y
  have e:Cg p ⟨2,slot,A5,new⟩=if Er p ⟨2,slot,A5,new⟩&&decide (new.size=0)then okB (K8 p slot)else Dm:=rfl
  rw[e]at a ⊢
  split at a
  ·rename_i d
   rw[if_pos d];rw[Bool.and_eq_true]at d;obtain⟨t,i⟩:=Ru d.1;have j:=of_decide_eq_true d.2;have b:=Qh a;obtain⟨k,r,_,s,_,M⟩:=Yz b;obtain⟨_,c,g⟩:=Aaq b;refine⟨M.Bo,c,M.lsn,mV b,?_⟩
   show(if new.size=0 then okB (Iv (K8 p slot).1 slot A5)else Dm)=_
   rw[if_pos j,show A5=Pg.Ay (Ac p).recs slot from i,g]
   rfl
  ·cases a
 by_cases z:kind=3
 ·subst z
  have e:Cg p ⟨3,slot,A5,new⟩=if Er p ⟨3,slot,A5,new⟩then okB (Jy p slot new)else Dm:=rfl
  rw[e]at a ⊢
  split at a
  ·rename_i d
   rw[if_pos d];obtain⟨t,i⟩:=Ru d;have b:=Qh a;obtain⟨k,r,_,f,s,_,M⟩:=Y0 b;obtain⟨_,c,g,J,_⟩:=Aar b;have x:=Eb f;have hold:Pg.Ay (Ac (Jy p slot new).1).recs slot=new:=(by subst r;rw[Pg.D0,M.D8,Pg.Fa,if_pos rfl]);refine⟨M.Bo,c,M.lsn,mW b,?_⟩
   show(if Er (Jy p slot new).1 ⟨3,slot,new,A5⟩then okB (Jy (Jy p slot new).1 slot A5)else Dm)=_
   rw[if_pos (U9 (by show new.size≠0;omega) hold),show A5=Pg.Ay (Ac p).recs slot from i,g]
   rfl
  ·cases a
 by_cases A:kind=4
 ·subst A
  have e:Cg p ⟨4,slot,A5,new⟩=if A5.size=0 then okB (J3 p slot new)else Dm:=rfl
  rw[e]at a ⊢
  split at a
  ·rename_i d
   rw[if_pos d];have b:=Qh a;obtain⟨k,r,_,f,_,M⟩:=Y1 b;obtain⟨c,g⟩:=Aas b;have x:=Eb f;have hold:Pg.Ay (Ac (J3 p slot new).1).recs slot=new:=(by subst r;rw[Pg.D0,M.D8,Pg.Ma,if_neg (by omega),if_pos rfl]);refine⟨M.Bo,c,M.lsn,mX b,?_⟩
   show(if Er (J3 p slot new).1 ⟨5,slot,new,A5⟩&&decide (A5.size=0)then okB (Lb (J3 p slot new).1 slot)else Dm)=_
   rw[U9 (by show new.size≠0;omega) hold,decide_eq_true d,g]
   rfl
  ·cases a
 by_cases B:kind=5
 ·subst B
  have e:Cg p ⟨5,slot,A5,new⟩=if Er p ⟨5,slot,A5,new⟩&&decide (new.size=0)then okB (Lb p slot)else Dm:=rfl
  rw[e]at a ⊢
  split at a
  ·rename_i d
   rw[if_pos d];rw[Bool.and_eq_true]at d;obtain⟨t,i⟩:=Ru d.1;have j:=of_decide_eq_true d.2;have b:=Qh a;obtain⟨k,r,_,s,_,M⟩:=Y2 b;obtain⟨c,g⟩:=Aat b;refine⟨M.Bo,c,M.lsn,mY b,?_⟩
   show(if new.size=0 then okB (J3 (Lb p slot).1 slot A5)else Dm)=_
   rw[if_pos j,show A5=Pg.Ay (Ac p).recs slot from i,g]
   rfl
  ·cases a
 by_cases C:kind=6
 ·subst C
  have e:Cg p ⟨6,slot,A5,new⟩=Ek p ⟨6,slot,A5,new⟩:=rfl;rw[e]at a ⊢;unfold Ek at a ⊢;simp only at a ⊢;obtain⟨n,j⟩:∃ n,Lib.atoiAll new.data.toList= .ok n:=by
   cases j:Lib.atoiAll new.data.toList with
   |ok n=>exact⟨n,rfl⟩
   |_=>rw[j]at a;cases a
  rw[j]at a ⊢;simp only at a ⊢
  ·split at a
   ·rename_i g
    rw[if_pos g];obtain⟨c1,c2,c3⟩:=g;have s:¬ (D9 p n).size=0:=(by simpa using a);obtain⟨_,E,K⟩:=Qi s;obtain⟨m,rfl⟩:=Int.eq_ofNat_of_zero_le E;have u:m<16777216:=(by omega);obtain⟨g1,g2,g3⟩:=mS q u;have F:D9 (D9 p (m:Int)) ((Ac p).link:Nat)=Lw p:=by
     rw[Rt g1 (Kt p),g2,Pk q]
    refine⟨g1,g3,by rw[g2],?_,?_⟩
    ·rw[Pk g1,g2,Rt q u]
    ·show Ek (D9 p (m:Int)) ⟨6,slot,new,A5⟩=_
     unfold Ek;simp only;rw[c2,mT _ (Kt p)];simp only;rw[g2];simp only;simp only[true_and]at*;rw[if_pos (by first|exact⟨rfl,c1.symm,c3⟩|exact⟨trivial,c1.symm,c3⟩|exact⟨c1.symm,c3⟩),F];have:=(cM q).2.2;rw[this]
     rfl
   ·cases a
 by_cases D:kind=7
 ·subst D
  have e:Cg p ⟨7,slot,A5,new⟩=Ih p ⟨7,slot,A5,new⟩:=rfl;rw[e]at a ⊢;unfold Ih at a ⊢;simp only at a ⊢
  split at a
  ·rename_i g
   rw[if_pos g];obtain⟨c1,c2,c3,c4⟩:=g;have s:¬ (Cj new ((Ac p).lsn:Nat)).size=0:=(by simpa using a);obtain⟨j,_,_⟩:=kB s;obtain⟨g1,g2,g3⟩:=Mc j (I4 p);obtain⟨i1,i2,i3⟩:=Mc q (l:=0) (by omega);refine⟨g1,g3,by rw[g2],?_,?_⟩
   ·rw[Pk g1,g2,Qj j (I4 p)]
   ·show Ih (Cj new ((Ac p).lsn:Nat)) ⟨7,slot,new,A5⟩=_
    unfold Ih;simp only;have G:Cj (Cj new ((Ac p).lsn:Nat)) 0=new:=by
     have:=Tp j (I4 p) (m:=0) (by omega);exact this.trans c4
    have H:Cj (Cj p 0) 0=Cj p 0:=Tp q (l:=0) (m:=0) (by omega) (by omega);have I:Cj (Cj p 0) ((Ac p).lsn:Nat)=Lw p:=Tp q (l:=0) (by omega) (I4 p);have v:(Cj p 0).size=512:=i3;rw[c2,g2];simp only;rw[if_pos ⟨c1,G.symm,by rw[v];omega,H⟩,I];have:=(cM q).2.2;rw[this]
    rfl
  ·cases a
 ·have e:Cg p ⟨kind,slot,A5,new⟩=Dm:=by
   unfold Cg;simp only;rw[if_neg w,if_neg y,if_neg z,if_neg A,if_neg B,if_neg C,if_neg D]
  rw[e]at a
  cases a
theorem vD {p:ByteArray}{o:Il}(h:Fs p o=true):jZ p o=((Cg p o).1,0)∧Fs (Cg p o).1 (kA o)=true∧jZ (Cg p o).1 (kA o)=(Lw p,0):=by
 have U:=yV h;have a:Fs (Cg p o).1 (kA o)=true:=by unfold Fs;rw[U.Ab,U.back];rfl
 refine⟨by unfold jZ;rw[if_pos h],a,?_⟩;unfold jZ;rw[if_pos a,U.back]
end Go.Proofs.YtdfkambdagoojaaGreatDoor
namespace Lg
open Rc
def Eu (F N:Nat)(d:Dk):List UInt8:=flat ((d.Ad.drop F).take N)
theorem Qk {F N:Nat}{d:Dk}(a:Whole d.Ad)(b:F+N≤d.Ad.length):(Eu F N d).length=N*128:=by
 unfold Eu;rw[Dc ((a.drop F).take N),List.length_take,List.length_drop]
 congr 1;omega
theorem rQ {L:List ByteArray}{F N j:Nat}{b:ByteArray}(e:j<N):((L.set (F+j) b).drop F).take N=((L.drop F).take N).set j b:=by
 refine List.ext_getElem? fun i=>?_;simp only[List.getElem?_take,List.getElem?_drop,List.getElem?_set,List.length_take,List.length_drop]
 by_cases a:i<N
 ·by_cases d:i=j
  ·subst d
   simp only[if_pos a,if_pos]
   by_cases c:F+i<L.length
   ·rw[if_pos c,if_pos (by omega)]
   ·rw[if_neg c,if_neg (by omega)]
  ·simp only[if_pos a]
   rw[if_neg (by omega),if_neg (by omega)]
 ·rw[if_neg a]
  rw[if_neg (by omega),if_neg a]
theorem mZ (n:Nat):∀ l:List UInt8,l.length≤n→flat (Rq l)=l++List.replicate ((Rq l).length*128-l.length) 0:=by
 induction n with
 |zero=>
  intro l e;rw[List.eq_nil_of_length_eq_zero (l:=l) (by omega),Jh];rfl
 |succ n ih=>
  intro l e
  by_cases h:l=[]
  ·rw[h,Jh];rfl
  ·have i:0<l.length:=by cases l with
    |nil=>contradiction
    |cons a l=>simp
   have f:(Lv (l.take 128)).data.toList=l.take 128++List.replicate (128-(l.take 128).length) 0:=(by unfold Lv;rfl);rw[Of h,E9,f,ih _ (by rw[List.length_drop];omega),List.length_cons];have b:=Sk _ (l.drop 128) (Nat.le_refl _)
   by_cases d:l.length≤128
   ·have c:l.drop 128=[]:=List.drop_eq_nil_of_le d
    rw[c,Jh,List.take_of_length_le d]
    simp
   ·have c:(l.take 128).length=128:=by rw[List.length_take];omega
    rw[c,Nat.sub_self,List.replicate_zero,List.append_nil,← List.append_assoc,List.take_append_drop,List.length_drop];rw[List.length_drop]at b;have g:(Rq (l.drop 128)).length*128-(l.length-128)=((Rq (l.drop 128)).length+1)*128-l.length:=(by omega);rw[g]
theorem rR:flat [Cy]=List.replicate 128 0:=by
 have h:∀ l:List UInt8,flat [⟨l.toArray⟩]=l:=fun l=>by unfold flat;simp
 exact h _
theorem rS {L:List ByteArray}(h:Whole L)(i:Nat)(hi:i<L.length):(L[i]?.getD ⟨#[]⟩).data.toList=((flat L).drop (i*128)).take 128∧(L[i]?.getD ⟨#[]⟩).size=128:=by
 rw[List.getElem?_eq_getElem hi,Option.getD_some];refine⟨?_,h _ (List.getElem_mem hi)⟩;rw[← mC h,List.drop_eq_getElem_cons hi,E9,List.take_left' (by have:=h _ (List.getElem_mem hi);simpa using this)]
structure F4 (F N:Nat) (d:Dk) (g:Lo) (r1 r2:List Rec):Prop where
 whole:Whole d.Ad
 room:F+N≤d.Ad.length
 hf:g.from_=(F:Int)
 hn:g.n=(N:Int)
 row:Row 0 (r1++r2)
 pre:(Eu F N d).take (bytes r1).length=bytes r1
 safe:g.safe=((bytes r1).length:Int)
 end_:g.end_=((bytes (r1++r2)).length:Int)
 tail:g.tail=⟨((bytes (r1++r2)).drop ((bytes r1).length-(bytes r1).length%128)).toArray⟩
 fit:(bytes (r1++r2)).length≤N*128
theorem Ji (a b:List Rec):(bytes (a++b)).length=(bytes a).length+(bytes b).length:=by rw[Ff,List.length_append]
theorem nA (r:Rec):bytes [r]=Co r:=by unfold bytes;simp
theorem Kd {l:List Rec}(h:(bytes l).length=0):l=[]:=by
 cases l with
 |nil=>rfl
 |cons r l=>rw[F0,List.length_append,Fp]at h;omega
theorem F4.Oi {F N:Nat}{d:Dk}{g:Lo}{a b:List Rec}(h:F4 F N d g a b):(g.tail.size:Int)=g.end_-(((bytes a).length/128*128:Nat):Int):=by
 have c:=Ji a b;rw[h.tail,h.end_]
 show((((bytes (a++b)).drop ((bytes a).length-(bytes a).length%128)).toArray.size:Nat):Int)=_
 rw[List.size_toArray,List.length_drop];omega
theorem F4.new {F N:Nat}{d:Dk}(a:Whole d.Ad)(b:F+N≤d.Ad.length):F4 F N d ⟨F,N,0,0,⟨#[]⟩⟩ [] []:=
 ⟨a,b,rfl,rfl,trivial,rfl,rfl,rfl,rfl,Nat.zero_le _⟩
theorem F4.append {F N:Nat}{d:Dk}{g:Lo}{a b:List Rec}(h:F4 F N d g a b)(r:Rec):
 (Bf g r=(g,0,1))∨(Bf g r=(g,0,18))∨
 ((Bf g r).2=(g.end_+1,0)∧F4 F N d (Bf g r).1 a (b++[{r with lsn:=g.end_+1}])):=by
 by_cases c:Bz {r with lsn:=g.end_+1}
 ·by_cases j:g.n*128-((Co {r with lsn:=g.end_+1}).length:Int)<g.end_
  ·refine .inr (.inl ?_)
   unfold Bf;simp only;rw[if_neg (fun f=>f c),if_pos j]
  ·refine .inr (.inr ?_)
   have e:Bf g r=({g with end_:=g.end_+((Co {r with lsn:=g.end_+1}).length:Int),tail:=g.tail++⟨(Co {r with lsn:=g.end_+1}).toArray⟩},g.end_+1,0):=by
    unfold Bf;simp only;rw[if_neg (fun f=>f c),if_neg j]
   rw[e];refine⟨rfl,?_⟩;have i:bytes (a++(b++[{r with lsn:=g.end_+1}]))=bytes (a++b)++Co {r with lsn:=g.end_+1}:=by
    rw[← List.append_assoc,Ff (a++b),nA]
   refine⟨h.whole,h.room,h.hf,h.hn,?_,h.pre,h.safe,?_,?_,?_⟩
   ·rw[← List.append_assoc,Ko]
    refine⟨h.row,c,?_,trivial⟩
    show g.end_+1=_
    rw[h.end_];simp
   ·show g.end_+_=_
    rw[i,List.length_append,h.end_];omega
   ·show g.tail++_=_
    have k:=Ji a b;rw[i,h.tail,List.drop_append_of_le_length (by omega)]
    apply ByteArray.ext
    rw[ByteArray.data_append]
    simp
   ·rw[i,List.length_append]
    have l:=h.hn;have m:=h.end_;omega
 ·refine .inl ?_
  unfold Bf;simp only;rw[if_pos c]
structure Nx (F N f:Nat) (s n t:List UInt8) (all:List ByteArray):Prop where
 whole:Whole all
 fits:f+all.length≤N
 some_:0<all.length
 flat_:n=s.take (f*128)++(flat all++s.drop ((f+all.length)*128))
 len:s.length=N*128
theorem Nx.rT {F N f:Nat}{s n t:List UInt8}{all:List ByteArray}(h:Nx F N f s n t all):n.length=N*128:=by
 have a:=h.fits;have b:=h.len;rw[h.flat_,List.length_append,List.length_append,Dc h.whole,List.length_take,List.length_drop];omega
theorem Nx.piece {F N f:Nat}{s n t:List UInt8}{all:List ByteArray}(h:Nx F N f s n t all)(i:Nat)(hi:i<all.length):(all[i]?.getD ⟨#[]⟩).data.toList=(n.drop ((f+i)*128)).take 128∧(all[i]?.getD ⟨#[]⟩).size=128:=by
 obtain⟨a,b⟩:=rS h.whole i hi;refine⟨?_,b⟩;have c:=h.fits;have d:=h.len;have e:=Dc h.whole;rw[a,h.flat_,show(f+i)*128=f*128+i*128 by omega,← List.drop_drop,List.drop_left' (by rw[List.length_take];omega),List.drop_append_of_le_length (by omega),List.take_append_of_le_length (by rw[List.length_drop];omega)]
theorem Nx.start {F N f:Nat}{s n t:List UInt8}{all:List ByteArray}(h:Nx F N f s n t all):mix s n ((f+all.length)*128)=s:=by
 have a:=h.fits;have b:=h.len;have c:=Dc h.whole;unfold mix;rw[h.flat_,← List.append_assoc,List.drop_left' (by rw[List.length_append,List.length_take];omega),List.take_append_drop]
theorem Nx.Aav {F N f:Nat}{s n t:List UInt8}{all:List ByteArray}(h:Nx F N f s n t all):mix s n (f*128)=n:=by
 refine Yu (by rw[h.len,h.rT]) fun i a=>?_;have b:=h.fits;have c:=h.len;rw[h.flat_,List.getElem?_append_left (by rw[List.length_take];omega),List.getElem?_take,if_pos a]
theorem gD {F N f:Nat}{s n t:List UInt8}{all:List ByteArray}(u:Nx F N f s n t all):∀ (i:Nat),i≤all.length→∀ d:Dk,Whole d.Ad→F+N≤d.Ad.length→d.down=false→-1≤d.left→Eu F N d=mix s n ((f+i)*128)→
 ((Ci ((F:Int)+f) all i d).2=0∧(Ci ((F:Int)+f) all i d).1.down=false∧-1≤(Ci ((F:Int)+f) all i d).1.left∧(d.left= -1→(Ci ((F:Int)+f) all i d).1.left= -1)∧Eu F N (Ci ((F:Int)+f) all i d).1=mix s n (f*128)∧Whole (Ci ((F:Int)+f) all i d).1.Ad∧(Ci ((F:Int)+f) all i d).1.Ad.length=d.Ad.length)∨
 ((Ci ((F:Int)+f) all i d).2=20∧d.left≠-1∧(∃ q,Eu F N (Ci ((F:Int)+f) all i d).1=mix s n q)∧Whole (Ci ((F:Int)+f) all i d).1.Ad∧(Ci ((F:Int)+f) all i d).1.Ad.length=d.Ad.length):=by
 intro i
 induction i with
 |zero=>
  intro _ d l E k B v;exact .inl ⟨rfl,k,B,fun h=>h,by unfold Ci;exact v,l,rfl⟩
 |succ i G=>
  intro J d l E k B v;obtain⟨w,c⟩:=u.piece i (by omega);have C:=u.fits;have j:Hi d ((F:Int)+f+(i:Int)):=⟨by omega,by omega⟩
  by_cases D:d.left=0
  ·have e:Cf d ((F:Int)+f+(i:Int)) (all[i]?.getD ⟨#[]⟩)=({d with down:=true},20):=by
    unfold Cf;rw[k,if_neg (by simp),if_neg (fun x=>x ⟨j,c⟩),if_pos D]
   have y:Ci ((F:Int)+f) all (i+1) d=({d with down:=true},20):=by
    unfold Ci;rw[e,if_neg (show ¬ (20:Int)=0 by decide)]
   rw[y];exact .inr ⟨rfl,by omega,⟨_,v⟩,l,rfl⟩
  ·obtain⟨d2,g⟩:=ex ({d with Ad:=d.Ad.set ((F:Int)+f+(i:Int)).toNat (all[i]?.getD ⟨#[]⟩),left:=if 0<d.left then d.left-1 else d.left}:Dk)
   have e:Cf d ((F:Int)+f+(i:Int)) (all[i]?.getD ⟨#[]⟩)=(d2,0):=by
    unfold Cf;rw[k,if_neg (by simp),if_neg (fun x=>x ⟨j,c⟩),if_neg D,g,← k]
   have y:Ci ((F:Int)+f) all (i+1) d=Ci ((F:Int)+f) all i d2:=by
    conv=>lhs;unfold Ci
    rw[e,if_pos rfl]
   rw[y];have m:((F:Int)+f+(i:Int)).toNat=F+(f+i):=(by omega);have a:d2.Ad=d.Ad.set (F+(f+i)) (all[i]?.getD ⟨#[]⟩):=(by rw[g,← m]);have b:d2.left=if 0<d.left then d.left-1 else d.left:=by rw[g]
   have hlen:d2.Ad.length=d.Ad.length:=(by rw[a,List.length_set]);have o:Eu F N d2=mix s n ((f+i)*128):=by
    unfold Eu;rw[a,rQ (by omega)];refine qW ((l.drop F).take N) c (by rw[List.length_take,List.length_drop];omega) (by rw[u.len,u.rT]) ?_ w;have:(f+i+1)*128=(f+(i+1))*128:=(by omega);rw[this];exact v
   have z:Whole d2.Ad:=(by rw[a];exact l.set _ c);have H:=G (by omega) d2 z (by omega) (by rw[g];exact k) (by rw[b];split<;>omega) o;have p:d.left= -1→d2.left= -1:=fun r=>by rw[b,if_neg (by omega)];exact r
   rcases H with⟨A,a2,a3,a4,a5,I,K⟩|⟨A,a2,a3,a4,a5⟩
   ·exact .inl ⟨A,a2,a3,fun r=>a4 (p r),a5,I,by omega⟩
   ·exact .inr ⟨A,fun r=>a2 (p r),a3,a4,by omega⟩
theorem F4.F1 {F N:Nat}{d:Dk}{g:Lo}{a b:List Rec}(h:F4 F N d g a b):F1 g=(((bytes a).length/128:Nat):Int):=by
 unfold Lg.F1;have:=h.Oi;rw[this];omega
theorem F4.yE {F N:Nat}{d:Dk}{g:Lo}{a c:List Rec}(h:F4 F N d g a c)(B:c≠[]):
 ∃ n,Nx F N ((bytes a).length/128) (Eu F N d) n [] (F3 g)∧Yt n (a++c):=by
 obtain⟨X,p⟩:=ex ((bytes a).length);obtain⟨Y,q⟩:=ex ((bytes (a++c)).length);have C:=Ji a c;have x:0<(bytes c).length:=Nat.pos_of_ne_zero fun o=>B (Kd o);have k:=h.fit;have r:=Qk (N:=N) h.whole h.room;have j:g.tail.data.toList=(bytes (a++c)).drop (X-X%128):=by rw[h.tail,p]
 have s:g.tail.size=Y-(X-X%128):=by
  have:g.tail.data.toList.length=g.tail.size:=by simp
  rw[← this,j,List.length_drop,q]
 have D:=Ho g.tail;have l:flat (Jp g.tail)=(bytes (a++c)).drop (X-X%128)++List.replicate ((Jp g.tail).length*128-g.tail.size) 0:=by
  unfold Jp;rw[mZ _ _ (Nat.le_refl _),j,List.length_drop,← j,s,← q]
 obtain⟨z,o,t,E⟩:∃ z,flat (F3 g)=(bytes (a++c)).drop (X-X%128)++List.replicate z 0∧(X/128+(F3 g).length≤N)∧(128≤z∨Y+z=N*128):=by
  unfold F3;rw[h.F1,h.hn,← p]
  by_cases y:(((X/128:Nat):Int)+((Jp g.tail).length:Int))<(N:Int)
  ·rw[if_pos y]
   refine⟨(Jp g.tail).length*128-g.tail.size+128,?_,?_,.inl (by omega)⟩
   ·rw[Si,l,rR,List.append_assoc,List.replicate_append_replicate]
   ·rw[List.length_append];simp;omega
  ·rw[if_neg y]
   refine⟨(Jp g.tail).length*128-g.tail.size,l,?_,.inr ?_⟩
   ·omega
   ·omega
 have m:Whole (F3 g):=by
  unfold F3
  split
  ·intro b G
   rcases List.mem_append.1 G with e|e
   ·exact Og _ b e
   ·rw[List.mem_singleton.1 e];exact J1
  ·exact Og _
 have u:0<(F3 g).length:=by
  have:(Jp g.tail).length≤(F3 g).length:=by unfold F3;split<;>simp
  omega
 have v:=Dc m;rw[o,List.length_append,List.length_drop,List.length_replicate,← q]at v;obtain⟨n,A⟩:=ex ((Eu F N d).take (X/128*128)++(flat (F3 g)++(Eu F N d).drop ((X/128+(F3 g).length)*128)));have w:Nx F N (X/128) (Eu F N d) n [] (F3 g):=⟨m,t,u,A,r⟩;have f:n=bytes (a++c)++(List.replicate z 0++(Eu F N d).drop ((X/128+(F3 g).length)*128)):=by
  have H:(Eu F N d).take (X/128*128)=(bytes (a++c)).take (X/128*128):=by
   have e:=congrArg (List.take (X/128*128)) h.pre;rw[List.take_take,Nat.min_eq_left (by omega)]at e;rw[e,Ff,List.take_append_of_le_length (by omega)]
  rw[A,o,H,show X-X%128=X/128*128 by omega,List.append_assoc,← List.append_assoc,List.take_append_drop]
 refine⟨n,by rw[← p];exact w,h.row,?_,?_,?_⟩
 ·rw[f,List.take_left' rfl]
 ·rw[w.rT];exact k
 ·intro i e J I
  rw[w.rT]at I;rw[f,List.getElem?_append_right e,List.getElem?_append_left (by rw[List.length_replicate];omega),List.getElem?_replicate,if_pos (by omega)]
theorem F4.force {F N:Nat}{d:Dk}{g:Lo}{a b:List Rec}(h:F4 F N d g a b)(t:d.down=false)(u: -1≤d.left):
 ((A4 d g).2.2=0∧F4 F N (A4 d g).1 (A4 d g).2.1 (a++b) []∧(A4 d g).1.down=false∧-1≤(A4 d g).1.left∧(d.left= -1→(A4 d g).1.left= -1)∧(A4 d g).1.Ad.length=d.Ad.length∧(A4 d g).2.1.safe=(A4 d g).2.1.end_∧(Yt (Eu F N d) a∨b≠[]→Yt (Eu F N (A4 d g).1) (a++b)))∨
 ((A4 d g).2.2=20∧b≠[]∧(A4 d g).2.1=g∧d.left≠-1∧Whole (A4 d g).1.Ad∧(A4 d g).1.Ad.length=d.Ad.length∧∃ n q,Yt n (a++b)∧n.length=N*128∧Eu F N (A4 d g).1=mix (Eu F N d) n q):=by
 by_cases o:b=[]
 ·subst o
  have c:g.safe=g.end_:=by rw[h.safe,h.end_,List.append_nil]
  have e:A4 d g=(d,g,0):=by unfold A4;rw[if_pos c]
  rw[e];refine .inl ⟨rfl,?_,t,u,fun i=>i,rfl,c,fun i=>?_⟩
  ·have v:=h
   rw[← List.append_nil a]at v
   simpa using v
  ·rcases i with i|i
   ·simpa using i
   ·exact absurd rfl i
 ·have c:¬ g.safe=g.end_:=by
   have w:0<(bytes b).length:=Nat.pos_of_ne_zero fun z=>o (Kd z);have r:=Ji a b;rw[h.safe,h.end_];omega
  obtain⟨n,k,s⟩:=h.yE o;have j:g.from_+Lg.F1 g=(F:Int)+(((bytes a).length/128:Nat):Int):=by rw[h.hf,h.F1]
  have x:=gD k (F3 g).length (Nat.le_refl _) d h.whole h.room t u k.start.symm;rw[← j]at x;rcases x with⟨p,a2,a3,a4,a5,A,y⟩|⟨p,a2,a3,a4,a5⟩
  ·have e:A4 d g=((Ci (g.from_+Lg.F1 g) (F3 g) (F3 g).length d).1,Lm g,0):=by
    unfold A4;rw[if_neg c];simp only;rw[if_pos p]
   rw[e];refine .inl ⟨rfl,?_,a2,a3,a4,y,rfl,fun _=>by show Yt (Eu F N _) _;rw[a5,k.Aav];exact s⟩;have l:Eu F N (Ci (g.from_+Lg.F1 g) (F3 g) (F3 g).length d).1=n:=(by rw[a5,k.Aav]);have B:=h.Oi;have f:=h.end_;refine⟨A,by rw[y];exact h.room,h.hf,h.hn,by rw[List.append_nil];exact h.row,?_,?_,?_,?_,by rw[List.append_nil];exact h.fit⟩
   ·show(Eu F N (Ci (g.from_+Lg.F1 g) (F3 g) (F3 g).length d).1).take _=_
    rw[l];exact s.pre
   ·show g.end_=_
    exact f
   ·show g.end_=_
    rw[List.append_nil];exact f
   ·show g.tail.extract (g.tail.size-(g.end_%128).toNat) g.tail.size=_
    have r:=Ji a b;have m:g.tail.size=(bytes (a++b)).length-(bytes a).length/128*128:=(by omega);rw[List.append_nil,f]
    apply ByteArray.ext
    rw[ByteArray.data_extract,h.tail]
    apply Array.toList_inj.1
    rw[Array.toList_extract];simp only[List.extract_eq_drop_take'];rw[← h.tail,m];have C:(((((bytes (a++b)).length:Nat):Int)%128).toNat)=(bytes (a++b)).length%128:=(by omega);rw[C];rw[List.drop_take,List.drop_drop,List.take_of_length_le (by rw[List.length_drop];omega)]
    congr 1;omega
  ·have e:A4 d g=((Ci (g.from_+Lg.F1 g) (F3 g) (F3 g).length d).1,g,20):=by
    unfold A4;rw[if_neg c];simp only;rw[if_neg (show ¬ _ by rw[p];decide),p]
   rw[e];obtain⟨q,D⟩:=a3;exact .inr ⟨rfl,o,rfl,a2,a4,a5,n,q,s,k.rT,D⟩
theorem vE {d:Dk}(b:d.down=false):∀ (k a:Nat),a+k≤d.Ad.length→Fh d (a:Int) k= .ok (flat ((d.Ad.drop a).take k)):=by
 intro k
 induction k with
 |zero=>intro a _;unfold Fh;rw[List.take_zero];rfl
 |succ k ih=>
  intro a f;have c:Fy d (a:Int)=(d.Ad[a]'(by omega),0):=by
   unfold Fy;rw[b,if_neg (by simp),if_pos (show Hi d (a:Int)from⟨by omega,by omega⟩)];unfold Qb;rw[Int.toNat_natCast,List.getElem?_eq_getElem (by omega),Option.getD_some]
  have e:=ih (a+1) (by omega);unfold Fh;rw[c,if_pos rfl,show((a:Int)+1)=((a+1:Nat):Int) by omega,e,List.drop_eq_getElem_cons (l:=d.Ad) (i:=a) (by omega),List.take_succ_cons,E9]
theorem rU (s:List UInt8):∀ (f a:Nat),a≤s.length→Row a (Dx s f a).1∧(Dx s f a).2=a+(bytes (Dx s f a).1).length∧(Dx s f a).2≤s.length∧s.take (Dx s f a).2=s.take a++bytes (Dx s f a).1:=by
 intro f
 induction f with
 |zero=>intro a d;unfold Dx;exact⟨trivial,rfl,d,by simp[bytes]⟩
 |succ f ih=>
  intro a d;have b:Row a []∧a=a+(bytes []).length∧a≤s.length∧s.take a=s.take a++bytes []:=⟨trivial,rfl,d,by simp[bytes]⟩
  by_cases c:Is s a
  ·have h:=Qa c
   by_cases g:(Cd true (Bk s a)).lsn=(a:Int)+1
   ·have e:Dx s (f+1) a=(Cd true (Bk s a)::(Dx s f (a+8+Oct.Bq s a 4)).1,(Dx s f (a+8+Oct.Bq s a 4)).2):=by
     conv=>lhs;unfold Dx
     rw[h];simp only;rw[if_pos g]
    have hlen:(Co (Cd true (Bk s a))).length=8+Oct.Bq s a 4:=by
     rw[Fp,c.2.2.2];unfold Bk;rw[List.length_take,List.length_drop];have:=c.1;omega
    obtain⟨j,k,l,m⟩:=ih (a+8+Oct.Bq s a 4) c.1;rw[e];have n:=qU c;refine⟨⟨c.2.2.1,g,by rw[hlen,← Nat.add_assoc];exact j⟩,?_,l,?_⟩
    ·rw[F0,List.length_append,hlen,k];omega
    ·rw[F0,m,← List.append_assoc]
     congr 1
     have i:=congrArg (List.take (a+8+Oct.Bq s a 4)) n;rw[← List.append_assoc,List.take_left' (by rw[List.length_append,List.length_take,hlen];omega)]at i;exact i
   ·have e:Dx s (f+1) a=([],a):=by
     conv=>lhs;unfold Dx
     rw[h];simp only;rw[if_neg g]
    rw[e];exact b
  ·have e:Dx s (f+1) a=([],a):=by
    conv=>lhs;unfold Dx
    rw[Mu c]
   rw[e];exact b
theorem F4.opened {F N:Nat}{d:Dk}(g:d.down=false)(f:Whole d.Ad)(b:F+N≤d.Ad.length):
 (Iq d F N).2=((Dx (Eu F N d) (N*128+1) 0).1,0)∧F4 F N d (Iq d F N).1 (Dx (Eu F N d) (N*128+1) 0).1 []:=by
 have h:=Qk (N:=N) f b;have i:Fh d (F:Int) (N:Int).toNat= .ok (Eu F N d):=by rw[Int.toNat_natCast];exact vE g N F b
 obtain⟨j,a,k,c⟩:=rU (Eu F N d) (N*128+1) 0 (Nat.zero_le _);have e:Iq d F N=(⟨F,N,((Dx (Eu F N d) (N*128+1) 0).2:Int),((Dx (Eu F N d) (N*128+1) 0).2:Int),⟨(((Eu F N d).take (Dx (Eu F N d) (N*128+1) 0).2).drop ((Dx (Eu F N d) (N*128+1) 0).2-(Dx (Eu F N d) (N*128+1) 0).2%128)).toArray⟩⟩,(Dx (Eu F N d) (N*128+1) 0).1,0):=by
  unfold Iq;rw[i];simp only;rw[h]
 rw[e];rw[Nat.zero_add]at a;rw[List.take_zero,List.nil_append]at c;refine⟨rfl,f,b,rfl,rfl,by rw[List.append_nil];exact j,by rw[← a];exact c,by rw[a],by rw[List.append_nil,a],?_,by rw[List.append_nil];omega⟩;rw[List.append_nil,← a,c]
theorem F4.Ai {F N:Nat}{d b:Dk}{g:Lo}{c e:List Rec}(h:F4 F N d g c e)(a:b.Ad=d.Ad):F4 F N b g c e:=
 ⟨by rw[a];exact h.whole,by rw[a];exact h.room,h.hf,h.hn,h.row,by unfold Eu;rw[a];exact h.pre,h.safe,h.end_,h.tail,h.fit⟩
end Lg
namespace Tx
open Rc Lg
def rV (r:Rec):Prop:=1≤r.txn∧1≤r.kind∧r.kind≤7
instance (r:Rec):Decidable (rV r):=by unfold rV;exact inferInstance
def yF (r:Rec)(t:Cw):Cw:=⟨t.txn,r.lsn,if r.kind=1∨r.kind=2 then r.lsn else if r.kind=3∨r.kind=4 then r.next else t.next,if r.kind=5 then true else t.done⟩
def rW:List Cw→Int→Option Nat
 |[],_=>none
 |t::l,n=>if t.txn=n then some 0 else(rW l n).map (·+1)
def Aaw (l:List Cw)(r:Rec):List Cw:=
 if ¬ rV r then l else
 match rW l r.txn with
 |none=>if r.kind=7 then l else l++[yF r ⟨r.txn,0,0,false⟩]
 |some i=>if r.kind=7 then l.take i++l.drop (i+1)else l.take i++yF r (l[i]?.getD ⟨0,0,0,false⟩)::l.drop (i+1)
structure St where
 zlog:Int
 zpages:Int
 zframes:Int
 Ai:Dk
 log:Lo
 hand:Int
 txns:List Cw
 next:Int
def fresh (n:Nat):St:=⟨n,0,0,Kp (n+1),⟨1,n,0,0,⟨#[]⟩⟩,0,[],1⟩
end Tx
namespace Lg
open Rc
theorem manyN (l:List Rec):l.length*8≤(bytes l).length:=by
 induction l with
 |nil=>simp
 |cons r l ih=>rw[F0,List.length_append,Fp,List.length_cons];omega
theorem Sq (n:Nat):Whole (Kp n).Ad:=fun b a=>by
 have:b=Cy:=by
  have h:=List.mem_replicate.1 a;exact h.2
 rw[this];exact J1
theorem F4.gE {F N:Nat}{d0 d:Dk}{g:Lo}{l e:List Rec}(h:F4 F N d0 g l e)(n:e≠[])(o:d.down=true):A4 d g=(d,g,20):=by
 have j:0<(bytes e).length:=Nat.pos_of_ne_zero fun p=>n (Kd p);have f:¬ g.safe=g.end_:=by
  rw[h.safe,h.end_,Ji];omega
 have q:=h.Oi;have c:=h.end_;rw[Ji]at c;have t:0<g.tail.size:=by omega
 have u:=Ho g.tail;have k:0<(F3 g).length:=by
  unfold F3
  split
  ·rw[List.length_append,List.length_singleton];omega
  ·omega
 obtain⟨m,r⟩:∃ m,(F3 g).length=m+1:=⟨(F3 g).length-1,by omega⟩;have s:Ci (g.from_+Lg.F1 g) (F3 g) (F3 g).length d=(d,20):=by
  rw[r];unfold Ci;have i:∀ a b,Cf d a b=(d,20):=fun a b=>by unfold Cf;rw[if_pos o]
  rw[i,if_neg (by show ¬ (20:Int)=0;decide)]
 unfold A4;rw[if_neg f];simp only[s];rw[if_neg (by decide)]
end Lg
namespace Tx
open Rc Lg
def Good (N:Nat)(s:St):Prop:=∃ r1 r2,F4 1 N s.Ai s.log r1 r2∧s.Ai.down=false∧s.Ai.left= -1∧s.Ai.Ad.length=N+1∧Yt (Eu 1 N s.Ai) r1∧(r1++r2).foldl Aaw []=s.txns
def Has (L:List Rec)(x:Int):Prop:=∃ r∈L,r.kind=5∧r.txn=x
theorem Y7 {d:Dk}{g:Lo}(h: -1≤d.left∧d.left≤9223372036854775807): -1≤(A4 d g).1.left∧(A4 d g).1.left≤9223372036854775807:=by
 have key:∀ base all i (d:Dk),-1≤d.left∧d.left≤9223372036854775807→-1≤(Ci base all i d).1.left∧(Ci base all i d).1.left≤9223372036854775807:=by
  intro base all i
  induction i with
  |zero=>intro d h;exact h
  |succ i ih=>
   intro d h;have a: -1≤(Cf d (base+(i:Int)) (all[i]?.getD ⟨#[]⟩)).1.left∧(Cf d (base+(i:Int)) (all[i]?.getD ⟨#[]⟩)).1.left≤9223372036854775807:=by
    unfold Cf
    split
    ·exact h
    ·split
     ·exact h
     ·split
      ·exact h
      ·simp only;split<;>omega
   unfold Ci
   split
   ·exact ih _ a
   ·exact a
 unfold A4
 split
 ·exact h
 ·simp only
  split<;>exact key _ _ _ _ h
end Tx
namespace Lg
open Rc
end Lg
namespace Tx
open Rc Lg
structure yW (s:St):Prop where
 e0:0≤s.log.end_
 e1:s.log.end_≤512000
 t0:(s.log.tail.size:Int)≤s.log.end_
 t1:s.log.end_%128≤(s.log.tail.size:Int)
 f:s.log.from_=1
 n0:0≤s.log.n
 n1:s.log.n≤4000
 s0:0≤s.log.safe
 s1:s.log.safe≤s.log.end_
end Tx
namespace Go.Proofs.YtdfkambdagoojaaGreatDoor
open Go.RowKit
theorem vF:(Tryz.prog.info? 83).map (fun i=>(i.zero,i.size,i.bytes))=some (some (.agg #[(),(),(),false]),4,32):=by kernel_rfl
theorem vG (t:Rc.Cw):∀ u∈P8 t,u.oneCell'=true:=by
 intro u a;simp only[P8,List.mem_cons,List.not_mem_nil,or_false]at a;rcases a with rfl|rfl|rfl|rfl<;>rfl
theorem vH (l:List Rc.Cw):∀ u∈l.flatMap P8,u.oneCell'=true:=by
 intro u a;obtain⟨t,_,b⟩:=List.mem_flatMap.1 a;exact vG t u b
theorem rX {w:World}{B size n c g:Nat}{e:TypeId}{xs:List Value}(h:w.ownsRow B e size (.slice (some ⟨g,0,none⟩) n c) n xs)(j:Nat)(o:j<n*size):
 w.cell? ⟨g,j,none⟩=xs[j]?∧w.frozen? ⟨g,j,none⟩=false∧∀ x,(w.setCell ⟨g,j,none⟩ x).ownsRow B e size (.slice (some ⟨g,0,none⟩) n c) n (xs.set j x):=by
 obtain⟨q,r⟩:=h;rcases r with⟨s,_⟩|⟨z,cap,cur,t,u,f,p,d,k,a⟩
 ·cases s
 ·injection t with b v l
  injection b with b
  injection b with b _ _
  subst b l;have y:n*size≤c*size:=Nat.mul_le_mul_right _ p;refine⟨?_,Aj f j,fun x=>⟨by rw[List.length_set];exact q,.inr ⟨g,c,cur.setIfInBounds j x,rfl,u,Cb j f x,p,d,by rw[Array.size_setIfInBounds];exact k,?_⟩⟩⟩
  ·rw[Aa f j,← a,List.getElem?_take,if_pos o,Array.getElem?_toList]
  ·rw[← a]
   refine List.ext_getElem? fun i=>?_;rw[List.getElem?_set,List.getElem?_take,List.length_take,List.getElem?_take,Array.toList_setIfInBounds,List.getElem?_set];have A:cur.toList.length=cur.size:=by simp
   by_cases m:j=i
   ·subst m
    rw[if_pos rfl,if_pos rfl,if_pos o,if_pos (by omega),if_pos (by omega)]
   ·rw[if_neg m,if_neg m]
theorem Ux {α:Type}{enc:α→List Value}{k:Nat}(c:∀ x,(enc x).length=k):∀ (l:List α) (j f:Nat) (y:α) (x:Value) (hj:j<l.length),f<k→enc y=(enc l[j]).set f x→(l.flatMap enc).set (j*k+f) x=(l.set j y).flatMap enc:=by
 intro l
 induction l with
 |nil=>intro j f y x hj;simp at hj
 |cons a l ih=>
  intro j f y x hj d b
  cases j with
  |zero=>
   simp only[List.getElem_cons_zero]at b;rw[List.flatMap_cons,List.set_cons_zero,List.flatMap_cons,b,Nat.zero_mul,Nat.zero_add,List.set_append_left _ _ (by rw[c];exact d)]
  |succ j=>
   simp only[List.getElem_cons_succ]at b;rw[List.flatMap_cons,List.set_cons_succ,List.flatMap_cons,List.set_append_right _ _ (by rw[c,Nat.succ_mul];omega)]
   congr 1
   rw[show(j+1)*k+f-(enc a).length=j*k+f by rw[c,Nat.succ_mul];omega];exact ih j f y x (by simpa using hj) d b
theorem Y9 {g:Nat}{T:TypeId}{fr:Nat×Nat}:∀ (vs:List Value) (o:Nat) (cs:Array Value) (w:World),w.heap[g]? =some (.cells cs T fr)→∃ cs':Array Value,(w.setCells g o vs).heap[g]? =some (.cells cs' T fr)∧cs'.size=cs.size∧∀ j,cs'[j]? =if o≤j∧j<o+vs.length∧j<cs.size then vs[j-o]? else cs[j]? :=by
 intro vs
 induction vs with
 |nil=>intro o cs w h;exact⟨cs,h,rfl,fun j=>by rw[if_neg (by simp;omega)]⟩
 |cons v vs ih=>
  intro o cs w h;obtain⟨cs',d,f,i⟩:=ih (o+1) _ _ (Cb o h v);refine⟨cs',d,by rw[f,Array.size_setIfInBounds],fun j=>?_⟩;rw[i,Array.size_setIfInBounds,Array.getElem?_setIfInBounds]
  by_cases b:j=o
  ·subst b
   rw[if_neg (by omega),if_pos rfl]
   by_cases a:j<cs.size
   ·rw[if_pos a,if_pos ⟨Nat.le_refl _,by simp,a⟩,Nat.sub_self];rfl
   ·rw[if_neg a,if_neg (by omega),Array.getElem?_eq_none (by omega)]
  ·by_cases c:o+1≤j∧j<o+1+vs.length∧j<cs.size
   ·rw[if_pos c,if_pos (by simp;omega)]
    obtain⟨m,rfl⟩:∃ m,j=o+1+m:=⟨j-(o+1),by omega⟩;rw[show o+1+m-(o+1)=m by omega,show o+1+m-o=m+1 by omega,List.getElem?_cons_succ]
   ·rw[if_neg c,if_neg (fun e=>b e.symm),if_neg (by simp;omega)]
theorem Va {B g:Nat}(a:B≤g):∀ (vs:List Value) (o:Nat) (w:World),Below B w (w.setCells g o vs):=by
 intro vs
 induction vs with
 |nil=>intro o w;exact Below.refl _ _
 |cons v vs b=>
  intro o w;exact((Below.refl B w).setCell (p:=⟨g,o,none⟩) a v).trans (b (o+1) _)
theorem gF (l:List Rc.Cw)(r:l.length≤1000000)(A:Option Addr)(c:Nat)(w:World)(a:tY w A c l):
 Cq 79 #[.slice A l.length c] w fun e w'=>∃ v,e= .returned v∧Ep P8 4 83 w.heap.size w' v l∧Bw w w':=by
 obtain⟨i0,m,d,f,g⟩:=info_parts vF;have n:=Hq a
 cases A with
 |none=>
  have h:l=[]:=by
   rcases Nat.eq_zero_or_pos l.length with i|i
   ·exact List.eq_nil_of_length_eq_zero i
   ·obtain⟨b,off,e,_⟩:=a i
    cases e
  subst h;clear a n;have o:∀ w,(binOp .eql 34 (.slice none 0 c) (.slice none 0 0)).run Tryz.prog w= .ok (.bool true) w:=fun w=>Lib.run_eql_slice_nil w 34 83 none 0 c 0 0 vI;simp only[List.length_nil];go_enter Tryz.func79,Tryz.ntmps79;go_wp2_with fail;go_ret;exact⟨_,rfl,Ml _ _ _ _,Below.refl _ _⟩
 |some ad=>
  have j:=Hq (a.below (Ag w (.cells #[] 83)));have o:∀ w,(binOp .eql 34 (.slice (some ad) l.length c) (.slice none 0 0)).run Tryz.prog w= .ok (.bool false) w:=fun w=>Lib.run_eql_slice_nil w 34 83 (some ad) l.length c 0 0 vI;clear a;go_enter Tryz.func79,Tryz.ntmps79
  go_wp2_with(at_builtin;refine Dr Kr fun K p=>X6 (w.alloc (.cells #[] 83)) (.tmp 5) (.tmp 6) 34 83 i0 (.agg #[(),(),(),false]) 4 32 vI m d f g rfl (by omega) rfl w.heap.size _ 0 [] rfl (aF w 83 4) (some ad) l.length c (l.flatMap P8) rfl j.out (by rw[Dc Ic]) (vH l) (by omega) (by omega) (by simp) ?_;intro v2 s k t q;refine p _ _ ?_)
  go_ret;rw[List.nil_append,Nat.zero_add]at k;exact⟨_,rfl,k,(Ag w (.cells #[] 83)).trans q⟩
end Go.Proofs.YtdfkambdagoojaaGreatDoor
namespace Tx
open Rc
end Tx
namespace Go.Proofs.YtdfkambdagoojaaGreatDoor
open Go.RowKit
theorem gG {w:World}{B g N c:Nat}{M:List Rc.Cw}(h:w.ownsRow B 83 4 (.slice (some ⟨g,0,none⟩) N c) N (M.flatMap P8))(l:M.length=N)(k:Nat)(a:k<M.length)(f:Nat)(b:f<4)(x:Value)(y:Rc.Cw)(d:P8 y=(P8 M[k]).set f x):
 w.cell? ⟨g,k*4+f,none⟩=(P8 M[k])[f]?∧w.frozen? ⟨g,k*4+f,none⟩=false∧(w.setCell ⟨g,k*4+f,none⟩ x).ownsRow B 83 4 (.slice (some ⟨g,0,none⟩) N c) N ((M.set k y).flatMap P8):=by
 obtain⟨e,i,j⟩:=rX h (k*4+f) (by omega);refine⟨by rw[e,Ju Ic M k f a b],i,?_⟩;rw[← Ux Ic M k f y x a b d];exact j x
theorem Za {w:World}{B size n:Nat}{e:TypeId}{v:Value}{xs:List Value}(h:w.ownsRow B e size v n xs)(d:0<n):∃ g c,v= .slice (some ⟨g,0,none⟩) n c∧B≤g:=by
 rcases h.2 with⟨_,f⟩|⟨g,cap,cur,a,b,_⟩
 ·omega
 ·exact⟨g,cap,a,b⟩
end Go.Proofs.YtdfkambdagoojaaGreatDoor
namespace Tx
end Tx
namespace Go.Proofs.YtdfkambdagoojaaGreatDoor
open Go.RowKit
theorem rY {P:Program}{ops:Array Oper}{rest:List Oper}{op:Oper}{a:Act}{w:World}{Q:Exit→Act→World→Prop}(e:Region.wanted op (yielded ops a.tmps)=true)(ty:TypeId)(x:Operand)(f:op.op= .load ty x)
 (b o:Nat) (g:a.eval x= .pointer (some ⟨b,o,none⟩)) (part cells:Array Value) (t:TypeId) (i:w.heap[b]? =some (.cells cells t (0,0))) (k:(cells.toList.drop o).take part.size=part.toList) (d:TypeDesc)
 (l:P.underlying ty=some d) (m:d.isRow=true) (hi:(P.info? ty).map (·.size)=some part.size)
 (h:wpList P ops Q rest (a.put op.dst (.agg part)) w):wpList P ops Q (op::rest) a w:=
 Dr e fun K n=>by
  refine wp_load_mid ty x f b o g part.toList d (fun j v c=>?_) l m (by simpa using hi) ?_
  ·rw[Aa i]
   have p:j<part.size:=(by have:=(List.getElem?_eq_some_iff.1 c).1;simpa using this);rw[← k,List.getElem?_take,if_pos p,List.getElem?_drop,Array.getElem?_toList]at c;exact c
  ·simpa using n _ _ h
theorem lP {P:Program}{ops:Array Oper}{rest:List Oper}{op:Oper}{a:Act}{w:World}{Q:Exit→Act→World→Prop}{ty:TypeId}{x:Operand}{b o:Nat}(part:Array Value){cells:Array Value}{t:TypeId}{d:TypeDesc}(c:w.heap[b]? =some (.cells cells t (0,0)))(e:P.underlying ty=some d)(h:wpList P ops Q rest (a.put op.dst (.agg part)) w)(f:op.op= .load ty x:=by exact rfl)(g:a.eval x= .pointer (some ⟨b,o,none⟩):=by with_unfolding_all exact rfl)(i:Region.wanted op (yielded ops a.tmps)=true:=by kernel_rfl)(j:(cells.toList.drop o).take part.size=part.toList:=by kernel_rfl)(k:d.isRow=true:=by kernel_rfl)(hi:(P.info? ty).map (·.size)=some part.size:=by kernel_rfl):wpList P ops Q (op::rest) a w:=rY i ty x f b o g part cells t c j d e k hi h
theorem vJ {P:Program}{ops:Array Oper}{rest:List Oper}{op:Oper}{a:Act}{w:World}{Q:Exit→Act→World→Prop}(g:Region.wanted op (yielded ops a.tmps)=true)(ty:TypeId)(x y:Operand)(j:op.op= .store ty x y)
 (b o:Nat) (part cur res:Array Value) (t:TypeId) (k:a.eval x= .pointer (some ⟨b,o,none⟩)) (hy:a.eval y= .agg part) (l:w.heap[b]? =some (.cells cur t (0,0))) (m:res=(cur.toList.take o++part.toList++cur.toList.drop (o+part.toList.length)).toArray)
 (e:decide (o+part.toList.length≤cur.size)=true) (hi:(P.info? ty).map (·.size)=some part.size) (n:part.all (·.oneCell')=true) (h:wpList P ops Q rest (a.put op.dst undef) (w.setRow b res)):wpList P ops Q (op::rest) a w:=
 Dr g fun K p=>by
  have c:=run_storeCells_at P b o t part.toList 0 cur w l (by rw[Nat.add_zero];exact of_decide_eq_true e) (fun v q=>(Array.all_eq_true_iff_forall_mem.1 n) v (by simpa using q));rw[Nat.add_zero,← m]at c;have d:(storeVar ty ⟨b,o,none⟩ (.agg part)).run P w= .ok () (w.setRow b res):=by
   cases f:P.info? ty with
   |none=>simp[f]at hi
   |some i=>
    have r:part.size=i.size:=by simp[f]at hi;omega
    simp[storeVar,sizeOf,typeInfo,f,Value.cells,r,c]
  unfold Oper.wp execOp;simp only[j,k,hy,Instr.storeAt,Instr.sureAddr,Sem.run_bind,Sem.run_pure,Result.andThen_ok,d];exact p _ _ h
theorem lU {P:Program}{ops:Array Oper}{rest:List Oper}{op:Oper}{a:Act}{w:World}{Q:Exit→Act→World→Prop}{ty:TypeId}{x y:Operand}{b o:Nat}(part:Array Value){cur:Array Value}(res:Array Value){t:TypeId}(c:w.heap[b]? =some (.cells cur t (0,0)))(h:wpList P ops Q rest (a.put op.dst undef) (w.setRow b res))(d:op.op= .store ty x y:=by exact rfl)(e:a.eval x= .pointer (some ⟨b,o,none⟩):=by with_unfolding_all exact rfl)(hy:a.eval y= .agg part:=by with_unfolding_all exact rfl)(f:Region.wanted op (yielded ops a.tmps)=true:=by kernel_rfl)(g:res=(cur.toList.take o++part.toList++cur.toList.drop (o+part.toList.length)).toArray:=by kernel_rfl)(i:decide (o+part.toList.length≤cur.size)=true:=by kernel_rfl)(hi:(P.info? ty).map (·.size)=some part.size:=by kernel_rfl)(j:part.all (·.oneCell')=true:=by kernel_rfl):wpList P ops Q (op::rest) a w:=vJ f ty x y d b o part cur res t e hy c g i hi j h
structure SP where
 A:Option Addr
 c:Nat
 F:Option Addr
 fn:Nat
 fc:Nat
 T:Option Addr
 tc:Nat
abbrev Ar (s:Tx.St)(p:SP):Value:=.agg #[s.zlog,s.zpages,s.zframes,.slice p.A s.Ai.Ad.length p.c,s.Ai.left,s.Ai.down,s.log.from_,s.log.n,s.log.end_,s.log.safe,s.log.tail,.slice p.F p.fn p.fc,s.hand,.slice p.T s.txns.length p.tc,s.next]
structure Lx (w:World) (s:Tx.St) (p:SP):Prop where
 dk:Dv w s.Ai p.A p.c
 dt:Df 0 w 9 p.A
 tx:tY w p.T p.tc s.txns
 tt:Df 0 w 83 p.T
theorem Lx.below {w w':World}{s:Tx.St}{p:SP}(h:Lx w s p)(a:Bw w w'):Lx w' s p:=⟨h.dk.below a,h.dt.below a,h.tx.below a,h.tt.below a⟩
theorem Lx.other {w:World}{s:Tx.St}{p:SP}(h:Lx w s p){b:Nat}{cur:Array Value}{t:TypeId}{fr:Nat×Nat}(a:w.heap[b]? =some (.cells cur t fr))(c:t≠9)(d:t≠83)(cs:Array Value):Lx (w.setRow b cs) s p:=
 ⟨⟨h.dt.Gf h.dk.secs a c cs,h.dk.small⟩,h.dt.row b cs,h.tt.Gf h.tx a d cs,h.tt.row b cs⟩
theorem Lx.set {w:World}{s:Tx.St}{p:SP}(h:Lx w s p){b:Nat}{cur:Array Value}{t:TypeId}{fr:Nat×Nat}(a:w.heap[b]? =some (.cells cur t fr))(c:t≠9)(d:t≠83)(j:Nat)(v:Value):Lx (w.setCell ⟨b,j,none⟩ v) s p:=by
 rw[setCell_eq_setRow w b j cur t fr v a];exact h.other a c d _
theorem cN (r:Rc.Rec)(w:World)(a:r.txns=[])(b:r.dirty=[]):Hc w r none 0 none 0:=by
 refine⟨?_,?_,by rw[a,b];exact⟨Nat.zero_le _,Nat.zero_le _⟩⟩
 ·rw[a];exact Reads.none_ _ _ _ _
 ·rw[b];exact Reads.none_ _ _ _ _
end Go.Proofs.YtdfkambdagoojaaGreatDoor
namespace Lg
open Rc
structure Al (l:Lo):Prop where
 s0:0≤l.safe
 se:l.safe≤l.end_
 tl:l.end_-(l.tail.size:Int)=l.safe-l.safe%128
theorem F4.al {F N:Nat}{d:Dk}{g:Lo}{a b:List Rec}(h:F4 F N d g a b):Al g:=by
 have c:=h.safe;have e:=h.end_;have i:=Ji a b;have f:g.tail.size=(bytes (a++b)).length-((bytes a).length-(bytes a).length%128):=by
  rw[h.tail]
  show((bytes (a++b)).drop _).toArray.size=_
  rw[List.size_toArray,List.length_drop]
 exact⟨by omega,by omega,by rw[f,e,c];omega⟩
end Lg
namespace Tx
open Rc Lg
theorem nB {l:Lo}(r:Rec)(h:Al l):Al (Bf l r).1:=by
 have c:=h.s0;have f:=h.se;have g:=h.tl
 by_cases a:Bz {r with lsn:=l.end_+1}
 ·by_cases hF:l.n*128-((Co {r with lsn:=l.end_+1}).length:Int)<l.end_
  ·unfold Bf
   simp only;rw[if_neg (fun b=>b a),if_pos hF];exact h
  ·have e:(Bf l r).1={l with end_:=l.end_+((Co {r with lsn:=l.end_+1}).length:Int),tail:=l.tail++⟨(Co {r with lsn:=l.end_+1}).toArray⟩}:=by
    unfold Bf;simp only;rw[if_neg (fun b=>b a),if_neg hF]
   rw[e];have d:(⟨(Co {r with lsn:=l.end_+1}).toArray⟩:ByteArray).size=(Co {r with lsn:=l.end_+1}).length:=(by show(Co {r with lsn:=l.end_+1}).toArray.size=_;simp);refine⟨c,?_,?_⟩
   ·show l.safe≤l.end_+((Co {r with lsn:=l.end_+1}).length:Int);omega
   ·show l.end_+((Co {r with lsn:=l.end_+1}).length:Int)-((l.tail++⟨(Co {r with lsn:=l.end_+1}).toArray⟩).size:Int)=l.safe-l.safe%128
    rw[ByteArray.size_append,d];omega
 ·unfold Bf
  simp only;rw[if_pos a];exact h
end Tx
namespace Go.Proofs.YtdfkambdagoojaaGreatDoor
open Go.RowKit
abbrev Au (s:Tx.St)(p:SP):Array Value:=#[s.zlog,s.zpages,s.zframes,.slice p.A s.Ai.Ad.length p.c,s.Ai.left,s.Ai.down,s.log.from_,s.log.n,s.log.end_,s.log.safe,s.log.tail,.slice p.F p.fn p.fc,s.hand,.slice p.T s.txns.length p.tc,s.next]
structure Fr where
 Ab:Int
 bytes:ByteArray
 pins:Int
 mark:Bool
 rc:Int
def Me (f:Fr):List Value:=[.int .i64 f.Ab,.string f.bytes,.int .i64 f.pins,.bool f.mark,.int .i64 f.rc]
abbrev Gc (f:Fr):Array Value:=#[f.Ab,f.bytes,f.pins,f.mark,f.rc]
theorem E3 (f:Fr):(Me f).length=5:=rfl
theorem vK (f:Fr):∀ u∈Me f,u.oneCell'=true:=by
 intro u a;simp only[Me,List.mem_cons,List.not_mem_nil,or_false]at a;rcases a with rfl|rfl|rfl|rfl|rfl<;>rfl
theorem vL (l:List Fr):∀ u∈l.flatMap Me,u.oneCell'=true:=by
 intro u a;obtain⟨v,_,h⟩:=List.mem_flatMap.1 a;exact vK v u h
theorem kD:(Tryz.prog.info? 95).map (fun i=>(i.zero,i.size,i.bytes))=some (some (.agg #[(),"",(),false,()]),5,48):=by kernel_rfl
theorem Zb:(⟨#[]⟩:ByteArray).toList=[]:=by rw[ByteArray.toList_eq]
theorem rZ {b:ByteArray}(h:b≠⟨#[]⟩):¬ b.toList=[]∧(b.toList==[])=false∧(b.toList==(⟨#[]⟩:ByteArray).toList)=false:=by
 have c:¬ b.toList=[]:=fun a=>h (by
  rw[ByteArray.toList_eq]at a;obtain⟨⟨l⟩⟩:=b;simp only at a;rw[a])
 have d:(b.toList==[])=false:=by simpa using c
 exact⟨c,d,by rw[Zb];exact d⟩
structure Ba (w:World) (s:Tx.St) (p:SP) (fs:List Fr):Prop where
 st:Lx w s p
 fn:p.fn=fs.length
 fr:Reads w p.F p.fc fs.length (fs.flatMap Me)
 ft:Df 0 w 95 p.F
theorem Ba.below {w w':World}{s:Tx.St}{p:SP}{fs:List Fr}(h:Ba w s p fs)(a:Bw w w'):Ba w' s p fs:=⟨h.st.below a,h.fn,h.fr.below a,h.ft.below a⟩
theorem Ba.other {w:World}{s:Tx.St}{p:SP}{fs:List Fr}(h:Ba w s p fs){b:Nat}{cur:Array Value}{t:TypeId}{fr:Nat×Nat}(a:w.heap[b]? =some (.cells cur t fr))(c:t≠9)(d:t≠83)(e:t≠95)(cs:Array Value):Ba (w.setRow b cs) s p fs:=
 ⟨h.st.other a c d cs,h.fn,h.ft.Gf h.fr a e cs,h.ft.row b cs⟩
theorem Mf {B g:Nat}{w u:World}(c:B≤g)(a:Below B w u)(cs:Array Value):Below B w (u.setRow g cs):=
 ⟨a.os,a.tape,a.output,by show _≤(u.heap.modify _ _).size;have:=a.size;simpa using this,fun k b=>by show(u.heap.modify _ _)[k]? =_;rw[Array.getElem?_modify,if_neg (by omega)];exact a.block k b⟩
section
variable {α : Type} {enc : α → List Value} {k : Nat} {e : TypeId} {B g c : Nat} {w : World} {l : List α}
theorem cO (b:∀ x,(enc x).length=k)(l:List α)(i:Nat)(hi:i<l.length)(x:α)(t:Nat):((l.set i x).flatMap enc)[t]? =if i*k≤t∧t<i*k+k then(enc x)[t-i*k]? else(l.flatMap enc)[t]? :=by
 have g:i*k+k≤l.length*k:=by have:=Nat.mul_le_mul_right k (show i+1≤l.length from hi);rwa[Nat.add_mul,Nat.one_mul]at this
 by_cases a:i*k≤t∧t<i*k+k
 ·rw[if_pos a]
  obtain⟨j,rfl⟩:∃ j,t=i*k+j:=⟨t-i*k,by omega⟩;rw[Ju b (l.set i x) i j (by rw[List.length_set];exact hi) (by omega),List.getElem_set_self,Nat.add_sub_cancel_left]
 ·rw[if_neg a]
  by_cases m:t<l.length*k
  ·have c:0<k:=by rcases Nat.eq_zero_or_pos k with h|h;(· subst h;omega);(· exact h)
   have e:t/k<l.length:=(by rw[Nat.div_lt_iff_lt_mul c];exact m);have f:t%k<k:=Nat.mod_lt _ c;have n:t=t/k*k+t%k:=(by rw[Nat.mul_comm];exact(Nat.div_add_mod t k).symm);have d:i≠t/k:=fun h=>a (by rw[h];omega);rw[n,Ju b (l.set i x) (t/k) (t%k) (by rw[List.length_set];exact e) f,Ju b l (t/k) (t%k) e f,List.getElem_set_ne d]
  ·rw[List.getElem?_eq_none (by rw[Dc b,List.length_set];omega),List.getElem?_eq_none (by rw[Dc b];omega)]
theorem Ql (n:Ep enc k e B w (.slice (some ⟨g,0,none⟩) l.length c) l):∃ cur:Array Value,B≤g∧g<w.heap.size∧w.heap[g]? =some (.cells cur e (0,0))∧l.length≤c∧c≤maxLen∧cur.size=c*k∧∀ t,t<l.length*k→cur[t]? =(l.flatMap enc)[t]? :=by
 obtain⟨o,p⟩:=n;rcases p with⟨q,_⟩|⟨v,cap,cur,r,f,m,h,d,i,b⟩
 ·cases q
 injection r with a s j
 injection a with a
 injection a with a _ _
 subst a j;refine⟨cur,f,C8 m,m,h,d,i,fun t u=>?_⟩;rw[← b,List.getElem?_take,if_pos u,Array.getElem?_toList]
theorem gH {cur:Array Value}(b:∀ x,(enc x).length=k)(d:B≤g)(f:w.heap[g]? =some (.cells cur e (0,0)))(i:l.length≤c)(j:c≤maxLen)(m:cur.size=c*k)(h:∀ t,t<l.length*k→cur[t]? =(l.flatMap enc)[t]?):Ep enc k e B w (.slice (some ⟨g,0,none⟩) l.length c) l:=by
 refine⟨Dc b l,.inr ⟨g,c,cur,rfl,d,f,i,j,m,?_⟩⟩;refine List.ext_getElem? fun t=>?_;rw[List.getElem?_take]
 by_cases a:t<l.length*k
 ·rw[if_pos a,Array.getElem?_toList,h t a]
 ·rw[if_neg a,List.getElem?_eq_none (by rw[Dc b];omega)]
theorem vM (b:∀ x,(enc x).length=k)(o:Ep enc k e B w (.slice (some ⟨g,0,none⟩) l.length c) l)(i:Nat)(hi:i<l.length)(x:α):
 w.there g (i*k) k∧Ep enc k e B (w.setCells g (i*k) (enc x)) (.slice (some ⟨g,0,none⟩) (l.set i x).length c) (l.set i x)∧Below B w (w.setCells g (i*k) (enc x)):=by
 obtain⟨cur,f,A,d,m,p,q,r⟩:=Ql o;have s:i*k+k≤l.length*k:=by have:=Nat.mul_le_mul_right k (show i+1≤l.length from hi);rwa[Nat.add_mul,Nat.one_mul]at this
 have u:l.length*k≤c*k:=Nat.mul_le_mul_right _ m;obtain⟨n,v,y,z⟩:=Y9 (enc x) (i*k) cur w d;refine⟨fun j C=>⟨by rw[Aa d,Array.getElem?_eq_getElem (by omega)];rfl,Aj d _⟩,gH b f v (by rw[List.length_set];exact m) p (by rw[y];exact q) (fun t h=>?_),Va f _ _ _⟩;rw[List.length_set]at h;rw[z,cO b l i hi x t,b]
 by_cases a:i*k≤t∧t<i*k+k
 ·rw[if_pos ⟨a.1,a.2,by omega⟩,if_pos a]
 ·rw[if_neg (fun h=>a ⟨h.1,h.2.1⟩),if_neg a,r t h]
end
structure gI (p:ByteArray):Prop where
 is:Bo p=true
 pl:Lw p=p
theorem gI.eq {p:ByteArray}(h:gI p):Hd (Ac p)=p:=(Pk h.is).symm.trans h.pl
theorem gI.size {p:ByteArray}(h:gI p):p.size=512:=Hl h.is
theorem sA {x:Pg.Dg}(d:Pg.Small x)(e:Pg.Bb x.recs≤512)(f:∀ r∈x.recs,r.size≤400)(a:Pg.trim x.recs=x.recs):gI (Hd x)∧Ac (Hd x)=x:=by
 obtain⟨b,g⟩:=Qe d (by rw[a];exact e) f;have c:Ac (Hd x)=x:=by rw[g,a]
 exact⟨⟨b,by rw[Pk b,c]⟩,c⟩
theorem Qm {p:ByteArray}(h:Bo p=true){l:Nat}(a:l<281474976710656):gI (Cj p (l:Int))∧Ac (Cj p (l:Int))=⟨l,(Ac p).kind,(Ac p).link,(Ac p).recs⟩:=by
 obtain⟨c,b,_⟩:=Mc h a;refine⟨⟨c,?_⟩,b⟩;unfold Lw;rw[b];exact Tp h a a
theorem gJ {p:ByteArray}(h:Bo p=true):gI (Lw p)∧Ac (Lw p)=Ac p:=Qm h (I4 p)
theorem kE {p:ByteArray}(h:gI p):Lw (E5 p)=p:=by
 obtain⟨a,b,_⟩:=Ig h.is;rw[Pk a,b,h.eq]
def M7:ByteArray:=⟨(List.replicate 512 0).toArray⟩
theorem nC:Bo M7=false:=by
 have h:Pg.right M7.data.toList=none:=by
  have e:M7.data.toList=List.replicate 512 0:=rfl;rw[e]
  decide+kernel
 unfold Bo;rw[h];rfl
theorem Xe {p:ByteArray}(h:Bo p=true):E5 p≠M7:=fun e=>by
 have a:=(Ig h).1;rw[e,nC]at a
 cases a
theorem Qn (k:Nat)(a:k≤4):gI (Gj k)∧Ac (Gj k)=⟨0,k,0,[]⟩:=by
 have e:Gj (k:Int)=Hd ⟨0,k,0,[]⟩:=by unfold Gj;rw[if_neg (by omega)];rfl
 rw[e];exact sA ⟨by show 0<281474976710656;omega,a,by show 0<16777216;omega⟩ (by show 19≤512;omega) (fun r h=>by cases h) (Pg.Ga fun r h=>by cases h)
end Go.Proofs.YtdfkambdagoojaaGreatDoor
namespace Ck
open Lg
open Rc
theorem sB {N:Nat}{l:List ByteArray}{i:Nat}(hi:i=0∨1+N≤i)(b:ByteArray)(a:Int)(dn:Bool)(d:Dk)(c:d.Ad=l):Eu 1 N ⟨l.set i b,a,dn⟩=Eu 1 N d:=by
 unfold Eu;simp only;rw[c]
 congr 1
 apply List.ext_getElem?
 intro j;rw[List.getElem?_take,List.getElem?_take]
 split
 ·rw[List.getElem?_drop,List.getElem?_drop,List.getElem?_set_ne (by omega)]
 ·rfl
theorem nD {l:List ByteArray}(h:Whole l)(i:Nat){b:ByteArray}(c:b.size=128):Whole (l.set i b):=fun x d=>by
 rcases List.mem_or_eq_of_mem_set d with a|a
 ·exact h x a
 ·rw[a];exact c
theorem Mz (d:Dk)(a:Int)(b:ByteArray):Cf d a b=(d,20)∧d.down=true∨d.down=false∧(Cf d a b=(d,1)∨(Hi d a∧b.size=128∧((d.left=0∧Cf d a b=({d with down:=true},20))∨(d.left≠0∧Cf d a b=(⟨d.Ad.set a.toNat b,if 0<d.left then d.left-1 else d.left,false⟩,0))))):=by
 unfold Cf
 cases f:d.down with
 |true=>exact .inl ⟨by simp,rfl⟩
 |false=>
  refine .inr ⟨rfl,?_⟩
  by_cases c:Hi d a∧b.size=128
  ·refine .inr ⟨c.1,c.2,?_⟩
   by_cases e:d.left=0
   ·exact .inl ⟨e,by simp[c,e]⟩
   ·exact .inr ⟨e,by simp[c,e]⟩
  ·exact .inl (by simp[c])
theorem F4.out {N:Nat}{d a:Dk}{g:Lo}{b c:List Rec}(h:F4 1 N d g b c)(e:Whole a.Ad)(f:a.Ad.length=d.Ad.length)(i:Eu 1 N a=Eu 1 N d):F4 1 N a g b c:=
 ⟨e,by rw[f];exact h.room,h.hf,h.hn,h.row,by rw[i];exact h.pre,h.safe,h.end_,h.tail,h.fit⟩
structure Br (N:Nat) (d:Dk) (g:Lo):Prop where
 whole:Whole d.Ad
 len:d.Ad.length=N+17
 up:d.down=false
 left:d.left= -1
 inv:∃ r1 r2,F4 1 N d g r1 r2
theorem Br.force {N:Nat}{d:Dk}{g:Lo}{a b:List Rec}(h:F4 1 N d g a b)(e:d.down=false)(c:d.left= -1):
 (A4 d g).2.2=0∧F4 1 N (A4 d g).1 (A4 d g).2.1 (a++b) []∧(A4 d g).1.down=false∧(A4 d g).1.left= -1∧(A4 d g).1.Ad.length=d.Ad.length:=by
 rcases h.force e (by omega)with⟨f,a2,a3,_,a5,i,_,_⟩|⟨_,_,_,a4,_⟩
 ·exact⟨f,a2,a3,a5 c,i⟩
 ·exact absurd c a4
theorem gK (base:Int)(all:List ByteArray)(j:Nat):∀ (i:Nat) (d:Dk),0≤base→base+(i:Int)≤(j:Int)→(Ci base all i d).1.Ad[j]? =d.Ad[j]? :=by
 intro i
 induction i with
 |zero=>intro d _ _;rfl
 |succ i ih=>
  intro d c f;have a:∀ b,(Cf d (base+(i:Int)) b).1.Ad[j]? =d.Ad[j]? :=fun b=>by
   rcases Mz d (base+(i:Int)) b with⟨e,_⟩|⟨_,e|⟨_,_,⟨_,e⟩|⟨_,e⟩⟩⟩<;>rw[e]
   show(d.Ad.set (base+(i:Int)).toNat b)[j]? =_
   rw[List.getElem?_set_ne (by omega)]
  unfold Ci
  split
  ·rw[ih _ c (by omega)];exact a _
  ·exact a _
theorem nE {N:Nat}{d:Dk}{g:Lo}{c a:List Rec}(h:F4 1 N d g c a)(j:Nat)(k:1+N≤j):(A4 d g).1.Ad[j]? =d.Ad[j]? :=by
 by_cases b:a=[]
 ·have e:A4 d g=(d,g,0):=by unfold A4;rw[if_pos (by rw[h.safe,h.end_,b,List.append_nil])]
  rw[e]
 ·obtain⟨n,f,_⟩:=h.yE b
  have l:=f.fits;have m:=h.F1;have i:=h.hf;unfold A4
  split
  ·rfl
  ·simp only
   split<;>exact gK _ _ _ _ _ (by omega) (by omega)
end Ck
namespace Sc
open Rc Lg Ck
structure Pw (N M:Nat) (d:Dk) (g:Lo):Prop where
 whole:Whole d.Ad
 len:d.Ad.length=M
 room:1+N≤M
 up:d.down=false
 left:d.left= -1
 inv:∃ r1 r2,F4 1 N d g r1 r2
theorem yX (N M:Nat)(h:1+N≤M):Pw N M (Kp M) ⟨1,N,0,0,⟨#[]⟩⟩:=by
 have b:(Kp M).Ad.length=M:=by show(List.replicate M Cy).length=_;rw[List.length_replicate]
 have a:Whole (Kp M).Ad:=Sq _;exact⟨a,b,h,rfl,rfl,[],[],F4.new (F:=1) a (by omega)⟩
theorem Pw.put {N M:Nat}{d:Dk}{g:Lo}(h:Pw N M d g)(r:Rec)(f:Bz {r with lsn:=g.end_+1})(q:g.end_+((Co {r with lsn:=g.end_+1}).length:Int)≤(N:Int)*128):
 ∃ g2,Bf g r=(g2,g.end_+1,0)∧Pw N M d g2∧g2.end_=g.end_+((Co {r with lsn:=g.end_+1}).length:Int):=by
 obtain⟨i,j,k,l,m,s,t,c⟩:=h;have u:=c.hn;have n:=c.append r;have e:Bf g r=((Bf g r).1,g.end_+1,0)∧(Bf g r).1.end_=g.end_+((Co {r with lsn:=g.end_+1}).length:Int):=by
  unfold Bf;simp only;rw[if_neg (fun o=>o f),if_neg (by omega)];exact⟨rfl,rfl⟩
 rcases n with b|b|⟨_,p⟩
 ·have a:=e.1;rw[b]at a;have:=congrArg (fun x=>x.2.2) a;simp at this
 ·have a:=e.1;rw[b]at a;have:=congrArg (fun x=>x.2.2) a;simp at this
 ·exact⟨_,e.1,⟨i,j,k,l,m,_,_,p⟩,e.2⟩
theorem Pw.force {N M:Nat}{d:Dk}{g:Lo}(h:Pw N M d g):∃ d2 g2,A4 d g=(d2,g2,0)∧Pw N M d2 g2∧g2.end_=g.end_∧∀ j,1+N≤j→d2.Ad[j]? =d.Ad[j]? :=by
 obtain⟨l,c,e,f,i,m,n,b⟩:=h;obtain⟨k,a2,a3,a4,a5⟩:=Br.force b f i;have a:=nE b;refine⟨_,_,by rw[← k],⟨a2.whole,a5.trans c,e,a3,a4,_,_,a2⟩,?_,a⟩;rw[a2.end_,b.end_,List.append_nil]
theorem Pw.write {N M:Nat}{d:Dk}{g:Lo}(h:Pw N M d g){i:Nat}{b:ByteArray}(c:b.size=128)(hi:1+N≤i)(k:i<M):
 Cf d (i:Int) b=({d with Ad:=d.Ad.set i b},0)∧Pw N M {d with Ad:=d.Ad.set i b} g:=by
 obtain⟨l,e,m,f,a,n,o,p⟩:=h;have q:Hi d (i:Int):=⟨by omega,by rw[e];omega⟩;refine⟨?_,?_⟩
 ·unfold Cf
  rw[if_neg (by rw[f];decide),if_neg (fun r=>r ⟨q,c⟩),if_neg (by rw[a];decide)];rw[show(if 0<d.left then d.left-1 else d.left)=d.left from by rw[a];rfl]
  rfl
 ·have s:Eu 1 N ⟨d.Ad.set i b,d.left,d.down⟩=Eu 1 N d:=sB (.inr hi) b _ _ d rfl
  have j:=nD l i c;exact⟨j,by show(d.Ad.set i b).length=M;rw[List.length_set];exact e,m,f,a,n,o,F4.out p j (by show(d.Ad.set _ _).length=_;rw[List.length_set]) s⟩
def Gm (d:Dk)(a:Nat):ByteArray:=⟨(flat ((d.Ad.drop a).take 4)).toArray⟩
theorem Oj {d b:Dk}{a:Nat}(h:∀ j,a≤j→j<a+4→b.Ad[j]? =d.Ad[j]?):Gm b a=Gm d a:=by
 have e:(b.Ad.drop a).take 4=(d.Ad.drop a).take 4:=by
  apply List.ext_getElem?
  intro j;rw[List.getElem?_take,List.getElem?_take]
  split
  ·rw[List.getElem?_drop,List.getElem?_drop];exact h _ (by omega) (by omega)
  ·rfl
 unfold Gm;rw[e]
theorem Xf (b:ByteArray)(i n:Nat):(b.extract i (i+n)).data.toList=(b.data.toList.drop i).take n:=by
 rw[ByteArray.data_extract,Array.toList_extract,List.extract_eq_take_drop]
 congr 1
 omega
def F8 (b:ByteArray)(i:Nat):ByteArray:=b.extract (i*128) (i*128+128)
theorem Hr {b:ByteArray}(a:b.size=512){i:Nat}(hi:i<4):(F8 b i).size=128:=by
 unfold F8;rw[ByteArray.size_extract];omega
def gL (d:Dk)(a:Nat)(b:ByteArray):Dk:={d with Ad:=(((d.Ad.set a (F8 b 0)).set (a+1) (F8 b 1)).set (a+2) (F8 b 2)).set (a+3) (F8 b 3)}
theorem vN {d:Dk}{a:Nat}{b:ByteArray}(c:b.size=512)(m:a+4≤d.Ad.length):Gm (gL d a b) a=b:=by
 have e:((gL d a b).Ad.drop a).take 4=[F8 b 0,F8 b 1,F8 b 2,F8 b 3]:=by
  apply List.ext_getElem?
  intro j;rw[List.getElem?_take]
  split
  ·rename_i n
   rw[List.getElem?_drop];unfold gL;have:j=0∨j=1∨j=2∨j=3:=(by omega);rcases this with rfl|rfl|rfl|rfl
   ·rw[List.getElem?_set_ne (by omega),List.getElem?_set_ne (by omega),List.getElem?_set_ne (by omega),Nat.add_zero,List.getElem?_set_self (by omega)];rfl
   ·rw[List.getElem?_set_ne (by omega),List.getElem?_set_ne (by omega),List.getElem?_set_self (by rw[List.length_set];omega)];rfl
   ·rw[List.getElem?_set_ne (by omega),List.getElem?_set_self (by rw[List.length_set,List.length_set];omega)];rfl
   ·rw[List.getElem?_set_self (by rw[List.length_set,List.length_set,List.length_set];omega)];rfl
  ·rw[List.getElem?_eq_none (by simp;omega)]
 unfold Gm;rw[e];have f:b.data.toList.length=512:=by simpa using c
 apply ByteArray.ext
 apply Array.toList_inj.1
 show flat [F8 b 0,F8 b 1,F8 b 2,F8 b 3]=b.data.toList
 unfold flat F8;simp only[List.flatMap_cons,List.flatMap_nil,List.append_nil,Xf];generalize b.data.toList=l at f;have g:l=l.take 128++l.drop 128:=(List.take_append_drop 128 l).symm;have h:l.drop 128=(l.drop 128).take 128++l.drop 256:=by
  have:=(List.take_append_drop 128 (l.drop 128)).symm
  rwa[List.drop_drop]at this
 have i:l.drop 256=(l.drop 256).take 128++l.drop 384:=by
  have:=(List.take_append_drop 128 (l.drop 256)).symm
  rwa[List.drop_drop]at this
 have k:l.drop 384=(l.drop 384).take 128:=(List.take_of_length_le (by rw[List.length_drop];omega)).symm
 show l.take 128++((l.drop 128).take 128++((l.drop 256).take 128++(l.drop 384).take 128))=l
 rw[← k,← i,← h,← g]
theorem Pw.Ab {N M:Nat}{d:Dk}{g:Lo}(h:Pw N M d g){a:Nat}{b:ByteArray}(c:b.size=512)(e:1+N≤a)(f:a+4≤M):Pw N M (gL d a b) g:=by
 have j:=(h.write (Hr c (i:=0) (by omega)) e (by omega)).2;have k:=(j.write (Hr c (i:=1) (by omega)) (i:=a+1) (by omega) (by omega)).2;have l:=(k.write (Hr c (i:=2) (by omega)) (i:=a+2) (by omega) (by omega)).2;exact(l.write (Hr c (i:=3) (by omega)) (i:=a+3) (by omega) (by omega)).2
theorem nF {d:Dk}{a:Nat}(b:a+4≤d.Ad.length):Gm d a=((d.Ad[a]++d.Ad[a+1])++d.Ad[a+2])++d.Ad[a+3]:=by
 have e:(d.Ad.drop a).take 4=[d.Ad[a],d.Ad[a+1],d.Ad[a+2],d.Ad[a+3]]:=by
  apply List.ext_getElem?
  intro j;rw[List.getElem?_take]
  split
  ·rw[List.getElem?_drop]
   have:j=0∨j=1∨j=2∨j=3:=(by omega);rcases this with rfl|rfl|rfl|rfl<;>rw[List.getElem?_eq_getElem (by omega)]<;>rfl
  ·rw[List.getElem?_eq_none (by simp;omega)]
 unfold Gm;rw[e]
 apply ByteArray.ext
 apply Array.toList_inj.1
 unfold flat
 simp
end Sc
namespace Go.Proofs.YtdfkambdagoojaaGreatDoor
open Go.RowKit Sc
theorem Aby:Rc.num 0:=⟨by decide,by decide⟩
abbrev Full (f:Fr):Prop:=f.bytes≠⟨#[]⟩
structure FrO (n:Nat) (fs:List Fr) (C:Nat→ByteArray):Prop where
 at_:∀ i (hi:i<fs.length),Full fs[i]→∃ p:Nat,p<n∧fs[i].Ab=(p:Int)∧fs[i].bytes=C p
 ds:∀ i j (hi:i<fs.length) (hj:j<fs.length),i≠j→Full fs[i]→Full fs[j]→fs[i].Ab≠fs[j].Ab
 pin:∀ i (hi:i<fs.length),fs[i].pins=0
 rc:∀ i (hi:i<fs.length),Rc.num fs[i].rc
 sz:∀ i (hi:i<fs.length),fs[i].bytes.size≤512
def J4 (fs:List Fr)(p:Nat):Prop:=∃ i,∃ h:i<fs.length,Full fs[i]∧fs[i].Ab=(p:Int)∧fs[i].rc≠0
theorem Ku (fs:List Fr)(k:Nat)(f:Fr)(i:Nat)(hi:i<(fs.set k f).length):(i=k∧(fs.set k f)[i]=f)∨(i≠k∧∃ hi':i<fs.length,(fs.set k f)[i]=fs[i]):=by
 rw[List.getElem_set]
 by_cases e:k=i
 ·rw[if_pos e];exact .inl ⟨e.symm,rfl⟩
 ·rw[if_neg e];exact .inr ⟨fun h=>e h.symm,by simpa using hi,rfl⟩
theorem J4.set {fs:List Fr}{k:Nat}{f:Fr}{p:Nat}(j:k<fs.length)(h:J4 fs p)(d:Full fs[k]→fs[k].Ab=(p:Int)→fs[k].rc≠0→Full f∧f.Ab=(p:Int)∧f.rc≠0):J4 (fs.set k f) p:=by
 obtain⟨i,g,a,b,c⟩:=h;refine⟨i,by rw[List.length_set];exact g,?_⟩;rw[List.getElem_set]
 split
 ·rename_i e;subst e;exact d a b c
 ·exact⟨a,b,c⟩
def Lay (N:Nat)(d:Lg.Dk)(p:Nat)(b:ByteArray):Prop:=Gm d (1+N+4*p)=E5 b∨(Gm d (1+N+4*p)=M7∧b=Gj (0:Nat))
structure PI (N n:Nat) (s:Tx.St) (fs:List Fr) (C:Nat→ByteArray):Prop where
 zl:s.zlog=(N:Int)
 zp:s.zpages=(n:Int)
 n1:1≤n∧n≤60∧N≤3000
 pw:Pw N (1+N+4*n) s.Ai s.log
 nf:1≤fs.length∧fs.length≤64
 hd:0≤s.hand∧s.hand≤64
 fr:FrO n fs C
 nm:∀ p,p<n→gI (C p)
 dk:∀ p,p<n→¬ J4 fs p→Lay N s.Ai p (C p)
def Qo (p:Prop)(w:World)(e:Ending)(w':World):Prop:=∃ b:Bool,e= .returned (.bool b)∧(b=true↔p)∧Bw w w'
def Je {α:Type}(P:α→Prop)(l:List α)(w:World)(e:Ending)(w':World):Prop:=
 ∃ k:Int,e= .returned (.int .i64 k)∧((k= -1∧∀ x∈l,¬ P x)∨∃ (i:Nat) (h:i<l.length),k=(i:Int)∧P l[i]∧∀ j (hj:j<i),¬ P (l[j]'(by omega)))∧Bw w w'
theorem cP {α:Type}{P:α→Prop}{l:List α}{w w':World}(h:∀ j (hj:j<l.length),¬ P l[j])(a:Bw w w'):Je P l w (.returned (.int .i64 (-1))) w':=
 ⟨-1,rfl,.inl ⟨rfl,fun x b=>by obtain⟨j,hj,rfl⟩:=List.getElem_of_mem b;exact h j hj⟩,a⟩
theorem Xg {α:Type}{P:α→Prop}{l:List α}{w w':World}{k:Nat}(a:k<l.length)(b:P l[k])(h:∀ j (hj:j<l.length),j<k→¬ P l[j])(c:Bw w w'):Je P l w (.returned (.int .i64 (k:Int))) w':=
 ⟨(k:Int),rfl,.inr ⟨k,a,rfl,b,fun j hj=>h j (by omega) hj⟩,c⟩
theorem Vb (P:Fr→Prop)(g:Nat)(L:Array Value)(eg:∀ args w,(callFunc g args).run Tryz.prog w= .ok (.enter g args) w)(l:List Fr)(hl:l.length≤140737488355328)(A:Option Addr)(c:Nat)(w:World)(M:Reads w A c l.length (l.flatMap Me))
 (N:∀ x∈l,∀ W,Bw w W→Cq g (#[.agg (Gc x)]++L) W (Qo (P x) W)):
 Cq 52 #[.slice A l.length c,.func (.func g) #[] L] w (Je P l w):=by
 have T:=Hq M;have U:=Hq N;have u:=Hq (fun h w' I=>cP (P:=P) (l:=l) (w:=w) (w':=w') h I);have m:=Hq (fun k O n h w' I=>Xg (P:=P) (l:=l) (w:=w) (w':=w') (k:=k) O n h I);generalize Je P l w=Q at u m ⊢;clear M N;go_enter Tryz.func52,Tryz.ntmps52;go_wp2_with fail
 go_loopw [8] (fun i wr=>∃ k:Nat,k≤l.length∧i= .int .i64 k∧(∀ j (v:j<l.length),j<k→¬ P l[j])∧Bw w wr) (fun i _=>l.length-(intOf i).toNat)
 case atStart=>exact⟨0,Nat.zero_le _,rfl,fun _ _ h=>absurd h (by omega),Below.refl _ _⟩
 case round=>
  obtain⟨k,O,rfl,o,d⟩:=hrel;have C:=Hq o;clear o
  by_cases p:k<l.length
  ·obtain⟨b,off,rfl,y,V,a⟩:=Cv E3 (T.out.below d) p
   have R:=Hq (fun n=>m.out k p n C.out);have S:=Hq (show ¬ P l[k]→∀ j (v:j<l.length),j<k+1→¬ P l[j]from fun h j v J=>by
    rcases Nat.lt_or_eq_of_le (Nat.le_of_lt_succ J)with K|K
    ·exact C.out j v K
    ·subst K;exact h)
   have r:=U.out l[k] (List.getElem_mem p) wr d;generalize l[k]=x at a R S r;obtain⟨D,E,F,G,H⟩:=x;have f:=Hq (show wr.rangeAt b (off+k*5) [.int .i64 D,.string E,.int .i64 F,.bool G,.int .i64 H]from a);have s:=Hq r;clear a C r;dsimp only[Gc]at s;have X:(0:Int)≤(k:Int):=(by omega);have Y:(k:Int)<(l.length:Int):=(by omega);have Z:IntKind.i64.wrap ((k:Int)+1)=(k:Int)+1:=IntWalk.i64_in _ (by omega)
   by_cases n:P ⟨D,E,F,G,H⟩
   ·have z:=Hq n
    clear n y
    go_wp2_with(first
     |with_reducible refine wpList_load_mid rfl 95 (.tmp 14) rfl b (off+k*5) rfl [.int .i64 D,.string E,.int .i64 F,.bool G,.int .i64 H] _ f.out J5 Kr Kr ?_
     |(go_at_fn g;(with_reducible refine s.out.mono ?_);rintro e w2 ⟨q,rfl,B,t⟩;obtain rfl:q=true:=B.2 z.out;clear B))
    exact R.out z.out _ (Af d t)
   ·have z:=Hq n
    clear n y
    go_wp2_with(first
     |with_reducible refine wpList_load_mid rfl 95 (.tmp 14) rfl b (off+k*5) rfl [.int .i64 D,.string E,.int .i64 F,.bool G,.int .i64 H] _ f.out J5 Kr Kr ?_
     |(go_at_fn g;(with_reducible refine s.out.mono ?_);rintro e w2 ⟨q,rfl,B,t⟩;obtain rfl:q=false:=(by cases q with|true=>exact absurd (B.1 rfl) z.out|false=>rfl);clear B))
    go_roundw
    case rel=>exact⟨k+1,by omega,by go_num,S.out z.out,Af d t⟩
    case measure=>simp[intOf];omega
  ·have HF:=Hq (u.out (fun j v=>C.out j v (by omega)) _ d)
   go_wp2_with fail;exact HF.out
abbrev yY (t:Rc.Cw):Array Value:=#[t.txn,t.last,t.next,t.done]
theorem gM (P:Rc.Cw→Prop)(g:Nat)(K:Array Value)(eg:∀ args w,(callFunc g args).run Tryz.prog w= .ok (.enter g args) w)(l:List Rc.Cw)(hl:l.length≤140737488355328)(A:Option Addr)(c:Nat)(w:World)(L:Reads w A c l.length (l.flatMap P8))
 (M:∀ x∈l,∀ W,Bw w W→Cq g (#[.agg (yY x)]++K) W (Qo (P x) W)):
 Cq 76 #[.slice A l.length c,.func (.func g) #[] K] w (Je P l w):=by
 have S:=Hq L;have T:=Hq M;have u:=Hq (fun h w' H=>cP (P:=P) (l:=l) (w:=w) (w':=w') h H);have m:=Hq (fun k N n h w' H=>Xg (P:=P) (l:=l) (w:=w) (w':=w') (k:=k) N n h H);generalize Je P l w=Q at u m ⊢;clear L M;go_enter Tryz.func76,Tryz.ntmps76;go_wp2_with fail
 go_loopw [8] (fun i wr=>∃ k:Nat,k≤l.length∧i= .int .i64 k∧(∀ j (v:j<l.length),j<k→¬ P l[j])∧Bw w wr) (fun i _=>l.length-(intOf i).toNat)
 case atStart=>exact⟨0,Nat.zero_le _,rfl,fun _ _ h=>absurd h (by omega),Below.refl _ _⟩
 case round=>
  obtain⟨k,N,rfl,o,d⟩:=hrel;have C:=Hq o;clear o
  by_cases p:k<l.length
  ·obtain⟨b,off,rfl,y,U,a⟩:=Cv Ic (S.out.below d) p
   have O:=Hq (fun n=>m.out k p n C.out);have R:=Hq (show ¬ P l[k]→∀ j (v:j<l.length),j<k+1→¬ P l[j]from fun h j v I=>by
    rcases Nat.lt_or_eq_of_le (Nat.le_of_lt_succ I)with J|J
    ·exact C.out j v J
    ·subst J;exact h)
   have r:=T.out l[k] (List.getElem_mem p) wr d;generalize l[k]=x at a O R r;obtain⟨D,E,F,G⟩:=x;have f:=Hq (show wr.rangeAt b (off+k*4) [.int .i64 D,.int .i64 E,.int .i64 F,.bool G]from a);have s:=Hq r;clear a C r;dsimp only[yY]at s;have V:(0:Int)≤(k:Int):=(by omega);have X:(k:Int)<(l.length:Int):=(by omega);have Y:IntKind.i64.wrap ((k:Int)+1)=(k:Int)+1:=IntWalk.i64_in _ (by omega)
   by_cases n:P ⟨D,E,F,G⟩
   ·have z:=Hq n
    clear n y
    go_wp2_with(first
     |with_reducible refine wpList_load_mid rfl 83 (.tmp 14) rfl b (off+k*4) rfl [.int .i64 D,.int .i64 E,.int .i64 F,.bool G] _ f.out lR Kr Kr ?_
     |(go_at_fn g;(with_reducible refine s.out.mono ?_);rintro e Z ⟨q,rfl,B,t⟩;obtain rfl:q=true:=B.2 z.out;clear B))
    exact O.out z.out _ (Af d t)
   ·have z:=Hq n
    clear n y
    go_wp2_with(first
     |with_reducible refine wpList_load_mid rfl 83 (.tmp 14) rfl b (off+k*4) rfl [.int .i64 D,.int .i64 E,.int .i64 F,.bool G] _ f.out lR Kr Kr ?_
     |(go_at_fn g;(with_reducible refine s.out.mono ?_);rintro e Z ⟨q,rfl,B,t⟩;obtain rfl:q=false:=(by cases q with|true=>exact absurd (B.1 rfl) z.out|false=>rfl);clear B))
    go_roundw
    case rel=>exact⟨k+1,by omega,by go_num,R.out z.out,Af d t⟩
    case measure=>simp[intOf];omega
  ·have HF:=Hq (u.out (fun j v=>C.out j v (by omega)) _ d)
   go_wp2_with fail;exact HF.out
theorem Vc (l:List Fr)(r:l.length≤1000000)(A:Option Addr)(c:Nat)(w:World)(a:Reads w A c l.length (l.flatMap Me)):
 Cq 126 #[.slice A l.length c] w fun e w'=>∃ v,e= .returned v∧Ep Me 5 95 w.heap.size w' v l∧Bw w w':=by
 obtain⟨i0,m,d,f,g⟩:=info_parts kD;have n:=Hq a
 cases A with
 |none=>
  have h:l=[]:=by
   rcases Nat.eq_zero_or_pos l.length with i|i
   ·exact List.eq_nil_of_length_eq_zero i
   ·obtain⟨b,off,e,_⟩:=a i
    cases e
  subst h;clear a n;have o:∀ w,(binOp .eql 31 (.slice none 0 c) (.slice none 0 0)).run Tryz.prog w= .ok (.bool true) w:=fun w=>Lib.run_eql_slice_nil w 31 95 none 0 c 0 0 yZ;simp only[List.length_nil];go_enter Tryz.func126,Tryz.ntmps126;go_wp2_with fail;go_ret;exact⟨_,rfl,Ml _ _ _ _,Below.refl _ _⟩
 |some ad=>
  have j:=Hq (a.below (Ag w (.cells #[] 95)));have o:∀ w,(binOp .eql 31 (.slice (some ad) l.length c) (.slice none 0 0)).run Tryz.prog w= .ok (.bool false) w:=fun w=>Lib.run_eql_slice_nil w 31 95 (some ad) l.length c 0 0 yZ;clear a;go_enter Tryz.func126,Tryz.ntmps126
  go_wp2_with(at_builtin;refine Dr Kr fun K p=>X6 (w.alloc (.cells #[] 95)) (.tmp 5) (.tmp 6) 31 95 i0 (.agg #[(),"",(),false,()]) 5 48 yZ m d f g rfl (by omega) rfl w.heap.size _ 0 [] rfl (aF w 95 5) (some ad) l.length c (l.flatMap Me) rfl j.out (by rw[Dc E3]) (vL l) (by omega) (by omega) (by simp) ?_;intro v2 s k t q;refine p _ _ ?_)
  go_ret;rw[List.nil_append,Nat.zero_add]at k;exact⟨_,rfl,k,(Ag w (.cells #[] 95)).trans q⟩
theorem Sr (s:Tx.St)(p:SP)(N n:Nat)(b:s.zlog=(N:Int))(j:N≤3000)(k:n≤1000)(w:World):
 Cr 130 #[Ar s p,.int .i64 (n:Int)] w (.int .i64 ((1+N+4*n:Nat):Int)):=by
 have e:IntKind.i64.wrap (1+(N:Int))=1+(N:Int):=IntWalk.i64_in _ (by omega);have f:IntKind.i64.wrap (4*(n:Int))=4*(n:Int):=IntWalk.i64_in _ (by omega);have g:IntKind.i64.wrap (1+(N:Int)+4*(n:Int))=1+(N:Int)+4*(n:Int):=IntWalk.i64_in _ (by omega);have h:=Hq b;clear b;go_enter Tryz.func130,Tryz.ntmps130;go_upto_region 1 with fail;have c:=Hq (heap_alloc_new w (.cells (Au s p) 36));have d:=Hq (Ag w (.cells (Au s p) 36));obtain⟨i,a⟩:=ex (w.alloc (.cells (Au s p) 36));rw[← a]at c d ⊢;clear a;have l:=show i.cell? ⟨w.heap.size,0,none⟩=some (.int .i64 (N:Int))from by rw[Aa c.out];show some (Value.int .i64 s.zlog)=_;rw[h.out]
 go_wp2_with fail;go_ret;exact⟨congrArg (fun x=>Ending.returned (.int .i64 x)) (by omega),d.out⟩
theorem Ny (s:Tx.St)(p:SP)(n:Nat)(d:s.zpages=(n:Int))(x:Int)(w:World):
 Cr 65 #[Ar s p,x] w (.bool (decide (0≤x∧x<(n:Int)))):=by
 have f:=Hq d;clear d;have g:=Hq (heap_alloc_new w (.cells (Au s p) 36));have c:=Hq (Ag w (.cells (Au s p) 36));have e:=Hq (show(w.alloc (.cells (Au s p) 36)).cell? ⟨w.heap.size,1,none⟩=some (.int .i64 (n:Int))from by rw[Aa g.out];show some (Value.int .i64 s.zpages)=_;rw[f.out])
 by_cases a:0≤x
 ·by_cases b:x<(n:Int)
  ·rw[decide_eq_true (show 0≤x∧x<(n:Int)from⟨a,b⟩)]
   go_enter Tryz.func65,Tryz.ntmps65;go_upto_region 1 with fail;have i:=e.out;go_wp2_with fail;go_ret;exact⟨by simp[a,b],c.out⟩
  ·rw[decide_eq_false (show ¬ (0≤x∧x<(n:Int))from fun h=>b h.2)]
   go_enter Tryz.func65,Tryz.ntmps65;go_upto_region 1 with fail;have i:=e.out;go_wp2_with fail;go_ret;exact⟨by simp[a,b],c.out⟩
 ·rw[decide_eq_false (show ¬ (0≤x∧x<(n:Int))from fun h=>a h.1)]
  go_enter Tryz.func65,Tryz.ntmps65;go_upto_region 1 with fail;go_wp2_with fail;go_ret;exact⟨by simp[a],c.out⟩
theorem Xh (b:ByteArray)(f:b.size≤140737488355328)(w:World):
 Cr 120 #[b] w (.string (Lw b)):=by
 have g:=Hq (fun W=>Yi b f W);have a:=Hq (fun W=>show Cr 71 #[b,.int .i64 ((Ac b).lsn:Nat)] W (.string (Lw b)) from Kj b ((Ac b).lsn:Nat) f W);generalize Lw b=q at a ⊢;generalize ((Ac b).lsn:Nat)=l at g a;go_enter Tryz.func120,Tryz.ntmps120
 go_wp2_with(first
  |(go_at_call 68;(with_reducible refine(g.out _).mono ?_);rintro e h ⟨rfl,c⟩)
  |(go_at_call 71;(with_reducible refine(a.out _).mono ?_);rintro e i ⟨rfl,d⟩))
 go_ret;exact⟨rfl,Af c d⟩
theorem gN {p:Prop}{w w':World}(a:p)(b:Bw w w'):Qo p w (.returned (.bool true)) w':=⟨true,rfl,⟨fun _=>a,fun _=>rfl⟩,b⟩
theorem gO {p:Prop}{w w':World}(a:¬ p)(b:Bw w w'):Qo p w (.returned (.bool false)) w':=⟨false,rfl,⟨(fun h=>by cases h),fun h=>absurd h a⟩,b⟩
theorem Xi (f:Fr)(w:World):Cq 54 #[.agg (Gc f)] w (Qo (¬ Full f) w):=by
 obtain⟨c,a,d,e,g⟩:=f
 by_cases h:a=⟨#[]⟩
 ·have b:=Hq (fun w' i=>gN (p:=¬ Full ⟨c,a,d,e,g⟩) (w:=w) (w':=w') (fun j=>j h) i)
  generalize Qo (¬ Full ⟨c,a,d,e,g⟩) w=Q at b ⊢;subst h;dsimp only[Gc];have k:=Zb;go_enter Tryz.func54,Tryz.ntmps54;go_wp2_with fail;exact b.out _ (Ag _ _)
 ·have b:=Hq (fun w' i=>gO (p:=¬ Full ⟨c,a,d,e,g⟩) (w:=w) (w':=w') (fun j=>j h) i)
  generalize Qo (¬ Full ⟨c,a,d,e,g⟩) w=Q at b ⊢;obtain⟨l,z2,z3⟩:=rZ h;clear h;dsimp only[Gc];go_enter Tryz.func54,Tryz.ntmps54;go_wp2_with fail;exact b.out _ (Ag _ _)
theorem vO (f:Fr)(x:Int)(b:Nat)(w:World)(B:w.cell? ⟨b,0,none⟩=some (.int .i64 x)):Cq 53 #[.agg (Gc f),.pointer (some ⟨b,0,none⟩)] w (Qo (Full f∧f.Ab=x) w):=by
 have u:=Hq (fun W=>Xi f W);have C:=Hq B;clear B;have v:b<w.heap.size:=by
  rcases Nat.lt_or_ge b w.heap.size with h|h
  ·exact h
  ·have D:=C.out
   rw[World.cell?,Array.getElem?_eq_none h]at D
   cases D
 have r:=Hq (fun W (d:Bw w W)=>show W.cell? ⟨b,0,none⟩=some (.int .i64 x)from by rw[d.cell (p:=⟨b,0,none⟩) v];exact C.out);have t:=Hq (fun w' d h=>gN (p:=Full f∧f.Ab=x) (w:=w) (w':=w') h d);have s:=Hq (fun w' d h=>gO (p:=Full f∧f.Ab=x) (w:=w) (w':=w') h d)
 by_cases k:Full f
 ·by_cases n:f.Ab=x
  ·have l:=Hq (fun w' d=>t.out w' d ⟨k,n⟩)
   generalize Qo (Full f∧f.Ab=x) w=Q at l ⊢;have y:(f.Ab==x)=true:=(by rw[n];exact beq_self_eq_true _);have g:=Hq k;clear k n t s;go_enter Tryz.func53,Tryz.ntmps53;go_upto_region 1 with fail;have i:=Hq (heap_alloc_new w (.cells (Gc f) 95));have j:=Hq (Ag w (.cells (Gc f) 95));obtain⟨E,c⟩:=ex (w.alloc (.cells (Gc f) 95));rw[← c]at i j ⊢;clear c
   go_wp2_with(first
    |with_reducible refine lL i.out J5 ?_
    |(go_at_call 54;refine(u.out _).mono ?_;rintro e o ⟨q,rfl,m,a⟩;obtain rfl:q=false:=(by cases q with|true=>exact absurd g.out (m.1 rfl)|false=>rfl);clear m;have z:=show o.cell? ⟨w.heap.size,0,none⟩=some (.int .i64 f.Ab)from(by rw[Aa (Ae i.out a)];rfl);have A:=r.out o (Af j.out a)))
   exact l.out _ (Af j.out a)
  ·have l:=Hq (fun w' d=>s.out w' d fun h=>n h.2)
   generalize Qo (Full f∧f.Ab=x) w=Q at l ⊢;have y:(f.Ab==x)=false:=beq_eq_false_iff_ne.2 n;have g:=Hq k;clear k n t s;go_enter Tryz.func53,Tryz.ntmps53;go_upto_region 1 with fail;have i:=Hq (heap_alloc_new w (.cells (Gc f) 95));have j:=Hq (Ag w (.cells (Gc f) 95));obtain⟨E,c⟩:=ex (w.alloc (.cells (Gc f) 95));rw[← c]at i j ⊢;clear c
   go_wp2_with(first
    |with_reducible refine lL i.out J5 ?_
    |(go_at_call 54;refine(u.out _).mono ?_;rintro e o ⟨q,rfl,m,a⟩;obtain rfl:q=false:=(by cases q with|true=>exact absurd g.out (m.1 rfl)|false=>rfl);clear m;have z:=show o.cell? ⟨w.heap.size,0,none⟩=some (.int .i64 f.Ab)from(by rw[Aa (Ae i.out a)];rfl);have A:=r.out o (Af j.out a)))
   exact l.out _ (Af j.out a)
 ·have l:=Hq (fun w' d=>s.out w' d fun h=>k h.1)
  generalize Qo (Full f∧f.Ab=x) w=Q at l ⊢;have g:=Hq k;clear k t s;go_enter Tryz.func53,Tryz.ntmps53;go_upto_region 1 with fail;have i:=Hq (heap_alloc_new w (.cells (Gc f) 95));have j:=Hq (Ag w (.cells (Gc f) 95));obtain⟨E,c⟩:=ex (w.alloc (.cells (Gc f) 95));rw[← c]at i j ⊢;clear c
  go_wp2_with(first
   |with_reducible refine lL i.out J5 ?_
   |(go_at_call 54;refine(u.out _).mono ?_;rintro e o ⟨q,rfl,m,a⟩;obtain rfl:q=true:=m.2 g.out;clear m))
  exact l.out _ (Af j.out a)
theorem Qp (s:Tx.St)(p:SP)(fs:List Fr)(B:fs.length≤1000)(x:Int)(w:World)(h:Ba w s p fs):
 Cq 19 #[Ar s p,x] w (Je (fun f=>Full f∧f.Ab=x) fs w):=by
 have r:=Hq (fun(b:Nat) W (d:Bw w W) (o:W.cell? ⟨b,0,none⟩=some (.int .i64 x)) (g:b<W.heap.size)=>Vb (fun f=>Full f∧f.Ab=x) 53 #[.pointer (some ⟨b,0,none⟩)] (enters_of Tryz.func53 Kr rfl) fs (by omega) p.F p.fc W (h.fr.below d) (fun f _ V t=>vO f x b V (by rw[t.cell (p:=⟨b,0,none⟩) g];exact o)));have j:=Hq h.fn;have q:=Hq (fun W e w' (d:Bw w W) (u:Je (fun f=>Full f∧f.Ab=x) fs W e w')=>show Je (fun f=>Full f∧f.Ab=x) fs w e w' from by
  obtain⟨k,v,y,z⟩:=u;exact⟨k,v,y,Af d z⟩)
 generalize Je (fun f=>Full f∧f.Ab=x) fs w=Q at q ⊢;clear h;go_enter Tryz.func19,Tryz.ntmps19;go_upto_region 1 with fail;have a:=O2 w (Au s p) 36 #[x] 3;obtain⟨l,c⟩:=Gz a;rw[← c]at a ⊢;clear c;have o:=show l.cell? ⟨w.heap.size,11,none⟩=some (.slice p.F fs.length p.fc)from by rw[Aa a.out.Am,← j.out];rfl
 have m:=Hq (r.out (w.heap.size+1) l a.out.below (by rw[Aa a.out.As];rfl) (a.out.lt (i:=1) (by simp)))
 go_wp2_with(go_at_call 52;(refine m.out.mono ?_);rintro e C ⟨k,rfl,A,n⟩)
 exact q.out l _ _ a.out.below ⟨k,rfl,A,n⟩
structure V5 (fs fs':List Fr):Prop where
 len:fs'.length=fs.length
 at_:∀ i (h:i<fs.length) (h':i<fs'.length),fs'[i]={fs[i]with mark:=fs'[i].mark}
theorem V5.refl (fs:List Fr):V5 fs fs:=⟨rfl,fun _ _ _=>rfl⟩
theorem V5.set {fs a:List Fr}(h:V5 fs a){k:Nat}(f:k<a.length)(m:Bool):V5 fs (a.set k {a[k]with mark:=m}):=by
 refine⟨by rw[List.length_set];exact h.len,fun i d b=>?_⟩;have j:=h.len;rcases Ku a k {a[k]with mark:=m} i b with⟨e,c⟩|⟨_,g,c⟩
 ·subst e
  rw[c,h.at_ i d f]
 ·rw[c];exact h.at_ i d g
theorem J4.marks {fs a:List Fr}(h:V5 fs a){p:Nat}(b:J4 fs p):J4 a p:=by
 obtain⟨i,c,d,f,g⟩:=b;have j:=h.len;have e:=h.at_ i c (by omega);exact⟨i,by omega,by rw[e];exact d,by rw[e];exact f,by rw[e];exact g⟩
structure Pm (M:Nat) (d:Lg.Dk):Prop where
 sz:∀ x∈d.Ad,x.size=128
 lb: -9223372036854775808≤d.left∧d.left≤9223372036854775807
 len:d.Ad.length=M
theorem Pm.write {M:Nat}{d:Lg.Dk}(h:Pm M d)(a:Int)(b:ByteArray):Pm M (Lg.Cf d a b).1:=by
 unfold Lg.Cf
 split
 ·exact h
 ·split
  ·exact h
  ·rename_i f
   split
   ·exact⟨h.sz,h.lb,h.len⟩
   ·refine⟨fun x g=>?_,?_,by show(d.Ad.set _ _).length=M;rw[List.length_set];exact h.len⟩
    ·rcases List.mem_or_eq_of_mem_set g with c|c
     ·exact h.sz x c
     ·rw[c]
      by_cases e:b.size=128
      ·exact e
      ·exact absurd (fun i=>e i.2) f
    ·have:=h.lb
     show _≤(if 0<d.left then d.left-1 else d.left)∧(if 0<d.left then d.left-1 else d.left)≤_
     split<;>omega
theorem Pm.Ci {M:Nat}(base:Int)(all:List ByteArray):∀ (i:Nat) (d:Lg.Dk),Pm M d→Pm M (Lg.Ci base all i d).1
 |0,_,h=>h
 |i+1,d,h=>by
  have h1:=h.write (base+(i:Int)) (all[i]?.getD ⟨#[]⟩);unfold Lg.Ci
  split
  ·exact Pm.Ci base all i _ h1
  ·exact h1
theorem Pm.force {M:Nat}{d:Lg.Dk}(h:Pm M d)(l:Lg.Lo):Pm M (Lg.A4 d l).1:=by
 unfold Lg.A4
 split
 ·exact h
 ·simp only
  split
  ·exact Pm.Ci _ _ _ _ h
  ·exact Pm.Ci _ _ _ _ h
def F5 (d:Lg.Dk)(a:Nat)(b:ByteArray):Nat→Lg.Dk×Int
 |0=>(d,0)
 |k+1=>if(F5 d a b k).2=0 then Lg.Cf (F5 d a b k).1 ((a:Int)+(k:Int)) (F8 b k)else F5 d a b k
theorem I5 {d:Lg.Dk}{a:Nat}{b:ByteArray}{k:Nat}(h:¬ (F5 d a b k).2=0):∀ j,F5 d a b (k+j)=F5 d a b k
 |0=>rfl
 |j+1=>by
  have ih:=I5 h j
  show(if(F5 d a b (k+j)).2=0 then _ else F5 d a b (k+j))=_
  rw[ih,if_neg h]
theorem He {d:Lg.Dk}{a:Nat}{b:ByteArray}{k:Nat}(h:(F5 d a b k).2=0):F5 d a b (k+1)=Lg.Cf (F5 d a b k).1 ((a:Int)+(k:Int)) (F8 b k):=by
 show(if(F5 d a b k).2=0 then _ else _)=_
 rw[if_pos h]
theorem Pm.F5 {M:Nat}{d:Lg.Dk}(h:Pm M d)(a:Nat)(b:ByteArray):∀ k,Pm M (F5 d a b k).1
 |0=>h
 |k+1=>by
  have ih:=Pm.F5 h a b k
  by_cases h0:(Go.Proofs.YtdfkambdagoojaaGreatDoor.F5 d a b k).2=0
  ·rw[He h0];exact ih.write _ _
  ·rw[I5 h0 1];exact ih
theorem vP {b:ByteArray}(k:Nat):b.extract (k*128) ((k+1)*128)=F8 b k:=by unfold F8;rw[show(k+1)*128=k*128+128 by omega]
structure Px where
 s:Tx.St
 fs:List Fr
 e:Int
def X9:Fr:=⟨0,⟨#[]⟩,0,false,0⟩
def Cz (fs:List Fr)(k:Nat):Fr:=fs[k]?.getD X9
theorem Bh {fs:List Fr}{k:Nat}(h:k<fs.length):Cz fs k=fs[k]:=by unfold Cz;rw[List.getElem?_eq_getElem h];rfl
def F9 (s:Tx.St)(p:Int):Nat:=(1+s.zlog+4*p).toNat
def D7 (s:Tx.St)(p:Int):ByteArray×Int:=
 if s.Ai.down=true then(⟨#[]⟩,20)else
 if Gm s.Ai (F9 s p)=M7 then(Gj 0,0)else
 if Jx (Gm s.Ai (F9 s p))=true then(Lw (Gm s.Ai (F9 s p)),0)else(⟨#[]⟩,19)
def Mg (n:Nat):Nat→Nat→List Fr→Option (Nat×List Fr)
 |0,_,_=>none
 |j+1,a,fs=>if 0<(Cz fs a).pins then Mg n j ((a+1)%n) fs else if(Cz fs a).mark=true then Mg n j ((a+1)%n) (fs.set a {Cz fs a with mark:=false})else some (a,fs)
def Cu (s:Tx.St)(fs:List Fr)(k:Nat):Px:=
 if(Cz fs k).rc=0 then⟨s,fs,0⟩else
 if ¬ (Lg.A4 s.Ai s.log).2.2=0 then⟨{s with Ai:=(Lg.A4 s.Ai s.log).1,log:=(Lg.A4 s.Ai s.log).2.1},fs,(Lg.A4 s.Ai s.log).2.2⟩else
 if ¬ (F5 (Lg.A4 s.Ai s.log).1 (F9 s (Cz fs k).Ab) (E5 (Cz fs k).bytes) 4).2=0 then
  ⟨{s with Ai:=(F5 (Lg.A4 s.Ai s.log).1 (F9 s (Cz fs k).Ab) (E5 (Cz fs k).bytes) 4).1,log:=(Lg.A4 s.Ai s.log).2.1},fs,(F5 (Lg.A4 s.Ai s.log).1 (F9 s (Cz fs k).Ab) (E5 (Cz fs k).bytes) 4).2⟩
 else⟨{s with Ai:=(F5 (Lg.A4 s.Ai s.log).1 (F9 s (Cz fs k).Ab) (E5 (Cz fs k).bytes) 4).1,log:=(Lg.A4 s.Ai s.log).2.1},fs.set k {Cz fs k with rc:=0},0⟩
noncomputable def Oz (fs:List Fr) (p:Int):Option Nat:=by
 classical exact fs.findIdx? fun f=>decide (Full f∧f.Ab=p)
noncomputable def Mh (fs:List Fr):Option Nat:=by
 classical exact fs.findIdx? fun f=>decide (¬ Full f)
theorem Vd {α:Type}{P:α→Bool}{l:List α}(h:∀ x∈l,P x=false):l.findIdx? P=none:=List.findIdx?_eq_none_iff.2 h
theorem Ve {α:Type}{P:α→Bool}{l:List α}{k:Nat}(a:k<l.length)(b:P l[k]=true)(c:∀ j (hj:j<l.length),j<k→P l[j]=false):l.findIdx? P=some k:=by
 rw[List.findIdx?_eq_some_iff_getElem];refine⟨a,b,fun j hj=>?_⟩;rw[c j (by omega) hj]
 decide
theorem Nz {fs:List Fr}{p:Int}(h:∀ x∈fs,¬ (Full x∧x.Ab=p)):Oz fs p=none:=by
 unfold Oz;exact Vd fun x a=>by simpa using h x a
theorem Qq {fs:List Fr}{p:Int}{k:Nat}(b:k<fs.length)(c:Full fs[k]∧fs[k].Ab=p)(d:∀ j (hj:j<fs.length),j<k→¬ (Full fs[j]∧fs[j].Ab=p)):Oz fs p=some k:=by
 unfold Oz;exact Ve b (by simpa using c) fun j hj a=>by simpa using d j hj a
theorem Vf {fs:List Fr}(h:∀ x∈fs,¬ ¬ Full x):Mh fs=none:=by
 unfold Mh;exact Vd fun x a=>by simpa using h x a
theorem Pn {fs:List Fr}{k:Nat}(b:k<fs.length)(c:¬ Full fs[k])(d:∀ j (hj:j<fs.length),j<k→¬ ¬ Full fs[j]):Mh fs=some k:=by
 unfold Mh;exact Ve b (by simpa using c) fun j hj a=>by simpa using d j hj a
noncomputable def Bc (s:Tx.St) (fs:List Fr):Px×Nat:=
 match Mh fs with
 |some k=>(⟨s,fs,0⟩,k)
 |none=>match Mg fs.length (2*fs.length) (s.hand.toNat%fs.length) fs with
  |none=>(⟨s,fs,18⟩,0)
  |some (k,fs')=>(Cu {s with hand:=(((k+1)%fs.length:Nat):Int)} fs' k,k)
def Dz (s:Tx.St)(fs:List Fr)(x:Px):Px:=if x.e=0∨x.e=20 then x else⟨s,fs,x.e⟩
def Im (s:Tx.St)(p:Int):Prop:=0≤p∧p<s.zpages
instance (s:Tx.St) (p:Int):Decidable (Im s p):=by unfold Im;exact inferInstance
noncomputable def Ao (s:Tx.St) (fs:List Fr) (p:Int):Px×Nat:=
 if ¬ Im s p then(⟨s,fs,1⟩,0)else
 match Oz fs p with
 |some k=>(⟨s,fs.set k {Cz fs k with mark:=true},0⟩,k)
 |none=>if ¬ (D7 s p).2=0 then(⟨s,fs,(D7 s p).2⟩,0)else
  if(Bc s fs).1.e=0 then(⟨(Bc s fs).1.s,(Bc s fs).1.fs.set (Bc s fs).2 ⟨p,(D7 s p).1,0,true,0⟩,0⟩,(Bc s fs).2)
  else(Dz s fs (Bc s fs).1,0)
noncomputable def J6 (s:Tx.St) (fs:List Fr) (p:Int):Px×ByteArray:=
 ((Ao s fs p).1,if(Ao s fs p).1.e=0 then(Cz (Ao s fs p).1.fs (Ao s fs p).2).bytes else⟨#[]⟩)
noncomputable def Qr (s:Tx.St) (fs:List Fr) (p:Int):Px:=
 if(Ao s fs p).1.e=0 then⟨(Ao s fs p).1.s,(Ao s fs p).1.fs.set (Ao s fs p).2 {Cz (Ao s fs p).1.fs (Ao s fs p).2 with pins:=(Cz (Ao s fs p).1.fs (Ao s fs p).2).pins+1},0⟩else(Ao s fs p).1
noncomputable def E7 (s:Tx.St) (fs:List Fr) (p:Int):Px:=
 if ¬ Im s p then⟨s,fs,1⟩else
 match Oz fs p with
 |none=>⟨s,fs,21⟩
 |some k=>if(Cz fs k).pins≤0 then⟨s,fs,21⟩else⟨s,fs.set k {Cz fs k with pins:=(Cz fs k).pins-1},0⟩
noncomputable def D4 (s:Tx.St) (fs:List Fr) (p:Int):Px:=
 if ¬ Im s p then⟨s,fs,1⟩else
 match Oz fs p with
 |none=>⟨s,fs,0⟩
 |some k=>Dz s fs (Cu s fs k)
def vQ (p:Int)(b:ByteArray):Rc.Rec:=⟨0,0,0,8,p,0,0,⟨7,0,⟨#[]⟩,b⟩,0,0,Rc.D6,[],[]⟩
noncomputable def Hf (s:Tx.St) (f:Fr) (p:Int):Lg.Lo×Int×Int:=if f.rc=0 then Lg.Bf s.log (vQ p f.bytes)else(s.log,f.rc,0)
def Lc (ts:List Rc.Cw)(i:Nat):Rc.Cw:=ts[i]?.getD ⟨0,0,0,false⟩
noncomputable def Tc (x:Px) (k i:Nat) (s:Tx.St) (fs:List Fr) (r:Rc.Rec) (b:ByteArray):Px:=
 let m:=Hf x.s (Cz x.fs k) r.Ab
 if ¬ m.2.2=0 then⟨s,fs,m.2.2⟩else
 let a:=Lg.Bf m.1 {r with prev:=(Lc x.s.txns i).last}
 if ¬ a.2.2=0 then⟨s,fs,a.2.2⟩else
 ⟨{x.s with log:=a.1,txns:=x.s.txns.set i {Lc x.s.txns i with last:=a.2.1,next:=if r.kind=3 then r.next else a.2.1}},x.fs.set k ⟨(Cz x.fs k).Ab,Cj b a.2.1,(Cz x.fs k).pins,true,m.2.1⟩,0⟩
noncomputable def Dy (s:Tx.St) (fs:List Fr) (r:Rc.Rec) (D:ByteArray→ByteArray×Int):Px:=
 if ¬ ((r.kind=2∨r.kind=3)∧Im s r.Ab)then⟨s,fs,1⟩else
 match s.txns.findIdx? fun a=>decide (a.txn=r.txn)with
 |none=>⟨s,fs,21⟩
 |some i=>if ¬ (Ao s fs r.Ab).1.e=0 then(Ao s fs r.Ab).1 else
  if ¬ (D (Cz (Ao s fs r.Ab).1.fs (Ao s fs r.Ab).2).bytes).2=0 then⟨s,fs,(D (Cz (Ao s fs r.Ab).1.fs (Ao s fs r.Ab).2).bytes).2⟩else
  Tc (Ao s fs r.Ab).1 (Ao s fs r.Ab).2 i s fs r (D (Cz (Ao s fs r.Ab).1.fs (Ao s fs r.Ab).2).bytes).1
end Go.Proofs.YtdfkambdagoojaaGreatDoor
